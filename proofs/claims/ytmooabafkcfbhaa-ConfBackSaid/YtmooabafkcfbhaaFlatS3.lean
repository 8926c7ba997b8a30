/-
  Soundness of the flat reading, third part: values out of cells; what goes over a bound.
-/
import Derived.Test.YtmooabafkcfbhaaFlatS2
namespace Go.Flat
open Go.RowKit (Below)

theorem castEl_some {a b : Ty} {x : El a} {y : El b} (h : castEl x = some y) : ∃ e : a = b, y = e ▸ x := by
  unfold castEl at h
  split at h
  · rename_i e; exact ⟨e, by simpa using h.symm⟩
  · cases h

/-- a block of one's own at a name -/
def atName (h : Heap) (E : EnvM) (n b : Nat) : Prop := ∃ ver blk L, h[n]? = some (ver, some blk) ∧ E.m n ver = some L ∧ L.blk = some b

/-- frozen, with the blocks of names -/
def FzPlus (F : Fz) (h : Heap) (E : EnvM) (ns : List Nat) : Fz := fun b => F b ∨ ∃ n ∈ ns, atName h E n b

section
variable {P : Program} {W : World} {F : Fz} {E : EnvM} {h : Heap} {N : Nat → Prop}

theorem later_plus (ns : List Nat) : Later W F W (FzPlus F h E ns) := ⟨rfl, rfl, rfl, Nat.le_refl _, fun _ _ => rfl, fun _ hb => .inl hb⟩
theorem later_plus_mono {ns ms : List Nat} (hs : ∀ n ∈ ns, n ∈ ms) : Later W (FzPlus F h E ns) W (FzPlus F h E ms) :=
  ⟨rfl, rfl, rfl, Nat.le_refl _, fun _ _ => rfl, fun _ hb => Or.elim hb .inl fun ⟨n, hn, k⟩ => .inr ⟨n, hs n hn, k⟩⟩

/-- How calls of closed values are answered soundly, by a function's number. -/
structure CallSound (cx : Cx) (call : Oracle cx) : Prop where
  plain : ∀ f s, cx.sig f = some s → Plain cx.P f
  calls : ∀ f s, cx.sig f = some s → s.back = [] → ∀ r, s.rs = [r] → closedTy r = true → oneTy r = true → ∀ (hr : cx.out f = r) (x : El (cx.arg f)) y, call f x = some y →
    ∀ W F vs, (∀ b, F b → b < W.heap.size) → RdArgs cx.P (cx.arg f) x W F vs →
      Calls cx.P f vs.toArray W fun e W' => ∃ v F', e = .returned v ∧ Grow W F W' F' ∧ formed r v ∧ Rd cx.P r (hr ▸ y) W' F' (one v)

/-- arguments and what was captured, one behind the other -/
theorem RdArgs.app : ∀ (a ct : Ty) (x : El a) (cv : El ct) (us vs : List Value), RdArgs P a x W F us → RdArgs P ct cv W F vs → RdArgs P (appTy a ct) (appEl a ct x cv) W F (us ++ vs) := by
  intro a
  induction a with
  | unit => intro ct x cv us vs h k; have : us = [] := h; subst this; exact k
  | pair p q _ ihq =>
    intro ct x cv us vs h k
    obtain ⟨v, r, rfl, h2, h3, h4⟩ := h
    exact ⟨v, r ++ vs, rfl, h2, h3, ihq ct x.2 cv r vs h4 k⟩
  | _ => intro ct x cv us vs h _; exact h.elim

theorem RdArgs.cast {a b : Ty} (e : a = b) {x : El a} {vs : List Value} (h : RdArgs P a x W F vs) : RdArgs P b (e ▸ x) W F vs := by subst e; exact h

theorem cloFn_rd {cx : Cx} {call : Oracle cx} (hc : CallSound cx call) {f : Nat} {ct : Ty} {cv : El ct} {a r : Ty} {p : El a → Option (El r)} (hp : cloFn cx call f ct cv a r = some p)
    {caps : Array Value} (hcap : RdArgs cx.P ct cv W F caps.toList) : Rd cx.P (.fn a r) p W F (fun j => if j = 0 then some (.func (.func f) #[] caps) else none) := by
  unfold cloFn at hp
  split at hp
  · cases hp
  rename_i s hs
  split at hp
  case h_2 => cases hp
  rename_i r' hb hrs
  split at hp
  case isFalse => cases hp
  rename_i hcl
  split at hp
  case isFalse => cases hp
  rename_i ha
  split at hp
  case isFalse => cases hp
  rename_i hr
  obtain ⟨h1, h2, h3⟩ := hcl
  subst h1
  injection hp with hp
  subst hp
  refine ⟨f, caps, rfl, hc.plain f s hs, fun W' F' vs y z hl hF hy hz => ?_⟩
  subst hr
  simp only at hz
  have hargs : RdArgs cx.P (cx.arg f) (ha ▸ appEl a ct y cv) W' F' (vs ++ caps.toList) := RdArgs.cast ha (RdArgs.app a ct y cv vs caps.toList hy (hcap.later hl))
  have := hc.calls f s hs hb _ hrs h2 h3 rfl _ z hz W' F' _ hF hargs
  have e : (vs ++ caps.toList).toArray = vs.toArray ++ caps := by simp
  rw [e] at this
  exact this

/-- how a closed leaf is read out of a cell -/
theorem leaf0_rd {cx : Cx} {call : Oracle cx} (hc : CallSound cx call) (hr : HR cx.P W F E N h) {t : Ty} {c : Cell} {x : El t} {ns : List Nat} (hp : leaf0 cx call h t c = some (x, ns))
    {v : Value} (hv : RdCell cx.P W F E c v) :
    width t = 1 ∧ agg t = false ∧ Rd cx.P t x W (FzPlus F h E ns) (fun j => if j = 0 then some v else none) := by
  have arr : ∀ (e : Ty) (n ver : Nat) (e' : Ty) (xs : List (El e')) (fr : Bool), h[n]? = some (ver, some (.arr e' xs fr)) → ∀ (hE : e' = e) L, E.m n ver = some L →
      (L = .nil ∧ xs = []) ∨ ∃ b cap, L = .arr b (width e') xs.length cap ∧ ArrAt cx.P W F b cap e' xs ∧ atName h E n b := by
    intro e n ver e' xs fr hn hE L hL
    obtain ⟨_, L', hL', hB⟩ := hr.blk n ver _ hn
    rw [hL] at hL'
    injection hL' with hL'
    subst hL'
    rcases hB with ⟨h1, h2⟩ | ⟨b, cap, h1, h2, _⟩
    · exact .inl ⟨h1, h2⟩
    · exact .inr ⟨b, cap, h1, h2, ver, _, L, hn, hL, by rw [h1]; rfl⟩
  have ext : ∀ n ver (e' : Ty) (xs : List (El e')) fr, h[n]? = some (ver, some (.arr e' xs fr)) → ∃ L, E.m n ver = some L := by
    intro n ver e' xs fr hn
    obtain ⟨_, L', hL', _⟩ := hr.blk n ver _ hn
    exact ⟨L', hL'⟩
  unfold leaf0 at hp
  split at hp
  · -- an array, whole
    rename_i e n ver
    split at hp
    case h_2 => cases hp
    rename_i ver' e' xs fr hn
    split at hp
    case isFalse => cases hp
    rename_i hver
    subst hver
    cases hcast : castEl (a := .slice e') (b := .slice e) xs with
    | none => rw [hcast] at hp; cases hp
    | some y =>
      rw [hcast] at hp
      simp only [Option.map_some, Option.some.injEq, Prod.mk.injEq] at hp
      obtain ⟨rfl, rfl⟩ := hp
      obtain ⟨he, rfl⟩ := castEl_some hcast
      injection he with he'
      subst he'
      refine ⟨rfl, rfl, ?_⟩
      obtain ⟨L, hL⟩ := ext n ver e' xs fr hn
      have hloc := hv.2.2 L hL
      rcases arr e' n ver e' xs fr hn rfl L hL with ⟨rfl, rfl⟩ | ⟨b, cap, rfl, hat, hname⟩
      · obtain ⟨a, rfl⟩ := hloc
        exact .inl ⟨rfl, a, rfl⟩
      · have hloc' : v = .slice (some ⟨b, 0, none⟩) xs.length cap := hloc
        subst hloc'
        obtain ⟨cs, T, k1, k2, k3, k4, k5, k6⟩ := hat
        refine .inr ⟨b, 0, cap, rfl, .inr ⟨n, by simp, hname⟩, k3, fun i hi => ?_⟩
        refine Rd.congr e' ?_ ((k6 i hi).later (later_plus [n]))
        intro j _
        simp only [mem, Nat.zero_add]
        rw [cell_of_row W b _ cs T (0, 0) k1]
  · -- a piece of an array
    rename_i e n ver off len
    split at hp
    case h_2 => cases hp
    rename_i ver' e' xs fr hn
    split at hp
    case isFalse => cases hp
    rename_i hver
    subst hver
    cases hcast : castEl (a := .slice e') (b := .slice e) ((xs.drop off).take len) with
    | none => rw [hcast] at hp; cases hp
    | some y =>
      rw [hcast] at hp
      simp only [Option.map_some, Option.some.injEq, Prod.mk.injEq] at hp
      obtain ⟨rfl, rfl⟩ := hp
      obtain ⟨he, rfl⟩ := castEl_some hcast
      injection he with he'
      subst he'
      refine ⟨rfl, rfl, ?_⟩
      obtain ⟨L, hL⟩ := ext n ver e' xs fr hn
      have hloc := hv.2.2 L hL
      rcases arr e' n ver e' xs fr hn rfl L hL with ⟨rfl, rfl⟩ | ⟨b, cap, rfl, hat, hname⟩
      · obtain ⟨⟨a, rfl⟩, rfl, rfl⟩ := hloc
        exact .inl ⟨rfl, a, rfl⟩
      · obtain ⟨hle, o, c, rfl, hlc, hoc⟩ := hloc
        obtain ⟨cs, T, k1, k2, k3, k4, k5, k6⟩ := hat
        have hlen : ((xs.drop off).take len).length = len := by simp; omega
        by_cases h0 : len = 0
        · subst h0
          by_cases hc0 : c = 0
          · subst hc0
            exact .inl ⟨rfl, _, rfl⟩
          · refine .inr ⟨b, o, c, by simp, .inr ⟨n, by simp, hname⟩, by simp, fun i hi => ?_⟩
            simp at hi
        · obtain ⟨ho, hcap⟩ := hoc (by omega)
          refine .inr ⟨b, o, c, by rw [hlen]; rfl, .inr ⟨n, by simp, hname⟩, by rw [hlen]; exact hlc, fun i hi => ?_⟩
          have hi' : i < len := by rw [hlen] at hi; exact hi
          have hget : ((xs.drop off).take len)[i] = xs[off + i]'(by omega) := by simp
          rw [hget]
          refine Rd.congr e' ?_ ((k6 (off + i) (by omega)).later (later_plus [n]))
          intro j _
          simp only [mem]
          rw [cell_of_row W b _ cs T (0, 0) k1, ho, Nat.add_mul]
  · -- the empty slice
    simp only [Option.some.injEq, Prod.mk.injEq] at hp
    obtain ⟨rfl, rfl⟩ := hp
    obtain ⟨a, rfl⟩ := hv
    exact ⟨rfl, rfl, .inl ⟨rfl, a, rfl⟩⟩
  · -- a pointer into closed memory
    rename_i e e' w off
    split at hp
    case isFalse => cases hp
    rename_i h0
    subst h0
    cases hcast : castEl (a := .ptr e') (b := .ptr e) w with
    | none => rw [hcast] at hp; cases hp
    | some y =>
      rw [hcast] at hp
      simp only [Option.map_some, Option.some.injEq, Prod.mk.injEq] at hp
      obtain ⟨rfl, rfl⟩ := hp
      obtain ⟨he, rfl⟩ := castEl_some hcast
      injection he with he'
      subst he'
      obtain ⟨b, o, rfl, k1, k2⟩ := hv
      exact ⟨rfl, rfl, b, o, rfl, .inl k1, k2.later (later_plus [])⟩
  · -- a closure
    rename_i a r f ct cv
    cases hcl : cloFn cx call f ct cv a r with
    | none => rw [hcl] at hp; cases hp
    | some p =>
      rw [hcl] at hp
      simp only [Option.map_some, Option.some.injEq, Prod.mk.injEq] at hp
      obtain ⟨rfl, rfl⟩ := hp
      obtain ⟨caps, rfl, k⟩ := hv
      exact ⟨rfl, rfl, (cloFn_rd hc hcl k).later (later_plus [])⟩
  · -- a closed leaf
    rename_i t' w
    cases hcast : castEl (a := t') (b := t) w with
    | none => rw [hcast] at hp; cases hp
    | some y =>
      rw [hcast] at hp
      simp only [Option.map_some, Option.some.injEq, Prod.mk.injEq] at hp
      obtain ⟨rfl, rfl⟩ := hp
      obtain ⟨he, rfl⟩ := castEl_some hcast
      subst he
      exact ⟨hv.1, hv.2.1, hv.2.2.later (later_plus [])⟩
  · cases hp


theorem FzPlus.left {ns ms : List Nat} : ∀ b, FzPlus F h E ns b → FzPlus F h E (ns ++ ms) b := fun b hb => Or.elim hb .inl fun ⟨n, hn, k⟩ => .inr ⟨n, by simp [hn], k⟩
theorem FzPlus.right {ns ms : List Nat} : ∀ b, FzPlus F h E ms b → FzPlus F h E (ns ++ ms) b := fun b hb => Or.elim hb .inl fun ⟨n, hn, k⟩ => .inr ⟨n, by simp [hn], k⟩
theorem Later.same {F F' : Fz} (hm : ∀ b, F b → F' b) : Later W F W F' := ⟨rfl, rfl, rfl, Nat.le_refl _, fun _ _ => rfl, hm⟩

/-- A closed value out of cells. -/
theorem parse0_rd {cx : Cx} {call : Oracle cx} (hc : CallSound cx call) (hr : HR cx.P W F E N h) : ∀ (t : Ty) (cs : List Cell) (x : El t) (rest : List Cell) (ns : List Nat),
    parse0 cx call h t cs = some (x, rest, ns) → ∀ vs : List Value, RdCells cx.P W F E cs vs →
      Rd cx.P t x W (FzPlus F h E ns) (fun j => vs[j]?) ∧ RdCells cx.P W F E rest (vs.drop (width t)) ∧ width t ≤ vs.length := by
  have leafCase : ∀ (t : Ty) (c : Cell) (cs : List Cell) (x : El t) (rest : List Cell) (ns : List Nat),
      (leaf0 cx call h t c).map (fun x => (x.1, cs, x.2)) = some (x, rest, ns) → ∀ vs : List Value, RdCells cx.P W F E (c :: cs) vs →
      Rd cx.P t x W (FzPlus F h E ns) (fun j => vs[j]?) ∧ RdCells cx.P W F E rest (vs.drop (width t)) ∧ width t ≤ vs.length := by
    intro t c cs x rest ns hp vs hv
    obtain ⟨v, r, rfl, h1, h2, h3⟩ := hv.uncons
    cases hl : leaf0 cx call h t c with
    | none => rw [hl] at hp; cases hp
    | some y =>
      rw [hl] at hp
      simp only [Option.map_some, Option.some.injEq, Prod.mk.injEq] at hp
      obtain ⟨rfl, rfl, rfl⟩ := hp
      obtain ⟨k1, k2, k3⟩ := leaf0_rd (x := y.1) (ns := y.2) hc hr hl h1
      refine ⟨Rd.congr t ?_ k3, by rw [k1]; exact h3, by rw [k1]; simp⟩
      intro j hj
      have : j = 0 := by omega
      subst this
      simp
  intro t
  induction t with
  | unit =>
    intro cs x rest ns hp vs hv
    simp only [parse0] at hp
    injection hp with hp
    injection hp with _ hp
    injection hp with h1 h2
    subst h1
    exact ⟨trivial, hv, Nat.zero_le _⟩
  | pair a b iha ihb =>
    intro cs x rest ns hp vs hv
    simp only [parse0] at hp
    cases h1 : parse0 cx call h a cs with
    | none => rw [h1] at hp; cases hp
    | some y =>
      rw [h1] at hp
      simp only [Option.bind_some] at hp
      cases h2 : parse0 cx call h b y.2.1 with
      | none => rw [h2] at hp; cases hp
      | some z =>
        rw [h2] at hp
        simp only [Option.map_some, Option.some.injEq, Prod.mk.injEq] at hp
        obtain ⟨rfl, rfl, rfl⟩ := hp
        obtain ⟨k1, k2, k3⟩ := iha cs y.1 y.2.1 y.2.2 h1 vs hv
        obtain ⟨m1, m2, m3⟩ := ihb y.2.1 z.1 z.2.1 z.2.2 h2 _ k2
        refine ⟨⟨k1.later (Later.same FzPlus.left), ?_⟩, ?_, ?_⟩
        · refine Rd.congr b ?_ (m1.later (Later.same FzPlus.right))
          intro j _
          simp
        · simpa [width] using m2
        · simp [width] at m3 ⊢; omega
  | wrap e ih =>
    intro cs x rest ns hp vs hv
    exact ih cs x rest ns (by simpa only [parse0] using hp) vs hv
  | _ =>
    intro cs x rest ns hp vs hv
    cases cs with
    | nil => simp [parse0] at hp
    | cons c cs =>
      simp only [parse0] at hp
      exact leafCase _ c cs x rest ns hp vs hv

theorem parseAll_rd {cx : Cx} {call : Oracle cx} (hc : CallSound cx call) (hr : HR cx.P W F E N h) {t : Ty} {cs : List Cell} {x : El t} {ns : List Nat}
    (hp : parseAll cx call h t cs = some (x, ns)) {vs : List Value} (hv : RdCells cx.P W F E cs vs) :
    Rd cx.P t x W (FzPlus F h E ns) (fun j => vs[j]?) ∧ vs.length = width t := by
  unfold parseAll at hp
  cases h1 : parse0 cx call h t cs with
  | none => rw [h1] at hp; cases hp
  | some y =>
    rw [h1] at hp
    simp only [Option.bind_some] at hp
    split at hp
    · rename_i hnil
      simp only [Option.some.injEq, Prod.mk.injEq] at hp
      obtain ⟨rfl, rfl⟩ := hp
      obtain ⟨k1, k2, k3⟩ := parse0_rd hc hr t cs y.1 y.2.1 y.2.2 h1 vs hv
      rw [hnil] at k2
      have := k2.1
      simp at this
      exact ⟨k1, by omega⟩
    · cases hp

end
end Go.Flat
