/-
  Soundness of the flat reading, twenty-fifth part: what goes over a bound.
-/
import Derived.Test.YtmooabafkcfbhaaFlatTF
namespace Go.Flat
open Go.RowKit (Below)

/-- HOW A VALUE READS THAT GOES OVER A BOUND; O: the blocks that go with it. -/
def RdB (P : Program) : (t : Ty) → El t → World → Fz → List Nat → Get → Prop
  | .unit, _, _, _, O, _ => O = []
  | .pair a b, x, W, F, O, g => ∃ O1 O2, O = O1 ++ O2 ∧ RdB P a x.1 W F O1 g ∧ RdB P b x.2 W F O2 (fun j => g (width a + j))
  | .wrap e, x, W, F, O, g => RdB P e x W F O g
  | .own e, x, W, F, O, g => (x = [] ∧ O = [] ∧ ∃ p, g 0 = some (.slice p 0 0)) ∨ ∃ b cap, g 0 = some (.slice (some ⟨b, 0, none⟩) x.length cap) ∧ ArrAt P W F b cap e x ∧ O = [b]
  | .ref e, x, W, F, O, g => ∃ b arr T O', g 0 = some (.pointer (some ⟨b, 0, none⟩)) ∧ W.heap[b]? = some (.cells arr T (0, 0)) ∧ arr.size = width e ∧ (∀ v ∈ arr.toList, v.oneCell' = true) ∧
      O = b :: O' ∧ RdB P e x W F O' (fun j => arr[j]?)
  | .opt e, x, W, F, O, g => match x with
    | none => O = [] ∧ g 0 = some (.pointer none)
    | some y => width e = 1 ∧ RdB P e y W F O g
  | .bool, x, W, F, O, g => O = [] ∧ Rd P .bool x W F g
  | .int k, x, W, F, O, g => O = [] ∧ Rd P (.int k) x W F g
  | .str, x, W, F, O, g => O = [] ∧ Rd P .str x W F g
  | .slice e, x, W, F, O, g => O = [] ∧ Rd P (.slice e) x W F g
  | .ptr e, x, W, F, O, g => O = [] ∧ Rd P (.ptr e) x W F g
  | .fn a r, x, W, F, O, g => O = [] ∧ Rd P (.fn a r) x W F g

section
variable {P : Program} {W W' : World} {F F' : Fz}

theorem Rd.toB : ∀ (t : Ty) {x : El t} {g : Get}, Rd P t x W F g → RdB P t x W F [] g := by
  intro t
  induction t with
  | unit => exact fun _ => rfl
  | pair a b iha ihb => exact fun h => ⟨[], [], rfl, iha h.1, ihb h.2⟩
  | wrap e ih => exact fun h => ih h
  | own e _ => exact fun h => h.elim
  | ref e _ => exact fun h => h.elim
  | opt e _ => exact fun h => h.elim
  | _ => exact fun h => ⟨rfl, h⟩

theorem RdB.toRd : ∀ (t : Ty) {x : El t} {O : List Nat} {g : Get}, closedTy t = true → RdB P t x W F O g → O = [] ∧ Rd P t x W F g := by
  intro t
  induction t with
  | unit => exact fun _ h => ⟨h, trivial⟩
  | pair a b iha ihb =>
    intro x O g hc h
    simp only [closedTy, Bool.and_eq_true] at hc
    obtain ⟨O1, O2, rfl, h1, h2⟩ := h
    obtain ⟨rfl, k1⟩ := iha hc.1 h1
    obtain ⟨rfl, k2⟩ := ihb hc.2 h2
    exact ⟨rfl, k1, k2⟩
  | wrap e ih => exact fun hc h => ih hc h
  | own e _ => intro x O g hc; cases hc
  | ref e _ => intro x O g hc; cases hc
  | opt e _ => intro x O g hc; cases hc
  | _ => exact fun _ h => h

theorem RdB.congr : ∀ (t : Ty) {x : El t} {O : List Nat} {g g' : Get}, (∀ j, j < width t → g' j = g j) → RdB P t x W F O g → RdB P t x W F O g' := by
  intro t
  induction t with
  | unit => exact fun _ h => h
  | pair a b iha ihb =>
    intro x O g g' hg h
    obtain ⟨O1, O2, h0, h1, h2⟩ := h
    exact ⟨O1, O2, h0, iha (fun j hj => hg j (by simp [width]; omega)) h1, ihb (fun j hj => hg _ (by simp [width]; omega)) h2⟩
  | wrap e ih => exact fun hg h => ih hg h
  | own e _ =>
    intro x O g g' hg h
    have h0 := hg 0 (by simp [width])
    rcases h with ⟨h1, h2, p, h3⟩ | ⟨b, cap, h1, h2⟩
    · exact .inl ⟨h1, h2, p, h0.trans h3⟩
    · exact .inr ⟨b, cap, h0.trans h1, h2⟩
  | ref e _ =>
    intro x O g g' hg h
    obtain ⟨b, arr, T, O', h1, h2⟩ := h
    exact ⟨b, arr, T, O', (hg 0 (by simp [width])).trans h1, h2⟩
  | opt e ih =>
    intro x O g g' hg h
    cases x with
    | none => exact ⟨h.1, (hg 0 (by simp [width])).trans h.2⟩
    | some y => exact ⟨h.1, ih (fun j hj => hg j (by have := h.1; simp [width]; omega)) h.2⟩
  | _ => exact fun hg h => ⟨h.1, Rd.congr _ hg h.2⟩

theorem ArrAt.later {b cap : Nat} {e : Ty} {xs : List (El e)} (h : ArrAt P W F b cap e xs) (hl : Later W F W' F') (hb : W'.heap[b]? = W.heap[b]?) : ArrAt P W' F' b cap e xs := by
  obtain ⟨cs, T, k1, k2, k3, k4, k5, k6⟩ := h
  exact ⟨cs, T, hb.trans k1, k2, k3, k4, k5, fun i hi => (k6 i hi).later hl⟩

theorem ArrAt.take {b cap n : Nat} {e : Ty} {xs : List (El e)} (h : ArrAt P W F b cap e xs) : ArrAt P W F b cap e (xs.take n) := by
  obtain ⟨cs, T, k1, k2, k3, k4, k5, k6⟩ := h
  refine ⟨cs, T, k1, k2, by rw [List.length_take]; omega, k4, k5, fun i hi => ?_⟩
  rw [List.length_take] at hi
  have := k6 i (by omega)
  simpa using this

theorem RdB.later : ∀ (t : Ty) {x : El t} {O : List Nat} {g : Get}, RdB P t x W F O g → Later W F W' F' → (∀ b ∈ O, W'.heap[b]? = W.heap[b]?) → RdB P t x W' F' O g := by
  intro t
  induction t with
  | unit => exact fun h _ _ => h
  | pair a b iha ihb =>
    intro x O g h hl hO
    obtain ⟨O1, O2, rfl, h1, h2⟩ := h
    exact ⟨O1, O2, rfl, iha h1 hl (fun b hb => hO b (by simp [hb])), ihb h2 hl (fun b hb => hO b (by simp [hb]))⟩
  | wrap e ih => exact fun h hl hO => ih h hl hO
  | own e _ =>
    intro x O g h hl hO
    rcases h with h | ⟨b, cap, h1, h2, rfl⟩
    · exact .inl h
    · exact .inr ⟨b, cap, h1, h2.later hl (hO b (by simp)), rfl⟩
  | ref e ih =>
    intro x O g h hl hO
    obtain ⟨b, arr, T, O', h1, h2, h3, h4, rfl, h5⟩ := h
    exact ⟨b, arr, T, O', h1, (hO b (by simp)).trans h2, h3, h4, rfl, ih h5 hl (fun b hb => hO b (by simp [hb]))⟩
  | opt e ih =>
    intro x O g h hl hO
    cases x with
    | none => exact h
    | some y => exact ⟨h.1, ih h.2 hl hO⟩
  | _ => exact fun h hl _ => ⟨h.1, h.2.later hl⟩

/-- the blocks lie in the heap -/
theorem RdB.lt : ∀ (t : Ty) {x : El t} {O : List Nat} {g : Get}, RdB P t x W F O g → ∀ b ∈ O, b < W.heap.size := by
  intro t
  induction t with
  | unit => intro x O g h b hb; have : O = [] := h; rw [this] at hb; cases hb
  | pair a b iha ihb =>
    intro x O g h c hc
    obtain ⟨O1, O2, rfl, h1, h2⟩ := h
    rcases List.mem_append.1 hc with hc | hc
    · exact iha h1 c hc
    · exact ihb h2 c hc
  | wrap e ih => exact fun h => ih h
  | own e _ =>
    intro x O g h c hc
    rcases h with ⟨_, rfl, _⟩ | ⟨b, cap, h1, ⟨cs, T, k1, _⟩, rfl⟩
    · cases hc
    · simp at hc; subst hc; exact lt_of_getElem? k1
  | ref e ih =>
    intro x O g h c hc
    obtain ⟨b, arr, T, O', h1, h2, h3, h4, rfl, h5⟩ := h
    rcases List.mem_cons.1 hc with rfl | hc
    · exact lt_of_getElem? h2
    · exact ih h5 c hc
  | opt e ih =>
    intro x O g h c hc
    cases x with
    | none => rw [h.1] at hc; cases hc
    | some y => exact ih h.2 c hc
  | _ => intro x O g h c hc; rw [h.1] at hc; cases hc

/-- codes that share nothing need no frozen memory -/
theorem ArrAt.noshare {b cap : Nat} {e : Ty} {xs : List (El e)} (hs : shares e = false) (h : ArrAt P W F b cap e xs) : ArrAt P W F' b cap e xs := by
  obtain ⟨cs, T, k1, k2, k3, k4, k5, k6⟩ := h
  exact ⟨cs, T, k1, k2, k3, k4, k5, fun i hi => (k6 i hi).noshare e hs⟩

theorem RdB.noshare : ∀ (t : Ty) {x : El t} {O : List Nat} {g : Get}, shares t = false → RdB P t x W F O g → RdB P t x W F' O g := by
  intro t
  induction t with
  | unit => exact fun _ h => h
  | pair a b iha ihb =>
    intro x O g hs h
    simp only [shares, Bool.or_eq_false_iff] at hs
    obtain ⟨O1, O2, h0, h1, h2⟩ := h
    exact ⟨O1, O2, h0, iha hs.1 h1, ihb hs.2 h2⟩
  | wrap e ih => exact fun hs h => ih hs h
  | own e _ =>
    intro x O g hs h
    rcases h with h | ⟨b, cap, h1, h2, h3⟩
    · exact .inl h
    · exact .inr ⟨b, cap, h1, h2.noshare hs, h3⟩
  | ref e ih =>
    intro x O g hs h
    obtain ⟨b, arr, T, O', h1, h2, h3, h4, h5, h6⟩ := h
    exact ⟨b, arr, T, O', h1, h2, h3, h4, h5, ih hs h6⟩
  | opt e ih =>
    intro x O g hs h
    cases x with
    | none => exact h
    | some y => exact ⟨h.1, ih hs h.2⟩
  | slice e _ => intro x O g hs; cases hs
  | ptr e _ => intro x O g hs; cases hs
  | fn a r _ _ => intro x O g hs; cases hs
  | _ => exact fun hs h => ⟨h.1, h.2.noshare _ hs⟩

end

section
variable {cx : Cx} {call : Oracle cx} {fx : Hints} {W W' : World} {F F' : Fz} {E E' : EnvM} {h : Heap} {N : Nat → Prop} {ρ : Operand → V} {a : Act} {R : Type}

/-- what goes with a value: of each block the name -/
structure Takes (F : Fz) (h : Heap) (E : EnvM) (taken : List Nat) (O : List Nat) : Prop where
  at_ : ∀ b ∈ O, ∃ n ∈ taken, atName h E n b
  free : ∀ b ∈ O, ¬ F b
  nodup : taken.Nodup → O.Nodup

theorem Takes.nil {taken : List Nat} : Takes F h E taken [] := ⟨(fun b hb => by cases hb), (fun b hb => by cases hb), fun _ => List.nodup_nil⟩
theorem Takes.append {P : Program} {t1 t2 O1 O2 : List Nat} (hr : HR P W F E N h) (h1 : Takes F h E t1 O1) (h2 : Takes F h E t2 O2) : Takes F h E (t1 ++ t2) (O1 ++ O2) := by
  refine ⟨fun b hb => ?_, fun b hb => ?_, fun hn => ?_⟩
  · rcases List.mem_append.1 hb with hb | hb
    · obtain ⟨n, hn, k⟩ := h1.at_ b hb; exact ⟨n, by simp [hn], k⟩
    · obtain ⟨n, hn, k⟩ := h2.at_ b hb; exact ⟨n, by simp [hn], k⟩
  · rcases List.mem_append.1 hb with hb | hb
    · exact h1.free b hb
    · exact h2.free b hb
  · rw [List.nodup_append] at hn ⊢
    refine ⟨h1.nodup hn.1, h2.nodup hn.2.1, fun b hb1 c hc1 e => ?_⟩
    subst e
    obtain ⟨n, hn1, k1⟩ := h1.at_ b hb1
    obtain ⟨m, hm1, k2⟩ := h2.at_ b hc1
    exact hn.2.2 n hn1 m hm1 (atName_fun hr k1 k2)

theorem packB_rd (hc : CallSound cx call) (hr : HR cx.P W F E N h) : ∀ (t : Ty) (cs : List Cell) (x : El t) (rest : List Cell) (taken lent : List Nat),
    packB cx call h t cs = some (x, rest, taken, lent) → ∀ vs : List Value, RdCells cx.P W F E cs vs →
      ∃ O, RdB cx.P t x W (FzPlus F h E lent) O (fun j => vs[j]?) ∧ Takes F h E taken O ∧ RdCells cx.P W F E rest (vs.drop (width t)) ∧ width t ≤ vs.length := by
  intro t
  have leafCase : ∀ (t : Ty), (∀ (x : El t) W F g, Rd cx.P t x W F g → RdB cx.P t x W F [] g) → ∀ (c : Cell) (cs : List Cell) (x : El t) (rest : List Cell) (taken lent : List Nat),
      (leaf cx call h t c).map (fun x => (x.1, cs, ([] : List Nat), x.2)) = some (x, rest, taken, lent) → ∀ vs : List Value, RdCells cx.P W F E (c :: cs) vs →
      ∃ O, RdB cx.P t x W (FzPlus F h E lent) O (fun j => vs[j]?) ∧ Takes F h E taken O ∧ RdCells cx.P W F E rest (vs.drop (width t)) ∧ width t ≤ vs.length := by
    intro t hB c cs x rest taken lent hp vs hv
    obtain ⟨v, r, rfl, h1, h2, h3⟩ := hv.uncons
    simp only [Option.map_eq_some_iff] at hp
    obtain ⟨y, hy, hxy⟩ := hp
    simp only [Prod.mk.injEq] at hxy
    obtain ⟨rfl, rfl, rfl, rfl⟩ := hxy
    obtain ⟨k1, k2, k3⟩ := leaf_rd hc hr (x := y.1) (ns := y.2) hy h1
    refine ⟨[], hB _ _ _ _ (Rd.congr t (fun j hj => ?_) k3), Takes.nil, by rw [k1]; exact h3, by rw [k1]; simp⟩
    have : j = 0 := by omega
    subst this
    simp
  induction t with
  | unit =>
    intro cs x rest taken lent hp vs hv
    simp only [packB, Option.some.injEq, Prod.mk.injEq] at hp
    obtain ⟨_, rfl, rfl, rfl⟩ := hp
    exact ⟨[], rfl, Takes.nil, hv, Nat.zero_le _⟩
  | pair a b iha ihb =>
    intro cs x rest taken lent hp vs hv
    simp only [packB] at hp
    cases h1 : packB cx call h a cs with
    | none => rw [h1] at hp; cases hp
    | some y =>
      rw [h1] at hp
      simp only [Option.bind_some] at hp
      cases h2 : packB cx call h b y.2.1 with
      | none => rw [h2] at hp; cases hp
      | some z =>
        rw [h2] at hp
        simp only [Option.map_some, Option.some.injEq, Prod.mk.injEq] at hp
        obtain ⟨rfl, rfl, rfl, rfl⟩ := hp
        obtain ⟨O1, k1, k2, k3, k4⟩ := iha cs y.1 y.2.1 y.2.2.1 y.2.2.2 h1 vs hv
        obtain ⟨O2, m1, m2, m3, m4⟩ := ihb y.2.1 z.1 z.2.1 z.2.2.1 z.2.2.2 h2 _ k3
        refine ⟨O1 ++ O2, ⟨O1, O2, rfl, k1.later a (Later.same FzPlus.left) (fun _ _ => rfl), ?_⟩, k2.append hr m2, ?_, ?_⟩
        · refine RdB.congr b ?_ (m1.later b (Later.same FzPlus.right) (fun _ _ => rfl))
          intro j _
          simp
        · simpa [width] using m3
        · simp [width] at m4 ⊢; omega
  | wrap e ih =>
    intro cs x rest taken lent hp vs hv
    exact ih cs x rest taken lent (by simpa only [packB] using hp) vs hv
  | own e _ =>
    intro cs x rest taken lent hp vs hv
    cases cs with
    | nil => simp [packB] at hp
    | cons c cs =>
      obtain ⟨v, r, rfl, h1, h2, h3⟩ := hv.uncons
      simp only [packB] at hp
      split at hp
      case h_4 => cases hp
      · simp only [Option.some.injEq, Prod.mk.injEq] at hp
        obtain ⟨rfl, rfl, rfl, rfl⟩ := hp
        obtain ⟨p, rfl⟩ := h1
        exact ⟨[], .inl ⟨rfl, rfl, p, rfl⟩, Takes.nil, h3, by simp [width]⟩
      · rename_i n ver
        split at hp
        case h_2 => cases hp
        rename_i ver' e' xs hn
        split at hp
        case isFalse => cases hp
        rename_i hver
        subst hver
        simp only [Option.map_eq_some_iff] at hp
        obtain ⟨ys, hy, hxy⟩ := hp
        simp only [Prod.mk.injEq] at hxy
        obtain ⟨rfl, rfl, rfl, rfl⟩ := hxy
        obtain ⟨he, hys⟩ := castEl_some hy
        injection he with he
        subst he
        simp only at hys
        subst hys
        obtain ⟨g1, g2, g3⟩ := h1
        rw [fzPlus_nil]
        rcases blk_arr hr hn with ⟨q1, rfl⟩ | ⟨b, cap, q1, q2, q3, _⟩
        · obtain ⟨p, rfl⟩ : RdLoc (.lall n ver) .nil v := g3 _ q1
          exact ⟨[], .inl ⟨rfl, rfl, p, rfl⟩, Takes.nil, h3, by simp [width]⟩
        · have hp : v = .slice (some ⟨b, 0, none⟩) ys.length cap := g3 _ q1
          subst hp
          refine ⟨[b], .inr ⟨b, cap, rfl, q2, rfl⟩, ⟨fun c hc => ?_, fun c hc => ?_, fun _ => by simp⟩, h3, by simp [width]⟩
          · simp at hc; subst hc; exact ⟨n, by simp, ver, _, _, hn, q1, rfl⟩
          · simp at hc; subst hc; exact q3 rfl
      · rename_i n ver off len
        split at hp
        case h_2 => cases hp
        rename_i ver' e' xs hn
        split at hp
        case isFalse => cases hp
        rename_i hver
        obtain ⟨hver, hoff⟩ := hver
        subst hver; subst hoff
        simp only [Option.map_eq_some_iff] at hp
        obtain ⟨ys, hy, hxy⟩ := hp
        simp only [Prod.mk.injEq] at hxy
        obtain ⟨rfl, rfl, rfl, rfl⟩ := hxy
        obtain ⟨he, hys⟩ := castEl_some hy
        injection he with he
        subst he
        simp only at hys
        subst hys
        obtain ⟨g1, g2, g3⟩ := h1
        rw [fzPlus_nil]
        rcases blk_arr hr hn with ⟨q1, rfl⟩ | ⟨b, cap, q1, q2, q3, _⟩
        · obtain ⟨⟨p, rfl⟩, rfl, _⟩ : RdLoc (.lsl n ver 0 len) .nil v := g3 _ q1
          exact ⟨[], .inl ⟨by simp, rfl, p, rfl⟩, Takes.nil, h3, by simp [width]⟩
        · obtain ⟨hle, o', c, rfl, hlc, hoc⟩ : RdLoc (.lsl n ver 0 len) (.arr b (width e') xs.length cap) v := g3 _ q1
          rcases Nat.eq_zero_or_pos c with rfl | hpos
          · have : len = 0 := by omega
            subst this
            exact ⟨[], .inl ⟨by simp, rfl, _, rfl⟩, Takes.nil, h3, by simp [width]⟩
          · obtain ⟨k1, k2⟩ := hoc hpos
            have e1 : o' = 0 := by simpa using k1
            have e2 : c = cap := by omega
            subst e1; subst e2
            have hlen : (xs.take len).length = len := by rw [List.length_take]; omega
            refine ⟨[b], .inr ⟨b, c, by rw [hlen]; rfl, q2.take, rfl⟩, ⟨fun c hc => ?_, fun c hc => ?_, fun _ => by simp⟩, h3, by simp [width]⟩
            · simp at hc; subst hc; exact ⟨n, by simp, ver, _, _, hn, q1, rfl⟩
            · simp at hc; subst hc; exact q3 rfl
  | ref e ih =>
    intro cs x rest taken lent hp vs hv
    cases cs with
    | nil => simp [packB] at hp
    | cons c cs =>
      obtain ⟨v, r, rfl, h1, h2, h3⟩ := hv.uncons
      simp only [packB] at hp
      split at hp
      case h_2 => cases hp
      rename_i n ver off
      split at hp
      case h_2 => cases hp
      rename_i ver' bt bs hn
      split at hp
      case isFalse => cases hp
      rename_i hver
      obtain ⟨hver, hoff⟩ := hver
      subst hver; subst hoff
      cases hq : packB cx call h e bs with
      | none => rw [hq] at hp; cases hp
      | some y =>
        rw [hq] at hp
        simp only [Option.bind_some] at hp
        split at hp
        case h_2 => cases hp
        rename_i hnil
        simp only [Option.some.injEq, Prod.mk.injEq] at hp
        obtain ⟨rfl, rfl, rfl, rfl⟩ := hp
        obtain ⟨b, arr, T, q1, q2, q3, q4, q5, _⟩ := blk_box hr hn
        obtain ⟨O, k1, k2, k3, k4⟩ := ih bs y.1 y.2.1 y.2.2.1 y.2.2.2 hq _ q3
        rw [hnil] at k3
        have hw : arr.size = width e := by have := k3.1; simp at this; simp at k4; omega
        have hp : v = .pointer (some ⟨b, 0, none⟩) := h1.2.2 _ q1
        subst hp
        have hat : atName h E n b := ⟨ver, _, _, hn, q1, rfl⟩
        refine ⟨b :: O, ⟨b, arr, T, O, rfl, q2, hw, RdCells.one_all q3, rfl, ?_⟩, ⟨fun c hc => ?_, fun c hc => ?_, fun hnd => ?_⟩, h3, by simp [width]⟩
        · simpa using k1
        · rcases List.mem_cons.1 hc with rfl | hc
          · exact ⟨n, by simp, hat⟩
          · obtain ⟨m, hm, k⟩ := k2.at_ c hc; exact ⟨m, by simp [hm], k⟩
        · rcases List.mem_cons.1 hc with rfl | hc
          · exact q5 rfl
          · exact k2.free c hc
        · rw [List.nodup_cons] at hnd ⊢
          refine ⟨fun hb => ?_, k2.nodup hnd.2⟩
          obtain ⟨m, hm, k⟩ := k2.at_ b hb
          exact hnd.1 (atName_fun hr hat k ▸ hm)
  | opt e ih =>
    intro cs x rest taken lent hp vs hv
    cases cs with
    | nil => simp [packB] at hp
    | cons c cs =>
      obtain ⟨v, r, rfl, h1, h2, h3⟩ := hv.uncons
      have some_ : (packB cx call h e [c]).bind (fun x => match x.2.1 with | [] => some (some x.1, cs, x.2.2) | _ => none) = some (x, rest, taken, lent) →
          ∃ O, RdB cx.P (.opt e) x W (FzPlus F h E lent) O (fun j => (v :: r)[j]?) ∧ Takes F h E taken O ∧ RdCells cx.P W F E rest ((v :: r).drop (width (.opt e))) ∧ width (.opt e) ≤ (v :: r).length := by
        intro hp
        cases hq : packB cx call h e [c] with
        | none => rw [hq] at hp; cases hp
        | some y =>
          rw [hq] at hp
          simp only [Option.bind_some] at hp
          split at hp
          case h_2 => cases hp
          rename_i hnil
          simp only [Option.some.injEq, Prod.mk.injEq] at hp
          obtain ⟨rfl, rfl, h4⟩ := hp
          obtain ⟨O, k1, k2, k3, k4⟩ := ih [c] y.1 y.2.1 y.2.2.1 y.2.2.2 hq [v] (RdCells.one h1 h2)
          rw [h4] at k1 k2
          rw [hnil] at k3
          have hl := k3.1
          simp at hl k4
          by_cases hw : width e = 1
          · refine ⟨O, ⟨hw, RdB.congr e (fun j hj => ?_) k1⟩, k2, h3, by simp [width]⟩
            have : j = 0 := by omega
            subst this; rfl
          · exfalso; omega
      unfold packB at hp
      cases c with
      | np =>
        simp only [Option.some.injEq, Prod.mk.injEq] at hp
        obtain ⟨rfl, rfl, rfl, rfl⟩ := hp
        have : v = .pointer none := h1
        subst this
        exact ⟨[], ⟨rfl, rfl⟩, Takes.nil, h3, by simp [width]⟩
      | _ => exact some_ hp
  | _ =>
    intro cs x rest taken lent hp vs hv
    cases cs with
    | nil => simp [packB] at hp
    | cons c cs =>
      simp only [packB] at hp
      exact leafCase _ (fun _ _ _ _ h => h.toB) c cs x rest taken lent hp vs hv

theorem packAll_rd (hc : CallSound cx call) (hr : HR cx.P W F E N h) {t : Ty} {cs : List Cell} {x : El t} {taken lent : List Nat}
    (hp : packAll cx call h t cs = some (x, taken, lent)) {vs : List Value} (hv : RdCells cx.P W F E cs vs) :
    ∃ O, RdB cx.P t x W (FzPlus F h E lent) O (fun j => vs[j]?) ∧ Takes F h E taken O ∧ vs.length = width t := by
  unfold packAll at hp
  cases h1 : packB cx call h t cs with
  | none => rw [h1] at hp; cases hp
  | some y =>
    rw [h1] at hp
    simp only [Option.bind_some] at hp
    split at hp
    · rename_i hnil
      simp only [Option.some.injEq, Prod.mk.injEq] at hp
      obtain ⟨rfl, hp⟩ := hp
      obtain ⟨O, k1, k2, k3, k4⟩ := packB_rd hc hr t cs y.1 y.2.1 y.2.2.1 y.2.2.2 h1 vs hv
      rw [hp] at k1 k2
      rw [hnil] at k3
      have := k3.1
      simp at this
      exact ⟨O, k1, k2, by omega⟩
    · cases hp

end
end Go.Flat
