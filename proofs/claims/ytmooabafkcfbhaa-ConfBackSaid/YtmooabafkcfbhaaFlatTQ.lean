/-
  Soundness of the flat reading, thirty-fifth part: regions whose order is open: what must stand ahead.
-/
import Derived.Test.YtmooabafkcfbhaaFlatTP
namespace Go.Flat
open Go.RowKit (Below)

theorem bit_eq (x i : Nat) : Nat.beq (Nat.land (Nat.shiftRight x i) 1) 1 = x.testBit i := by
  have h : Nat.land (Nat.shiftRight x i) 1 = (x >>> i) &&& 1 := rfl
  rw [h]
  simp only [Nat.testBit, Nat.and_one_is_mod, Nat.one_and_eq_mod_two]
  rcases Nat.mod_two_eq_zero_or_one (x >>> i) with e | e <;> rw [e] <;> rfl

theorem ordered_bit (bs : List Nat) (i j : Nat) : ordered bs i j = (bs.getD j 0).testBit i := bit_eq _ _

/-- an operation asks that another stands ahead of it -/
def asks (o : Oper) (i : Nat) : Prop := ∃ e ∈ o.after.toList, Region.binds .any e = true ∧ e.on = i

theorem befAt_bit (acc : List Nat) (o : Oper) (i : Nat) : (befAt acc o).testBit i = true ↔ ∃ m, asks o m ∧ (i = m ∨ (acc.getD m 0).testBit i = true) := by
  have key : ∀ (es : List Edge) (s : Nat), ((es.foldl (fun s e => match Region.binds .any e with | true => Nat.lor s (Nat.lor (Nat.shiftLeft 1 e.on) (acc.getD e.on 0)) | false => s) s).testBit i = true) ↔
      (s.testBit i = true ∨ ∃ e ∈ es, Region.binds .any e = true ∧ (i = e.on ∨ (acc.getD e.on 0).testBit i = true)) := by
    intro es
    induction es with
    | nil => intro s; simp
    | cons e r ih =>
      intro s
      rw [List.foldl_cons, ih]
      cases hb : Region.binds .any e with
      | false => simp [hb]
      | true =>
        have h1 : (Nat.lor s (Nat.lor (Nat.shiftLeft 1 e.on) (acc.getD e.on 0))).testBit i = (s.testBit i || ((1 <<< e.on).testBit i || (acc.getD e.on 0).testBit i)) := by
          show (s ||| ((1 <<< e.on) ||| (acc.getD e.on 0))).testBit i = _
          rw [Nat.testBit_or, Nat.testBit_or]
        have h2 : (1 <<< e.on).testBit i = decide (i = e.on) := by
          rw [Nat.shiftLeft_eq, Nat.one_mul, Nat.testBit_two_pow]
          rw [decide_eq_decide]; exact eq_comm
        dsimp only
        rw [h1, h2]
        simp only [Bool.or_eq_true, decide_eq_true_eq, List.mem_cons]
        constructor
        · rintro ((h | h | h) | ⟨e', he', h⟩)
          · exact .inl h
          · exact .inr ⟨e, .inl rfl, hb, .inl h⟩
          · exact .inr ⟨e, .inl rfl, hb, .inr h⟩
          · exact .inr ⟨e', .inr he', h⟩
        · rintro (h | ⟨e', rfl | he', h1, h2⟩)
          · exact .inl (.inl h)
          · rcases h2 with h2 | h2
            · exact .inl (.inr (.inl h2))
            · exact .inl (.inr (.inr h2))
          · exact .inr ⟨e', he', h1, h2⟩
  unfold befAt
  refine (key o.after.toList 0).trans ?_
  simp only [Nat.zero_testBit, Bool.false_eq_true, false_or, asks]
  constructor
  · rintro ⟨e, h1, h2, h3⟩; exact ⟨e.on, ⟨e, h1, h2, rfl⟩, h3⟩
  · rintro ⟨m, ⟨e, h1, h2, rfl⟩, h3⟩; exact ⟨e, h1, h2, h3⟩

theorem befs_prefix : ∀ (ops : List Oper) (acc : List Nat) (m : Nat), m < acc.length → (befs ops acc)[m]? = acc[m]? := by
  intro ops
  induction ops with
  | nil => intro acc m _; rfl
  | cons o r ih =>
    intro acc m hm
    simp only [befs]
    rw [ih _ m (by simp; omega), List.getElem?_append_left hm]

theorem befs_get : ∀ (ops : List Oper) (acc : List Nat) (k : Nat) (o : Oper), ops[k]? = some o → ∃ acc', (befs ops acc)[acc.length + k]? = some (befAt acc' o) ∧ acc'.length = acc.length + k ∧ ∀ m, m < acc.length + k → acc'[m]? = (befs ops acc)[m]? := by
  intro ops
  induction ops with
  | nil => intro acc k o h; simp at h
  | cons o' r ih =>
    intro acc k o h
    cases k with
    | zero =>
      simp at h
      subst h
      refine ⟨acc, ?_, rfl, fun m hm => ?_⟩
      · simp only [befs, Nat.add_zero]
        rw [befs_prefix r _ _ (by simp), List.getElem?_append_right (Nat.le_refl _)]
        simp
      · simp only [befs, Nat.add_zero] at hm ⊢
        rw [befs_prefix r _ m (by simp; omega), List.getElem?_append_left hm]
    | succ k =>
      simp only [List.getElem?_cons_succ] at h
      obtain ⟨acc', h1, h2, h3⟩ := ih (acc ++ [befAt acc o']) k o h
      simp only [befs]
      simp only [List.length_append, List.length_cons, List.length_nil, Nat.zero_add] at h1 h2 h3
      refine ⟨acc', by rw [← h1]; congr 1; omega, by omega, fun m hm => h3 m (by omega)⟩

theorem back_asks : ∀ (ops : List Oper) (b k : Nat) (o : Oper), backB ops b = true → ops[k]? = some o → ∀ i, asks o i → i < b + k := by
  intro ops
  induction ops with
  | nil => intro b k o _ h; simp at h
  | cons o' r ih =>
    intro b k o hb h i hi
    simp only [backB, Bool.and_eq_true] at hb
    cases k with
    | zero =>
      simp at h
      subst h
      obtain ⟨e, h1, h2, rfl⟩ := hi
      have := hb.1
      rw [List.all_eq_true] at this
      have := this e h1
      rw [h2] at this
      simpa [Nat.blt_eq] using this
    | succ k =>
      have := ih (b + 1) k o hb.2 (by simpa using h) i hi
      omega

/-- who must stand ahead is among what is carried out, where that is closed -/
theorem ordered_in {ops : List Oper} (hb : backB ops 0 = true) {D : Nat → Prop} (hD : ∀ j o, ops[j]? = some o → D j → ∀ m, asks o m → D m) : ∀ j o, ops[j]? = some o → (∀ m, asks o m → D m) → ∀ i, ordered (befs ops []) i j = true → i < j ∧ D i := by
  intro j
  induction j using Nat.strongRecOn with
  | _ j ih =>
    intro o ho hready i hi
    obtain ⟨acc, h1, h2, h3⟩ := befs_get ops [] j o ho
    simp only [List.length_nil, Nat.zero_add] at h1 h2 h3
    rw [ordered_bit] at hi
    have hj : (befs ops []).getD j 0 = befAt acc o := by rw [List.getD_eq_getElem?_getD, h1]; rfl
    rw [hj, befAt_bit] at hi
    obtain ⟨m, hm, hi⟩ := hi
    have hmj := back_asks ops 0 j o hb ho m hm
    rw [Nat.zero_add] at hmj
    rcases hi with rfl | hi
    · exact ⟨hmj, hready _ hm⟩
    · have hacc : acc.getD m 0 = (befs ops []).getD m 0 := by rw [List.getD_eq_getElem?_getD, List.getD_eq_getElem?_getD, h3 m hmj]
      rw [hacc, ← ordered_bit] at hi
      have hlt : m < ops.length := by
        have : j < ops.length := by
          rcases Nat.lt_or_ge j ops.length with q | q
          · exact q
          · rw [List.getElem?_eq_none q] at ho; cases ho
        omega
      have hom : ops[m]? = some ops[m] := List.getElem?_eq_getElem hlt
      obtain ⟨q1, q2⟩ := ih m hmj _ hom (hD m _ hom (hready m hm)) i hi
      exact ⟨by omega, q2⟩

/-! ### who writes a slot -/

theorem writer_some : ∀ (ops : List Oper) (s b i : Nat), writerOf ops s b = some i → b ≤ i ∧ ∃ o, ops[i - b]? = some o ∧ o.dst = some s := by
  intro ops
  induction ops with
  | nil => intro s b i h; cases h
  | cons o r ih =>
    intro s b i h
    simp only [writerOf] at h
    cases hd : o.dst with
    | none =>
      rw [hd] at h
      obtain ⟨h1, o', h2, h3⟩ := ih s (b + 1) i h
      exact ⟨by omega, o', by rw [show i - b = (i - (b + 1)) + 1 by omega]; simpa using h2, h3⟩
    | some d =>
      rw [hd] at h
      dsimp only at h
      cases hb : Nat.beq d s with
      | true =>
        rw [hb] at h
        simp at h
        subst h
        exact ⟨Nat.le_refl _, o, by simp, by rw [hd, Nat.eq_of_beq_eq_true hb]⟩
      | false =>
        rw [hb] at h
        obtain ⟨h1, o', h2, h3⟩ := ih s (b + 1) i h
        exact ⟨by omega, o', by rw [show i - b = (i - (b + 1)) + 1 by omega]; simpa using h2, h3⟩

theorem writer_none : ∀ (ops : List Oper) (s b : Nat), writerOf ops s b = none → ∀ o ∈ ops, o.dst ≠ some s := by
  intro ops
  induction ops with
  | nil => intro s b _ o ho; cases ho
  | cons o' r ih =>
    intro s b h o ho
    simp only [writerOf] at h
    cases hd : o'.dst with
    | none =>
      rw [hd] at h
      rcases List.mem_cons.1 ho with rfl | ho
      · rw [hd]; simp
      · exact ih s (b + 1) h o ho
    | some d =>
      rw [hd] at h
      dsimp only at h
      cases hb : Nat.beq d s with
      | true => rw [hb] at h; cases h
      | false =>
        rw [hb] at h
        rcases List.mem_cons.1 ho with rfl | ho
        · rw [hd]
          intro e
          injection e with e
          subst e
          simp at hb
        · exact ih s (b + 1) h o ho

theorem writer_of : ∀ (ops : List Oper) (s b j : Nat) (o : Oper), (ops.filterMap (·.dst)).Nodup → ops[j]? = some o → o.dst = some s → writerOf ops s b = some (b + j) := by
  intro ops
  induction ops with
  | nil => intro s b j o _ h; simp at h
  | cons o' r ih =>
    intro s b j o hn h hd
    simp only [writerOf]
    cases j with
    | zero =>
      simp at h
      subst h
      rw [hd]
      simp
    | succ j =>
      simp only [List.getElem?_cons_succ] at h
      have hmem : o ∈ r := List.mem_of_getElem? h
      cases hd' : o'.dst with
      | none =>
        rw [List.filterMap_cons, hd'] at hn
        dsimp only
        rw [ih s (b + 1) j o hn h hd]
        congr 1; omega
      | some d =>
        rw [List.filterMap_cons, hd', List.nodup_cons] at hn
        have hne : d ≠ s := fun e => hn.1 (by rw [List.mem_filterMap]; exact ⟨o, hmem, by rw [hd, e]⟩)
        have : Nat.beq d s = false := by
          cases hb : Nat.beq d s with
          | false => rfl
          | true => exact absurd (Nat.eq_of_beq_eq_true hb) hne
        dsimp only
        rw [this]
        simp only [cond_false]
        rw [ih s (b + 1) j o hn.2 h hd]
        congr 1; omega

theorem look_all {ops : List Oper} {bs : List Nat} : ∀ (l : List Oper) (b k : Nat) (o : Oper), lookAll ops bs l b = true → l[k]? = some o → ∀ s ∈ looks ops o, lookOk ops bs (b + k) s = true := by
  intro l
  induction l with
  | nil => intro b k o _ h; simp at h
  | cons o' r ih =>
    intro b k o hl h s hs
    simp only [lookAll, Bool.and_eq_true] at hl
    cases k with
    | zero =>
      simp at h
      subst h
      have := hl.1
      rw [List.all_eq_true] at this
      exact this s hs
    | succ k =>
      have := ih (b + 1) k o hl.2 (by simpa using h) s hs
      rw [show b + (k + 1) = b + 1 + k by omega]
      exact this

/-- what one looks at is written by one that stands in order with it -/
theorem look_ok {ops : List Oper} {bs : List Nat} {j s i : Nat} (h : lookOk ops bs j s = true) (hw : writerOf ops s 0 = some i) : i = j ∨ ordered bs i j = true ∨ ordered bs j i = true := by
  unfold lookOk at h
  rw [hw] at h
  simp only [Bool.or_eq_true] at h
  rcases h with h | h
  · exact .inl (Nat.eq_of_beq_eq_true h)
  · exact .inr h

end Go.Flat
