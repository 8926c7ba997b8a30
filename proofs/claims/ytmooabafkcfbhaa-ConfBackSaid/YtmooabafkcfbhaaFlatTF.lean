/-
  Soundness of the flat reading, twenty-fourth part: how two are compared; binary operations.
-/
import Derived.Test.YtmooabafkcfbhaaFlatTE
import Derived.Laws.StructEq
import Derived.ChangeKeysEq
namespace Go.Flat
open Go.RowKit (Below)

def leafFits : Ty → Value → Prop
  | .bool, v => ∃ b, v = .bool b
  | .int k, v => ∃ n, v = .int k n
  | .str, v => ∃ s : List UInt8, v = .string ⟨s.toArray⟩
  | _, _ => False

def Fits : List Ty → List Value → Prop
  | [], [] => True
  | t :: ts, v :: vs => leafFits t v ∧ Fits ts vs
  | _, _ => False

def eqVal : Value → Value → Bool
  | .bool a, .bool b => a == b
  | .int _ a, .int _ b => a == b
  | .string a, .string b => a.toList == b.toList
  | _, _ => false

def eqVals : List Value → List Value → Bool
  | u :: us, v :: vs => eqVal u v && eqVals us vs
  | _, _ => true

def mkv (c : Ty) (vs : List Value) : Value := if agg c = true then .agg vs.toArray else vs.headD .nilFunc

theorem flat_length : ∀ t : Ty, (flat t).length = width t := by
  intro t
  induction t with
  | pair a b iha ihb => simp [flat, width, iha, ihb]
  | wrap e ih => exact ih
  | _ => rfl

theorem Fits.length : ∀ {ts : List Ty} {vs : List Value}, Fits ts vs → vs.length = ts.length := by
  intro ts
  induction ts with
  | nil => intro vs h; cases vs with
    | nil => rfl
    | cons => exact h.elim
  | cons t ts ih => intro vs h; cases vs with
    | nil => exact h.elim
    | cons v vs => simp [ih h.2]

theorem Fits.split : ∀ {a b : List Ty} {vs : List Value}, Fits (a ++ b) vs → Fits a (vs.take a.length) ∧ Fits b (vs.drop a.length) := by
  intro a
  induction a with
  | nil => intro b vs h; exact ⟨by simp [Fits], h⟩
  | cons t ts ih => intro b vs h; cases vs with
    | nil => exact h.elim
    | cons v vs => exact ⟨⟨h.1, (ih h.2).1⟩, (ih h.2).2⟩

theorem eqVals_take : ∀ (n : Nat) (us vs : List Value), us.length = vs.length → eqVals us vs = (eqVals (us.take n) (vs.take n) && eqVals (us.drop n) (vs.drop n)) := by
  intro n
  induction n with
  | zero => intro us vs _; simp [eqVals]
  | succ n ih =>
    intro us vs h
    cases us with
    | nil => cases vs with
      | nil => simp [eqVals]
      | cons => simp at h
    | cons u us => cases vs with
      | nil => simp at h
      | cons v vs =>
        simp only [List.take_succ_cons, List.drop_succ_cons, eqVals]
        rw [ih us vs (by simpa using h), Bool.and_assoc]

section
variable {P : Program} {W : World}

/-- how two of a type are compared, so deep -/
def EqOk (P : Program) (W : World) (d : Nat) (self : TypeId → Ty → Bool) : Prop :=
  ∀ t c vs us, self t c = true → Fits (flat c) vs → Fits (flat c) us → (Op.equalIn d t (mkv c vs) (mkv c us)).run P W = .ok (eqVals vs us) W

theorem part_mkv {t : TypeId} {e : Ty} {xs : Array Value} {off : Nat} {vs : List Value} (hp : partB P t e = true) (hle : off + width e ≤ xs.size) (hv : (xs.toList.drop off).take (width e) = vs) :
    (part t xs off).run P W = .ok (mkv e vs) W := by
  unfold partB at hp
  split at hp
  case h_2 => cases hp
  rename_i ti hti
  simp only [Bool.and_eq_true, beq_iff_eq, Bool.or_eq_true] at hp
  obtain ⟨h1, h2, h3, h4⟩ := hp
  have h1 := Nat.eq_of_beq_eq_true h1
  have := part_rd (W := W) (vs := xs) (off := off) (w := width e) hti h1 (Option.isSome_iff_exists.1 h4) hle (fun e => by
    rcases h3 with h3 | h3
    · rw [h2, e] at h3; cases h3
    · exact Nat.eq_of_beq_eq_true h3)
  rw [this, hv, ← h2]
  rfl

theorem eqFields_sound {d : Nat} {self : TypeId → Ty → Bool} (ih : EqOk P W d self) (xs ys : Array Value) : ∀ (fs : List Field) (e : Ty) (off : Nat) (vs us : List Value),
    eqFieldsB P self fs e off = true → Fits (flat e) vs → Fits (flat e) us → off + width e ≤ xs.size → off + width e ≤ ys.size →
    (xs.toList.drop off).take (width e) = vs → (ys.toList.drop off).take (width e) = us → (Op.eqFields d xs ys fs).run P W = .ok (eqVals vs us) W := by
  intro fs
  induction fs with
  | nil =>
    intro e off vs us h h1 h2 _ _ _ _
    cases e <;> (try (cases h))
    have e1 := h1.length
    have e2 := h2.length
    simp [flat] at e1 e2
    subst e1; subst e2
    simp [Op.eqFields, eqVals]
  | cons f r ihf =>
    intro e off vs us h h1 h2 hx hy hxs hys
    have step : ∀ (c : Ty) (vs' us' : List Value), f.name ≠ "_" → f.offset = off → partB P f.type c = true → self f.type c = true → Fits (flat c) vs' → Fits (flat c) us' → off + width c ≤ xs.size → off + width c ≤ ys.size →
        (xs.toList.drop off).take (width c) = vs' → (ys.toList.drop off).take (width c) = us' →
        (Op.eqFields d xs ys (f :: r)).run P W = (if (!eqVals vs' us') = true then pure false else Op.eqFields d xs ys r).run P W := by
      intro c vs' us' k1 k2 k3 k4 k5 k6 k7 k8 k9 k10
      have p1 := part_mkv (W := W) k3 k7 k9
      have p2 := part_mkv (W := W) k3 k8 k10
      have p3 := ih f.type c vs' us' k4 k5 k6
      simp only [Op.eqFields, k1, ne_eq, not_false_eq_true, if_true, k2, Sem.run_bind, p1, p2, p3, Result.andThen_ok]
    cases r with
    | nil =>
      simp only [eqFieldsB, Bool.and_eq_true, bne_iff_ne] at h
      obtain ⟨k1, k2, k3, k4⟩ := h
      rw [step e vs us k1 (Nat.eq_of_beq_eq_true k2) k3 k4 h1 h2 hx hy hxs hys]
      cases eqVals vs us <;> simp [Op.eqFields]
    | cons g r =>
      cases e with
      | pair a b =>
        simp only [eqFieldsB, Bool.and_eq_true, bne_iff_ne] at h
        obtain ⟨k1, k2, k3, k4, k5⟩ := h
        simp only [flat] at h1 h2
        have s1 := h1.split
        have s2 := h2.split
        rw [flat_length] at s1 s2
        simp only [width] at hx hy hxs hys
        have l1 := h1.length
        have l2 := h2.length
        rw [step a (vs.take (width a)) (us.take (width a)) k1 (Nat.eq_of_beq_eq_true k2) k3 k4 s1.1 s2.1 (by omega) (by omega)
          (by rw [← hxs, List.take_take]; congr 1; omega) (by rw [← hys, List.take_take]; congr 1; omega)]
        rw [eqVals_take (width a) vs us (by rw [l1, l2])]
        have := ihf b (off + width a) (vs.drop (width a)) (us.drop (width a)) k5 s1.2 s2.2 (by omega) (by omega)
          (by rw [← hxs, List.drop_take, List.drop_drop]; congr 1; omega) (by rw [← hys, List.drop_take, List.drop_drop]; congr 1; omega)
        cases eqVals (vs.take (width a)) (us.take (width a)) <;> simp [this]
      | _ => simp [eqFieldsB] at h

theorem eqItems_sound {d : Nat} {self : TypeId → Ty → Bool} (ih : EqOk P W d self) {el : TypeId} {c : Nat} (xs ys : Array Value) : ∀ (n : Nat) (e : Ty) (i : Nat) (vs us : List Value),
    eqItemsB P self el n e = true → (∀ ti, P.info? el = some ti → ti.size = c) → Fits (flat e) vs → Fits (flat e) us → i * c + width e ≤ xs.size → i * c + width e ≤ ys.size →
    (xs.toList.drop (i * c)).take (width e) = vs → (ys.toList.drop (i * c)).take (width e) = us → (Op.eqItems d el c xs ys (List.range' i n)).run P W = .ok (eqVals vs us) W := by
  intro n
  induction n with
  | zero =>
    intro e i vs us h _ h1 h2 _ _ _ _
    cases e <;> (try (cases h))
    have e1 := h1.length
    have e2 := h2.length
    simp [flat] at e1 e2
    subst e1; subst e2
    simp [Op.eqItems, eqVals]
  | succ n ihn =>
    intro e i vs us h hc h1 h2 hx hy hxs hys
    have step : ∀ (k : Ty) (vs' us' : List Value), partB P el k = true → self el k = true → Fits (flat k) vs' → Fits (flat k) us' → i * c + width k ≤ xs.size → i * c + width k ≤ ys.size →
        (xs.toList.drop (i * c)).take (width k) = vs' → (ys.toList.drop (i * c)).take (width k) = us' →
        (Op.eqItems d el c xs ys (List.range' i (n + 1))).run P W = (if (!eqVals vs' us') = true then pure false else Op.eqItems d el c xs ys (List.range' (i + 1) n)).run P W := by
      intro k vs' us' k3 k4 k5 k6 k7 k8 k9 k10
      have p1 := part_mkv (W := W) k3 k7 k9
      have p2 := part_mkv (W := W) k3 k8 k10
      have p3 := ih el k vs' us' k4 k5 k6
      simp only [List.range'_succ, Op.eqItems, Sem.run_bind, p1, p2, p3, Result.andThen_ok]
    cases n with
    | zero =>
      simp only [eqItemsB, Bool.and_eq_true] at h
      rw [step e vs us h.1 h.2 h1 h2 hx hy hxs hys]
      cases eqVals vs us <;> simp [Op.eqItems]
    | succ n =>
      cases e with
      | pair a b =>
        simp only [eqItemsB, Bool.and_eq_true] at h
        obtain ⟨k3, k4, k5⟩ := h
        have hw : width a = c := by
          unfold partB at k3
          split at k3
          case h_2 => cases k3
          rename_i ti hti
          simp only [Bool.and_eq_true] at k3
          rw [← Nat.eq_of_beq_eq_true k3.1]
          exact hc ti hti
        simp only [flat] at h1 h2
        have s1 := h1.split
        have s2 := h2.split
        rw [flat_length] at s1 s2
        simp only [width] at hx hy hxs hys
        have l1 := h1.length
        have l2 := h2.length
        have hi : (i + 1) * c = i * c + width a := by rw [hw, Nat.succ_mul]
        rw [step a (vs.take (width a)) (us.take (width a)) k3 k4 s1.1 s2.1 (by omega) (by omega)
          (by rw [← hxs, List.take_take]; congr 1; omega) (by rw [← hys, List.take_take]; congr 1; omega)]
        rw [eqVals_take (width a) vs us (by rw [l1, l2])]
        have := ihn b (i + 1) (vs.drop (width a)) (us.drop (width a)) k5 hc s1.2 s2.2 (by omega) (by omega)
          (by rw [hi, ← hxs, List.drop_take, List.drop_drop]; congr 1; omega) (by rw [hi, ← hys, List.drop_take, List.drop_drop]; congr 1; omega)
        cases eqVals (vs.take (width a)) (us.take (width a)) <;> simp [this]
      | _ => simp [eqItemsB] at h

theorem drop_take_all (xs : List Value) (n : Nat) (h : xs.length = n) : (xs.drop 0).take n = xs := by subst h; simp

theorem eqTy_sound : ∀ (d : Nat), EqOk P W d (eqTyB P d) := by
  intro d
  induction d with
  | zero => intro t c vs us h; cases h
  | succ d ih =>
    intro t c vs us h h1 h2
    unfold eqTyB at h
    have l1 := h1.length
    have l2 := h2.length
    split at h
    · rename_i hu
      match vs, us, h1, h2 with
      | [u], [v], h1, h2 =>
        obtain ⟨⟨a, rfl⟩, _⟩ := h1
        obtain ⟨⟨b, rfl⟩, _⟩ := h2
        simpa [mkv, agg, eqVals, eqVal] using run_equalIn_bool' W d t a b hu
    · rename_i k k' hu
      match vs, us, h1, h2 with
      | [u], [v], h1, h2 =>
        obtain ⟨⟨a, rfl⟩, _⟩ := h1
        obtain ⟨⟨b, rfl⟩, _⟩ := h2
        simpa [mkv, agg, eqVals, eqVal] using run_equalIn_int W d t k' k a b hu
    · rename_i hu
      match vs, us, h1, h2 with
      | [u], [v], h1, h2 =>
        obtain ⟨⟨a, rfl⟩, _⟩ := h1
        obtain ⟨⟨b, rfl⟩, _⟩ := h2
        simpa [mkv, agg, eqVals, eqVal] using run_equalIn_string W d t ⟨a.toArray⟩ ⟨b.toArray⟩ hu
    · rename_i fs e hu
      simp only [Bool.and_eq_true, Bool.not_eq_true'] at h
      have hf : P.fieldsOf t = fs := by simp [Program.fieldsOf, hu]
      simp only [flat] at h1 h2
      rw [flat_length] at l1 l2
      simp only [width] at l1 l2
      simp only [mkv, agg, if_true]
      rw [run_equalIn_struct W d t vs.toArray us.toArray (by rw [hf]; exact hu) h.1, hf]
      exact eqFields_sound ih vs.toArray us.toArray fs.toList e 0 vs us h.2 h1 h2 (by simp [l1]) (by simp [l2]) (drop_take_all vs _ l1) (drop_take_all us _ l2)
    · rename_i n el e hu
      simp only [flat] at h1 h2
      rw [flat_length] at l1 l2
      simp only [width] at l1 l2
      simp only [mkv, agg, if_true]
      cases hi : P.info? el with
      | none => simp [hi] at h
      | some ti =>
        rw [run_equalIn_array W d vs.toArray us.toArray hu hi, List.range_eq_range']
        have hce : P.cellsOf el = ti.size := by simp [Program.cellsOf, hi]
        simp only [Bool.and_eq_true] at h
        exact eqItems_sound ih vs.toArray us.toArray n e 0 vs us h.2 (fun tj hj => by rw [hi] at hj; injection hj with hj; rw [hce, hj]) h1 h2 (by simp [l1]) (by simp [l2]) (by simpa using drop_take_all vs _ l1) (by simpa using drop_take_all us _ l2)
    · cases h

end

section
variable {cx : Cx} {call : Oracle cx} {fx : Hints} {W W' : World} {F F' : Fz} {E E' : EnvM} {h : Heap} {N : Nat → Prop} {ρ : Operand → V} {a : Act} {R : Type}

theorem eqLeaf_rd {P : Program} {t : Ty} {x y : El t} {b : Bool} {u v : Value} (he : eqLeaf t x y = some b) (hu : RdCell P W F E (.val t x) u) (hv : RdCell P W F E (.val t y) v) :
    leafFits t u ∧ leafFits t v ∧ b = eqVal u v := by
  have hu := hu.2.2
  have hv := hv.2.2
  unfold eqLeaf at he
  split at he <;> (try (cases he))
  · simp [Rd, RdP] at hu hv
    subst hu; subst hv
    exact ⟨⟨_, rfl⟩, ⟨_, rfl⟩, rfl⟩
  · simp [Rd, RdP] at hu hv
    subst hu; subst hv
    exact ⟨⟨_, rfl⟩, ⟨_, rfl⟩, by simp [eqVal, intBeq]⟩
  · simp [Rd, RdP] at hu hv
    subst hu; subst hv
    exact ⟨⟨_, rfl⟩, ⟨_, rfl⟩, by simp [eqVal, toList_mk]⟩

theorem eqCells_rd {P : Program} : ∀ (ls : List Ty) (xs ys : List Cell) (b : Bool) (vs us : List Value), eqCells ls xs ys = some b → RdCells P W F E xs vs → RdCells P W F E ys us →
    Fits ls vs ∧ Fits ls us ∧ b = eqVals vs us := by
  intro ls
  induction ls with
  | nil =>
    intro xs ys b vs us h h1 h2
    cases xs with
    | nil => cases ys with
      | nil =>
        have e1 := h1.1
        have e2 := h2.1
        have e1 := List.eq_nil_of_length_eq_zero e1.symm
        have e2 := List.eq_nil_of_length_eq_zero e2.symm
        subst e1; subst e2
        simp [eqCells] at h
        subst h
        exact ⟨trivial, trivial, rfl⟩
      | cons => simp [eqCells] at h
    | cons => simp [eqCells] at h
  | cons t ls ih =>
    intro xs ys b vs us h h1 h2
    unfold eqCells at h
    split at h
    · exact absurd ‹t :: ls = []› (by simp)
    · rename_i t' ls' u' x r u'' y s heq
      injection heq with e1 e2
      subst e1; subst e2
      obtain ⟨v, vs', rfl, k1, _, k3⟩ := h1.uncons
      obtain ⟨w, us', rfl, m1, _, m3⟩ := h2.uncons
      split at h
      case isFalse => cases h
      rename_i hu
      subst hu
      split at h
      case isFalse => cases h
      rename_i hu
      subst hu
      split at h
      case h_2 => cases h
      rename_i b0 hb0
      obtain ⟨f1, f2, f3⟩ := eqLeaf_rd hb0 k1 m1
      have rest : ∀ b', eqCells ls r s = some b' → b = (b0 && b') → Fits (u'' :: ls) (v :: vs') ∧ Fits (u'' :: ls) (w :: us') ∧ b = eqVals (v :: vs') (w :: us') := by
        intro b' hb' he
        obtain ⟨g1, g2, g3⟩ := ih r s b' vs' us' hb' k3 m3
        exact ⟨⟨f1, g1⟩, ⟨f2, g2⟩, by rw [he, f3, g3]; rfl⟩
      split at h
      · injection h with h
        exact rest true (by simp [eqCells]) (by simp [h])
      · simp only [Option.map_eq_some_iff] at h
        obtain ⟨b', hb', he⟩ := h
        exact rest b' hb' he.symm
    · cases h

theorem eqk_of {t : TypeId} (ht : TabOk cx) (hne : cx.eqk t ≠ 0) : ∃ i, cx.info t = some i ∧ i.eq = cx.eqk t ∧ eqB cx.P t i = true := by
  unfold Cx.eqk at hne ⊢
  cases hi : cx.info t with
  | none => rw [hi] at hne; exact absurd rfl hne
  | some i => exact ⟨i, rfl, rfl, (ht t i hi).eq⟩

theorem eqB_ptr {P : Program} {t : TypeId} {i : TI} (he : i.eq = 1) (h : eqB P t i = true) : ∃ e, P.underlying t = some (.pointer e) := by
  unfold eqB at h
  cases hu : P.underlying t with
  | none => simp [he, hu] at h
  | some d => cases d <;> simp_all
theorem eqB_fn {P : Program} {t : TypeId} {i : TI} (he : i.eq = 2) (h : eqB P t i = true) : ∃ x y z, P.underlying t = some (.func x y z) := by
  unfold eqB at h
  cases hu : P.underlying t with
  | none => simp [he, hu] at h
  | some d => cases d <;> simp_all
theorem eqB_bool {P : Program} {t : TypeId} {i : TI} (he : i.eq = 4) (h : eqB P t i = true) : P.underlying t = some .bool := by
  unfold eqB at h
  cases hu : P.underlying t with
  | none => simp [he, hu] at h
  | some d => cases d <;> simp_all

/-- a cell that is a pointer, or none -/
theorem ptr_cell {P : Program} {c : Cell} {v : Value} (hv : RdCell P W F E c v) : (c = .np → v = .pointer none) ∧ ((∃ t x o, c = .pin t x o) ∨ (∃ n r o, c = .loc n r o) ∨ (∃ n r i o, c = .lel n r i o) → ∃ p, v = .pointer (some p)) := by
  refine ⟨fun e => by subst e; exact hv, ?_⟩
  rintro (⟨t, x, o, rfl⟩ | ⟨n, r, o, rfl⟩ | ⟨n, r, i, o, rfl⟩)
  · obtain ⟨b, q, rfl, _⟩ := hv; exact ⟨_, rfl⟩
  · obtain ⟨_, ⟨L, hL⟩, h2⟩ := hv
    have := h2 L hL
    cases L <;> simp [RdLoc] at this
    exact ⟨_, this⟩
  · obtain ⟨_, ⟨L, hL⟩, h2⟩ := hv
    have := h2 L hL
    cases L <;> simp [RdLoc] at this
    exact ⟨_, this⟩

theorem fn_cell {P : Program} {c : Cell} {v : Value} (hv : RdCell P W F E c v) : (c = .nf → v = .nilFunc) ∧ ((∃ f t x, c = .clo f t x) ∨ (∃ p q x, c = .val (.fn p q) x) → ∃ f caps, v = .func (.func f) #[] caps) := by
  refine ⟨fun e => by subst e; exact hv, ?_⟩
  rintro (⟨f, t, x, rfl⟩ | ⟨p, q, x, rfl⟩)
  · obtain ⟨caps, rfl, _⟩ := hv; exact ⟨_, _, rfl⟩
  · obtain ⟨_, _, f, caps, h1, _⟩ := hv
    simp at h1
    exact ⟨f, caps, h1⟩

theorem eqNilP_rd {P : Program} {c d : Cell} {b : Bool} {u v : Value} {t e : TypeId} {n : Nat} (hb : eqNilP c d = some b) (hu : RdCell P W F E c u) (hv : RdCell P W F E d v) (ht : P.underlying t = some (.pointer e)) :
    (Op.equalIn (n + 1) t u v).run P W = .ok b W ∧ (∃ p, u = .pointer p) ∧ ∃ q, v = .pointer q := by
  have pu := ptr_cell hu
  have pv := ptr_cell hv
  unfold eqNilP at hb
  split at hb <;> (try (cases hb))
  · cases pu.1 rfl; cases pv.1 rfl
    exact ⟨by simp [Op.equalIn, run_underlying ht], ⟨_, rfl⟩, ⟨_, rfl⟩⟩
  · cases pu.1 rfl
    obtain ⟨p, rfl⟩ := pv.2 (.inl ⟨_, _, _, rfl⟩)
    exact ⟨by simp [Op.equalIn, run_underlying ht], ⟨_, rfl⟩, ⟨_, rfl⟩⟩
  · cases pu.1 rfl
    obtain ⟨p, rfl⟩ := pv.2 (.inr (.inl ⟨_, _, _, rfl⟩))
    exact ⟨by simp [Op.equalIn, run_underlying ht], ⟨_, rfl⟩, ⟨_, rfl⟩⟩
  · cases pu.1 rfl
    obtain ⟨p, rfl⟩ := pv.2 (.inr (.inr ⟨_, _, _, _, rfl⟩))
    exact ⟨by simp [Op.equalIn, run_underlying ht], ⟨_, rfl⟩, ⟨_, rfl⟩⟩
  · cases pv.1 rfl
    obtain ⟨p, rfl⟩ := pu.2 (.inl ⟨_, _, _, rfl⟩)
    exact ⟨by simp [Op.equalIn, run_underlying ht], ⟨_, rfl⟩, ⟨_, rfl⟩⟩
  · cases pv.1 rfl
    obtain ⟨p, rfl⟩ := pu.2 (.inr (.inl ⟨_, _, _, rfl⟩))
    exact ⟨by simp [Op.equalIn, run_underlying ht], ⟨_, rfl⟩, ⟨_, rfl⟩⟩
  · cases pv.1 rfl
    obtain ⟨p, rfl⟩ := pu.2 (.inr (.inr ⟨_, _, _, _, rfl⟩))
    exact ⟨by simp [Op.equalIn, run_underlying ht], ⟨_, rfl⟩, ⟨_, rfl⟩⟩

theorem eqNilF_rd {P : Program} {c d : Cell} {b : Bool} {u v : Value} {t : TypeId} {n : Nat} {x y z} (hb : eqNilF c d = some b) (hu : RdCell P W F E c u) (hv : RdCell P W F E d v) (ht : P.underlying t = some (.func x y z)) :
    (Op.equalIn (n + 1) t u v).run P W = .ok b W ∧ (u = .nilFunc ∨ ∃ f caps, u = .func (.func f) #[] caps) ∧ (v = .nilFunc ∨ ∃ f caps, v = .func (.func f) #[] caps) := by
  have pu := fn_cell hu
  have pv := fn_cell hv
  unfold eqNilF at hb
  split at hb <;> (try (cases hb))
  · cases pu.1 rfl; cases pv.1 rfl
    exact ⟨by simp [Op.equalIn, run_underlying ht], .inl rfl, .inl rfl⟩
  · cases pu.1 rfl
    obtain ⟨f, caps, rfl⟩ := pv.2 (.inl ⟨_, _, _, rfl⟩)
    exact ⟨by simp [Op.equalIn, run_underlying ht], .inl rfl, .inr ⟨_, _, rfl⟩⟩
  · cases pu.1 rfl
    obtain ⟨f, caps, rfl⟩ := pv.2 (.inr ⟨_, _, _, rfl⟩)
    exact ⟨by simp [Op.equalIn, run_underlying ht], .inl rfl, .inr ⟨_, _, rfl⟩⟩
  · cases pv.1 rfl
    obtain ⟨f, caps, rfl⟩ := pu.2 (.inl ⟨_, _, _, rfl⟩)
    exact ⟨by simp [Op.equalIn, run_underlying ht], .inr ⟨_, _, rfl⟩, .inl rfl⟩
  · cases pv.1 rfl
    obtain ⟨f, caps, rfl⟩ := pu.2 (.inr ⟨_, _, _, rfl⟩)
    exact ⟨by simp [Op.equalIn, run_underlying ht], .inr ⟨_, _, rfl⟩, .inl rfl⟩

theorem eqK_rd {t : TypeId} {x y : V} {b : Bool} {u v : Value} {op : BinOp} {p q : Operand} (ht : TabOk cx) (hb : eqK (cx.eqk t) (cx.ty t) x y = some b) (hu : RdV cx.P W F E x u) (hv : RdV cx.P W F E y v) :
    (eqGuard op t p q u v).run cx.P W = .ok () W ∧ (binOp .eql t u v).run cx.P W = .ok (.bool b) W ∧ (binOp .neq t u v).run cx.P W = .ok (.bool !b) W := by
  unfold eqK at hb
  split at hb
  · rename_i c d hk
    obtain ⟨i, hi, he, hB⟩ := eqk_of ht (by rw [hk]; decide)
    rw [hk] at he
    obtain ⟨e, hund⟩ := eqB_ptr he hB
    obtain ⟨h1, ⟨p1, rfl⟩, ⟨q1, rfl⟩⟩ := eqNilP_rd (n := 9999) hb hu.single.1 hv.single.1 hund
    refine ⟨eqGuard_other (fun l m e => by cases e) (fun e => by cases e), ?_, ?_⟩
    · simp [binOp, Op.equal, Op.maxDepth, h1]
    · simp [binOp, Op.equal, Op.maxDepth, h1]
  · rename_i c d hk
    obtain ⟨i, hi, he, hB⟩ := eqk_of ht (by rw [hk]; decide)
    rw [hk] at he
    obtain ⟨_, _, _, hund⟩ := eqB_fn he hB
    obtain ⟨h1, h2, h3⟩ := eqNilF_rd (n := 9999) hb hu.single.1 hv.single.1 hund
    rcases h2 with rfl | ⟨f, caps, rfl⟩ <;> rcases h3 with rfl | ⟨f', caps', rfl⟩
    all_goals
      refine ⟨eqGuard_other (fun l m e => by cases e) (fun e => by cases e), ?_, ?_⟩
      · simp [binOp, Op.equal, Op.maxDepth, h1]
      · simp [binOp, Op.equal, Op.maxDepth, h1]
  · rename_i xs ys hk
    obtain ⟨i, hi, he, hB⟩ := eqk_of ht (by rw [hk]; decide)
    rw [hk] at he
    unfold eqB at hB
    rw [he] at hB
    have hty : cx.ty t = i.ty := by simp [Cx.ty, hi]
    rw [hty] at hb
    split at hb
    case h_2 => cases hb
    rename_i c hc
    simp only [hc, Bool.and_eq_true, Bool.not_eq_true'] at hB
    obtain ⟨ha, hg, heq⟩ := hB
    obtain ⟨u1, u2, _⟩ := hu
    obtain ⟨v1, v2, _⟩ := hv
    obtain ⟨l, rfl⟩ := u2 rfl
    obtain ⟨m, rfl⟩ := v2 rfl
    obtain ⟨f1, f2, f3⟩ := eqCells_rd (flat c) xs ys b _ _ hb u1 v1
    have hrun := eqTy_sound (P := cx.P) (W := W) 10000 t c _ _ heq f1 f2
    rw [← f3] at hrun
    simp only [mkv, ha, if_true, Value.cells, Array.toArray_toList] at hrun
    refine ⟨run_eqGuard_agg W op t p q l m hg, ?_, ?_⟩
    · rw [run_eql_struct, hrun]; rfl
    · rw [run_neq_struct, hrun]; rfl
  · cases hb

theorem op_binOp {o : Oper} {k : V → Ups → Option R} {r : R} {op : BinOp} {t yt : TypeId} {x y : Operand} (cc : Ctx cx call W F E N h ρ a) (ho : o.op = .binOp op t x y yt)
    (hk : binK (cx.eqk t) (cx.ty t) op (ρ x) (ρ y) (fun c => k (.v false [c]) []) = some r) : Sound cx W F E N h a o k r := by
  have hx := cc.ρ x
  have hy := cc.ρ y
  have fin : ∀ {u v w : Value} {c : Cell}, a.eval x = u → a.eval y = v → (∀ l m, u = .agg l → v = .agg m → False) → (u = .nilIface → v = .nilIface → False) → k (.v false [c]) [] = some r →
      (binOp op t u v).run cx.P W = .ok w W → RdV cx.P W F E (.v false [c]) w → Sound cx W F E N h a o k r := by
    intro u v w c h1 h2 h3 h4 h5 h6 h7
    exact Sound.value cc h5 (run_binOp ho h1 h2 (eqGuard_other h3 h4) h6) h7
  unfold binK at hk
  split at hk
  · rename_i kd m kd' n hX hY
    rw [hX] at hx
    rw [hY] at hy
    split at hk
    case isFalse => cases hk
    rename_i hkd
    obtain ⟨c, w, h1, h2, h3⟩ := binI_rd (W := W) (F := F) (E := E) (t := t) hk hkd
    exact fin (rd_int hx) (rd_int hy) (fun l m e => by cases e) (fun e => by cases e) h1 h2 h3
  · rename_i s1 s2 hX hY
    rw [hX] at hx
    rw [hY] at hy
    obtain ⟨c, w, h1, h2, h3⟩ := binS_rd (cx := cx) (W := W) (F := F) (E := E) (t := t) hk
    exact fin (rd_str hx) (rd_str hy) (fun l m e => by cases e) (fun e => by cases e) h1 h2 h3
  · rename_i b1 b2 hX hY
    rw [hX] at hx
    rw [hY] at hy
    have hu := rd_bool hx
    have hv := rd_bool hy
    have und : cx.eqk t = 4 → cx.P.underlying t = some .bool := by
      intro e
      obtain ⟨i, hi, he, hB⟩ := eqk_of cc.tab (t := t) (by rw [e]; decide)
      rw [e] at he
      exact eqB_bool he hB
    split at hk
    · rename_i e
      have := run_equalIn_bool' W 9999 t b1 b2 (und e)
      exact fin hu hv (fun l m e => by cases e) (fun e => by cases e) hk (by simp [binOp, Op.equal, Op.maxDepth, this]) (mk_bool _)
    · rename_i e
      have := run_equalIn_bool' W 9999 t b1 b2 (und e)
      exact fin hu hv (fun l m e => by cases e) (fun e => by cases e) hk (by simp [binOp, Op.equal, Op.maxDepth, this]) (mk_bool _)
    · cases hk
  · split at hk
    · rename_i b hb
      obtain ⟨h1, h2, h3⟩ := eqK_rd (op := .eql) (p := x) (q := y) cc.tab hb hx hy
      exact Sound.value cc hk (run_binOp ho rfl rfl h1 h2) (mk_bool _)
    · rename_i b hb
      obtain ⟨h1, h2, h3⟩ := eqK_rd (op := .neq) (p := x) (q := y) cc.tab hb hx hy
      exact Sound.value cc hk (run_binOp ho rfl rfl h1 h3) (mk_bool _)
    · cases hk

end
end Go.Flat
