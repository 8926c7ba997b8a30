/-
  Soundness of the flat reading, sixth part: the tables; scalars; loads and stores.
-/
import Derived.Test.YtmooabafkcfbhaaFlatS5
import Derived.WalkKit
namespace Go.Flat
open Go.RowKit (Below)

/-! ## the tables -/

def cellLit : Cell → Option Value
  | .val .bool b => some (.bool b)
  | .val (.int k) n => some (.int k n)
  | .val .str s => some (.string ⟨s.toArray⟩)
  | .np => some (.pointer none)
  | .ns => some (.slice none 0 0)
  | .nf => some .nilFunc
  | _ => none

def eqLit : Value → Value → Bool
  | .bool a, .bool b => a == b
  | .int k a, .int l b => decide (k = l) && decide (a = b)
  | .string a, .string b => decide (a.data.toList = b.data.toList)
  | .pointer none, .pointer none => true
  | .slice none 0 0, .slice none 0 0 => true
  | .nilFunc, .nilFunc => true
  | _, _ => false
theorem eqLit_eq : ∀ {a b : Value}, eqLit a b = true → a = b := by
  intro a b h
  unfold eqLit at h
  split at h
  · simp at h; rw [h]
  · simp at h; rw [h.1, h.2]
  · simp at h
    rename_i x y
    have e : x = y := by
      cases x; cases y
      simp only [ByteArray.mk.injEq]
      exact h
    rw [e]
  · rfl
  · rfl
  · rfl
  · cases h

def eqLits : List Value → List Cell → Bool
  | [], [] => true
  | v :: vs, c :: cs => (match cellLit c with | some u => eqLit v u | none => false) && eqLits vs cs
  | _, _ => false

theorem cellLit_rd {P : Program} {W : World} {F : Fz} {E : EnvM} {c : Cell} {v : Value} (h : cellLit c = some v) : RdCell P W F E c v ∧ v.oneCell' = true := by
  unfold cellLit at h
  split at h <;> (try (cases h)) <;> first
    | exact ⟨⟨rfl, rfl, rfl⟩, rfl⟩
    | exact ⟨rfl, rfl⟩
    | exact ⟨⟨none, rfl⟩, rfl⟩

theorem eqLits_rd {P : Program} {W : World} {F : Fz} {E : EnvM} : ∀ {vs : List Value} {cs : List Cell}, eqLits vs cs = true → RdCells P W F E cs vs := by
  intro vs
  induction vs with
  | nil => intro cs h; cases cs with
    | nil => exact RdCells.nil
    | cons => cases h
  | cons v vs ih =>
    intro cs h
    cases cs with
    | nil => cases h
    | cons c cs =>
      simp only [eqLits, Bool.and_eq_true] at h
      obtain ⟨h1, h2⟩ := h
      cases hc : cellLit c with
      | none => rw [hc] at h1; cases h1
      | some u =>
        rw [hc] at h1
        have := eqLit_eq h1
        subst this
        exact RdCells.cons.2 ⟨cellLit_rd hc, ih h2⟩

/-- is a type one value of several cells? -/
def aggB (P : Program) (t : TypeId) : Bool := match P.underlying t with | some (.struct _) | some (.array _ _) => true | _ => false

def fieldsB : List Field → List (Nat × Nat) → Bool
  | [], [] => true
  | f :: fs, x :: xs => Nat.beq f.offset x.1 && (Nat.beq f.type x.2 && fieldsB fs xs)
  | _, _ => false

def shpB (P : Program) (t : TypeId) (s : Shp) : Bool :=
  match s, P.underlying t with
  | .struct fs, some (.struct gs) => fieldsB gs.toList fs
  | .arr n e, some (.array m d) => Nat.beq n m && Nat.beq e d
  | .slice e, some (.slice d) => Nat.beq e d
  | .str, some .string => true
  | .int k, some (.int l) => decide (k = l)
  | .other, _ => true
  | _, _ => false

/-! ### types that are compared cell by cell -/

/-- a part of a type's is as wide as a code, and of its form -/
def partB (P : Program) (t : TypeId) (e : Ty) : Bool :=
  match P.info? t with
  | some ti => Nat.beq ti.size (width e) && ((agg e == aggB P t) && ((agg e || Nat.beq (width e) 1) && (P.underlying t).isSome))
  | none => false

def eqFieldsB (P : Program) (self : TypeId → Ty → Bool) : List Field → Ty → Nat → Bool
  | [], .unit, _ => true
  | [f], e, off => (f.name != "_") && (Nat.beq f.offset off && (partB P f.type e && self f.type e))
  | f :: g :: r, .pair a b, off => (f.name != "_") && (Nat.beq f.offset off && (partB P f.type a && (self f.type a && eqFieldsB P self (g :: r) b (off + width a))))
  | _, _, _ => false

def eqItemsB (P : Program) (self : TypeId → Ty → Bool) (el : TypeId) : Nat → Ty → Bool
  | 0, .unit => true
  | 1, e => partB P el e && self el e
  | n + 2, .pair a b => partB P el a && (self el a && eqItemsB P self el (n + 1) b)
  | _, _ => false

def eqTyB (P : Program) : Nat → TypeId → Ty → Bool
  | 0, _, _ => false
  | d + 1, t, c =>
    match P.underlying t, c with
    | some .bool, .bool => true
    | some (.int _), .int _ => true
    | some .string, .str => true
    | some (.struct fs), .wrap e => !P.stoodInHeld t && eqFieldsB P (eqTyB P d) fs.toList e 0
    | some (.array n el), .wrap e => (P.info? el).isSome && eqItemsB P (eqTyB P d) el n e
    | _, _ => false

def eqB (P : Program) (t : TypeId) (i : TI) : Bool :=
  match i.eq, P.underlying t with
  | 0, _ => true
  | 1, some (.pointer _) => true
  | 2, some (.func _ _ _) => true
  | 4, some .bool => true
  | 3, _ => match i.ty with | some c => agg c && (!P.eqGuardType P.depth t && eqTyB P 10000 t c) | none => false
  | _, _ => false

/-- a row of the table against the program -/
def infoB (P : Program) (t : TypeId) (i : TI) : Bool :=
  match P.info? t with
  | some ti =>
    eqB P t i && (Nat.beq ti.size i.cells && (Nat.beq ti.bytes i.bytes && (shpB P t i.shp &&
      (match i.ty with
       | none => true
       | some c => Nat.beq (width c) i.cells && ((agg c == aggB P t) && ((agg c || Nat.beq (width c) 1) && ((P.underlying t).isSome && (match ti.zero with | some z => eqLits z.cells.toList (zeroCells c) && ((agg c == (match z with | .agg _ => true | _ => false))) | none => false))))))))
  | none => false

structure InfoOk (P : Program) (t : TypeId) (i : TI) : Prop where
  info : ∃ ti, P.info? t = some ti ∧ ti.size = i.cells ∧ ti.bytes = i.bytes ∧
    (∀ c, i.ty = some c → ∃ z, ti.zero = some z ∧ eqLits z.cells.toList (zeroCells c) = true ∧ (agg c = true ↔ ∃ l, z = .agg l))
  ty : ∀ c, i.ty = some c → width c = i.cells ∧ agg c = aggB P t ∧ (agg c = false → width c = 1) ∧ ∃ d, P.underlying t = some d
  shp : shpB P t i.shp = true
  eq : eqB P t i = true

theorem infoB_ok {P : Program} {t : TypeId} {i : TI} (h : infoB P t i = true) : InfoOk P t i := by
  unfold infoB at h
  split at h
  case h_2 => cases h
  rename_i ti hti
  simp only [Bool.and_eq_true] at h
  obtain ⟨h0, h1, h2, h3, h4⟩ := h
  refine ⟨⟨ti, hti, Nat.eq_of_beq_eq_true h1, Nat.eq_of_beq_eq_true h2, fun c hc => ?_⟩, fun c hc => ?_, h3, h0⟩
  · rw [hc] at h4
    simp only [Bool.and_eq_true] at h4
    obtain ⟨_, _, _, _, h5⟩ := h4
    split at h5
    case h_2 => cases h5
    rename_i z hz
    simp only [Bool.and_eq_true, beq_iff_eq] at h5
    refine ⟨z, hz, h5.1, ?_⟩
    rw [h5.2]
    cases z <;> simp
  · rw [hc] at h4
    simp only [Bool.and_eq_true, beq_iff_eq] at h4
    refine ⟨Nat.eq_of_beq_eq_true h4.1, h4.2.1, fun e => ?_, Option.isSome_iff_exists.1 h4.2.2.2.1⟩
    have := h4.2.2.1
    rw [e] at this
    exact Nat.eq_of_beq_eq_true (by simpa using this)

def TabOk (cx : Cx) : Prop := ∀ t i, cx.info t = some i → InfoOk cx.P t i

def BT.allB {α : Type} (p : Nat → α → Bool) : BT α → (Nat → Nat) → Bool
  | .nil, _ => true
  | .node l r v, ix => (match v with | some x => p (ix 0) x | none => true) && (l.allB p (fun n => ix (2 * n + 1)) && r.allB p (fun n => ix (2 * n + 2)))

theorem BT.get_all {α : Type} {p : Nat → α → Bool} : ∀ (t : BT α) (ix : Nat → Nat), t.allB p ix = true → ∀ n x, t.get n = some x → p (ix n) x = true := by
  intro t
  induction t with
  | nil => intro ix _ n x h; cases h
  | node l r v ihl ihr =>
    intro ix h n x hx
    simp only [BT.allB, Bool.and_eq_true] at h
    obtain ⟨h1, h2, h3⟩ := h
    unfold BT.get at hx
    cases hn : Nat.beq n 0 with
    | true =>
      rw [hn] at hx
      have := Nat.eq_of_beq_eq_true hn
      subst this
      simp only [cond_true] at hx
      rw [hx] at h1
      exact h1
    | false =>
      rw [hn] at hx
      simp only [cond_false] at hx
      have hne : n ≠ 0 := fun e => by subst e; cases hn
      cases ho : Nat.beq (n % 2) 1 with
      | true =>
        rw [ho] at hx
        have := Nat.eq_of_beq_eq_true ho
        have e : n = 2 * (n / 2) + 1 := by omega
        rw [e]
        exact ihl _ h2 (n / 2) x hx
      | false =>
        rw [ho] at hx
        have hn1 : n % 2 ≠ 1 := fun e => by rw [e] at ho; cases ho
        have e : n = 2 * (n / 2 - 1) + 2 := by omega
        rw [e]
        exact ihr _ h3 (n / 2 - 1) x hx

/-! ## scalars -/
section
variable {P : Program} {W W' : World} {F F' : Fz} {E E' : EnvM} {h : Heap} {N : Nat → Prop}

theorem oneCell_cells {v : Value} (h : v.oneCell' = true) : v.cells = #[v] := by
  cases v <;> simp_all [Value.oneCell', Value.cells]

theorem RdV.single {c : Cell} {v : Value} (h : RdV P W F E (.v false [c]) v) : RdCell P W F E c v ∧ v.oneCell' = true := by
  obtain ⟨h1, _, h3⟩ := h
  have ho := h3 rfl
  rw [oneCell_cells ho] at h1
  exact h1.2 0 c v rfl rfl
theorem RdV.mk1 {c : Cell} {v : Value} (h : RdCell P W F E c v) (ho : v.oneCell' = true) : RdV P W F E (.v false [c]) v :=
  ⟨by rw [oneCell_cells ho]; exact RdCells.one h ho, (fun e => by cases e), fun _ => ho⟩

theorem rd_bool {b : Bool} {v : Value} (h : RdV P W F E (.v false [.val .bool b]) v) : v = .bool b := by
  have := h.single.1.2.2
  simpa [Rd, RdP] using this
theorem rd_int {k : IntKind} {n : Int} {v : Value} (h : RdV P W F E (.v false [.val (.int k) n]) v) : v = .int k n := by
  have := h.single.1.2.2
  simpa [Rd, RdP] using this
theorem rd_str {s : List UInt8} {v : Value} (h : RdV P W F E (.v false [.val .str s]) v) : v = .string ⟨s.toArray⟩ := by
  have := h.single.1.2.2
  simpa [Rd, RdP] using this
theorem mk_bool (b : Bool) : RdV P W F E (.v false [.val .bool b]) (.bool b) := RdV.mk1 ⟨rfl, rfl, rfl⟩ rfl
theorem mk_int (k : IntKind) (n : Int) : RdV P W F E (.v false [.val (.int k) n]) (.int k n) := RdV.mk1 ⟨rfl, rfl, rfl⟩ rfl
theorem mk_str (s : List UInt8) : RdV P W F E (.v false [.val .str s]) (.string ⟨s.toArray⟩) := RdV.mk1 ⟨rfl, rfl, rfl⟩ rfl

/-! ## loads -/

theorem run_loadVar_cells {t : TypeId} {i : TypeInfo} {b o : Nat} {vs : List Value} (hi : P.info? t = some i) (hd : ∃ d, P.underlying t = some d) (hl : vs.length = i.size)
    (hc : ∀ j, j < vs.length → W.cell? ⟨b, o + j, none⟩ = vs[j]?) (hone : aggB P t = false → vs.length = 1) :
    (loadVar t ⟨b, o, none⟩).run P W = .ok (if aggB P t = true then .agg vs.toArray else vs.headD .nilFunc) W := by
  obtain ⟨d, hd⟩ := hd
  have hload : (loadCells ⟨b, o, none⟩ i.size).run P W = .ok vs.toArray W := by
    rw [← hl]
    refine run_loadCells_list (P := P) (w := W) ⟨b, o, none⟩ vs fun j v hv => ?_
    have hj : j < vs.length := by
      rcases Nat.lt_or_ge j vs.length with k | k
      · exact k
      · rw [List.getElem?_eq_none k] at hv; cases hv
    have e : (⟨b, o, none⟩ : Addr).add j = ⟨b, o + j, none⟩ := by unfold Addr.add; split <;> simp_all
    rw [e, hc j hj, hv]
  cases hag : aggB P t with
  | true =>
    simp only [if_true]
    unfold loadVar isAgg
    unfold aggB at hag
    rw [hd] at hag
    cases d <;> simp_all [run_underlying hd, sizeOf, typeInfo]
  | false =>
    have h1 := hone hag
    match vs, h1 with
    | [v], _ =>
      have := hc 0 (by simp)
      simp at this
      unfold loadVar isAgg
      unfold aggB at hag
      rw [hd] at hag
      have hl1 : (load ⟨b, o, none⟩).run P W = .ok v W := by
        simp [load, Sem.run, this]
      cases d <;> simp_all [run_underlying hd]
end
end Go.Flat
