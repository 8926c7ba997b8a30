/-
  Soundness of the flat reading, first part: how memory reads as typed values, and what keeps that so.
-/
import Derived.Test.YtmooabafkcfbhaaFlatB
import Derived.Below
namespace Go.Flat
open Go.RowKit (Below)

/-- where cells are read -/
abbrev Get := Nat → Option Value
/-- one value's cells -/
def one (v : Value) : Get := fun j => v.cells[j]?
/-- cells of memory from an address on -/
def mem (W : World) (b off : Nat) : Get := fun j => W.cell? ⟨b, off + j, none⟩
/-- blocks that are written no more -/
abbrev Fz := Nat → Prop

/-- A later world: what was frozen stands as it stood. -/
structure Later (W : World) (F : Fz) (W' : World) (F' : Fz) : Prop where
  os : W'.os = W.os
  tape : W'.tape = W.tape
  output : W'.output = W.output
  size : W.heap.size ≤ W'.heap.size
  keep : ∀ b, F b → W'.heap[b]? = W.heap[b]?
  more : ∀ b, F b → F' b

theorem Later.refl (W : World) (F : Fz) : Later W F W F := ⟨rfl, rfl, rfl, Nat.le_refl _, fun _ _ => rfl, fun _ h => h⟩
theorem Later.trans {W W1 W2 : World} {F F1 F2 : Fz} (h : Later W F W1 F1) (k : Later W1 F1 W2 F2) : Later W F W2 F2 :=
  ⟨k.os.trans h.os, k.tape.trans h.tape, k.output.trans h.output, Nat.le_trans h.size k.size, fun b hb => (k.keep b (h.more b hb)).trans (h.keep b hb), fun b hb => k.more b (h.more b hb)⟩
theorem Later.cell {W W' : World} {F F' : Fz} (h : Later W F W' F') {b : Nat} (hb : F b) (o : Nat) : W'.cell? ⟨b, o, none⟩ = W.cell? ⟨b, o, none⟩ := by
  simp only [World.cell?, h.keep b hb]
theorem Later.mem {W W' : World} {F F' : Fz} (h : Later W F W' F') {b : Nat} (hb : F b) (o : Nat) : mem W' b o = mem W b o := by
  funext j; exact h.cell hb _

/-- is a value of the form that a code has? -/
def formed (t : Ty) (v : Value) : Prop := (agg t = true → ∃ cs, v = .agg cs) ∧ (agg t = false → v.oneCell' = true) ∧ v.cells.size = width t

/-- What a call of closed values leaves: nothing that was there has turned. -/
structure Grow (W : World) (F : Fz) (W' : World) (F' : Fz) : Prop where
  below : Below W.heap.size W W'
  more : ∀ b, F b → F' b
  new : ∀ b, F' b → F b ∨ (W.heap.size ≤ b ∧ b < W'.heap.size)

/-- a function that has a body -/
def Plain (P : Program) (f : FuncId) : Prop := ∃ fn, P.funcs[f]? = some fn ∧ (fn.name == "runtime.NumGoroutine") = false ∧ fn.body.isNone = false

/-- HOW MEMORY READS: as one value of a code; as the values of a list of arguments. -/
def RdP (P : Program) : (t : Ty) → (El t → World → Fz → Get → Prop) × (El t → World → Fz → List Value → Prop)
  | .unit => (fun _ _ _ _ => True, fun _ _ _ vs => vs = [])
  | .pair a b => (fun x W F g => (RdP P a).1 x.1 W F g ∧ (RdP P b).1 x.2 W F (fun j => g (width a + j)),
      fun x W F vs => ∃ v r, vs = v :: r ∧ formed a v ∧ (RdP P a).1 x.1 W F (one v) ∧ (RdP P b).2 x.2 W F r)
  | .wrap e => ((RdP P e).1, fun _ _ _ _ => False)
  | .bool => (fun x _ _ g => g 0 = some (.bool x), fun _ _ _ _ => False)
  | .int k => (fun x _ _ g => g 0 = some (.int k x), fun _ _ _ _ => False)
  | .str => (fun x _ _ g => g 0 = some (.string ⟨x.toArray⟩), fun _ _ _ _ => False)
  | .slice e => (fun x W F g => (x = [] ∧ ∃ a, g 0 = some (.slice a 0 0)) ∨
      ∃ b off cap, g 0 = some (.slice (some ⟨b, off, none⟩) x.length cap) ∧ F b ∧ x.length ≤ cap ∧ ∀ i (h : i < x.length), (RdP P e).1 x[i] W F (mem W b (off + i * width e)),
      fun _ _ _ _ => False)
  | .ptr e => (fun x W F g => ∃ b off, g 0 = some (.pointer (some ⟨b, off, none⟩)) ∧ F b ∧ (RdP P e).1 x W F (mem W b off), fun _ _ _ _ => False)
  | .fn a r => (fun x W F g => ∃ f caps, g 0 = some (.func (.func f) #[] caps) ∧ Plain P f ∧
      ∀ W' F' vs y z, Later W F W' F' → (∀ b, F' b → b < W'.heap.size) → (RdP P a).2 y W' F' vs → x y = some z →
        Calls P f (vs.toArray ++ caps) W' fun e W'' => ∃ v F'', e = .returned v ∧ Grow W' F' W'' F'' ∧ formed r v ∧ (RdP P r).1 z W'' F'' (one v),
      fun _ _ _ _ => False)
  | .own _ => (fun _ _ _ _ => False, fun _ _ _ _ => False)
  | .ref _ => (fun _ _ _ _ => False, fun _ _ _ _ => False)
  | .opt _ => (fun _ _ _ _ => False, fun _ _ _ _ => False)

abbrev Rd (P : Program) (t : Ty) (x : El t) (W : World) (F : Fz) (g : Get) : Prop := (RdP P t).1 x W F g
abbrev RdArgs (P : Program) (t : Ty) (x : El t) (W : World) (F : Fz) (vs : List Value) : Prop := (RdP P t).2 x W F vs

theorem Grow.later {W W' : World} {F F' : Fz} (h : Grow W F W' F') (hF : ∀ b, F b → b < W.heap.size) : Later W F W' F' :=
  ⟨h.below.os, h.below.tape, h.below.output, h.below.size, fun b hb => h.below.block b (hF b hb), h.more⟩
theorem Grow.lt {W W' : World} {F F' : Fz} (h : Grow W F W' F') (hF : ∀ b, F b → b < W.heap.size) : ∀ b, F' b → b < W'.heap.size := by
  intro b hb
  rcases h.new b hb with h1 | h1
  · exact Nat.lt_of_lt_of_le (hF b h1) h.below.size
  · exact h1.2
theorem Grow.refl (W : World) (F : Fz) : Grow W F W F := ⟨Below.refl _ _, fun _ h => h, fun _ h => .inl h⟩
theorem Grow.trans {W W1 W2 : World} {F F1 F2 : Fz} (h : Grow W F W1 F1) (k : Grow W1 F1 W2 F2) : Grow W F W2 F2 := by
  refine ⟨h.below.trans (k.below.mono h.below.size), fun b hb => k.more b (h.more b hb), fun b hb => ?_⟩
  rcases k.new b hb with h1 | h1
  · rcases h.new b h1 with h2 | h2
    · exact .inl h2
    · exact .inr ⟨h2.1, Nat.lt_of_lt_of_le h2.2 k.below.size⟩
  · exact .inr ⟨Nat.le_trans h.below.size h1.1, h1.2⟩

/-- a reading stands in every later world -/
theorem RdP.later {P : Program} : ∀ (t : Ty) {W W' : World} {F F' : Fz}, Later W F W' F' →
    (∀ (x : El t) g, Rd P t x W F g → Rd P t x W' F' g) ∧ (∀ (x : El t) vs, RdArgs P t x W F vs → RdArgs P t x W' F' vs) := by
  intro t
  induction t with
  | unit => exact fun _ => ⟨fun _ _ h => h, fun _ _ h => h⟩
  | pair a b iha ihb =>
    intro W W' F F' hl
    refine ⟨fun x g h => ⟨(iha hl).1 _ _ h.1, (ihb hl).1 _ _ h.2⟩, fun x vs h => ?_⟩
    obtain ⟨v, r, h1, h2, h3, h4⟩ := h
    exact ⟨v, r, h1, h2, (iha hl).1 _ _ h3, (ihb hl).2 _ _ h4⟩
  | wrap e ih => exact fun hl => ⟨fun x g h => (ih hl).1 _ _ h, fun _ _ h => h.elim⟩
  | bool => exact fun _ => ⟨fun _ _ h => h, fun _ _ h => h.elim⟩
  | int k => exact fun _ => ⟨fun _ _ h => h, fun _ _ h => h.elim⟩
  | str => exact fun _ => ⟨fun _ _ h => h, fun _ _ h => h.elim⟩
  | slice e ih =>
    intro W W' F F' hl
    refine ⟨fun x g h => ?_, fun _ _ h => h.elim⟩
    rcases h with h | ⟨b, off, cap, h1, h2, h3, h4⟩
    · exact .inl h
    · refine .inr ⟨b, off, cap, h1, hl.more b h2, h3, fun i hi => ?_⟩
      rw [hl.mem h2]
      exact (ih hl).1 _ _ (h4 i hi)
  | ptr e ih =>
    intro W W' F F' hl
    refine ⟨fun x g h => ?_, fun _ _ h => h.elim⟩
    obtain ⟨b, off, h1, h2, h3⟩ := h
    refine ⟨b, off, h1, hl.more b h2, ?_⟩
    rw [hl.mem h2]
    exact (ih hl).1 _ _ h3
  | fn a r _ _ =>
    intro W W' F F' hl
    refine ⟨fun x g h => ?_, fun _ _ h => h.elim⟩
    obtain ⟨f, caps, h1, h2⟩ := h
    exact ⟨f, caps, h1, h2.1, fun W1 F1 vs y z h3 h4 h5 h6 => h2.2 W1 F1 vs y z (hl.trans h3) h4 h5 h6⟩
  | own e _ => exact fun _ => ⟨fun _ _ h => h.elim, fun _ _ h => h.elim⟩
  | ref e _ => exact fun _ => ⟨fun _ _ h => h.elim, fun _ _ h => h.elim⟩
  | opt e _ => exact fun _ => ⟨fun _ _ h => h.elim, fun _ _ h => h.elim⟩

theorem Rd.later {P : Program} {t : Ty} {x : El t} {W W' : World} {F F' : Fz} {g : Get} (h : Rd P t x W F g) (hl : Later W F W' F') : Rd P t x W' F' g := (RdP.later t hl).1 _ _ h
theorem RdArgs.later {P : Program} {t : Ty} {x : El t} {W W' : World} {F F' : Fz} {vs : List Value} (h : RdArgs P t x W F vs) (hl : Later W F W' F') : RdArgs P t x W' F' vs := (RdP.later t hl).2 _ _ h

/-- a reading looks at no more cells than its width -/
theorem Rd.congr {P : Program} : ∀ (t : Ty) {x : El t} {W : World} {F : Fz} {g g' : Get}, (∀ j, j < width t → g' j = g j) → Rd P t x W F g → Rd P t x W F g' := by
  intro t
  induction t with
  | unit => exact fun _ h => h
  | pair a b iha ihb =>
    intro x W F g g' hg h
    refine ⟨iha (fun j hj => hg j (by simp [width]; omega)) h.1, ihb (fun j hj => hg _ (by simp [width]; omega)) h.2⟩
  | wrap e ih => exact fun hg h => ih hg h
  | bool => intro x W F g g' hg h; exact (hg 0 (by simp [width])).trans h
  | int k => intro x W F g g' hg h; exact (hg 0 (by simp [width])).trans h
  | str => intro x W F g g' hg h; exact (hg 0 (by simp [width])).trans h
  | slice e _ =>
    intro x W F g g' hg h
    have h0 := hg 0 (by simp [width])
    rcases h with ⟨h1, a, h2⟩ | ⟨b, off, cap, h1, h2⟩
    · exact .inl ⟨h1, a, h0.trans h2⟩
    · exact .inr ⟨b, off, cap, h0.trans h1, h2⟩
  | ptr e _ =>
    intro x W F g g' hg h
    obtain ⟨b, off, h1, h2⟩ := h
    exact ⟨b, off, (hg 0 (by simp [width])).trans h1, h2⟩
  | fn a r _ _ =>
    intro x W F g g' hg h
    obtain ⟨f, caps, h1, h2⟩ := h
    exact ⟨f, caps, (hg 0 (by simp [width])).trans h1, h2⟩
  | own e _ => exact fun _ h => h.elim
  | ref e _ => exact fun _ h => h.elim
  | opt e _ => exact fun _ h => h.elim

/-! ## own memory -/

/-- where a name of one's own lies -/
inductive Loc where
  | box (b : Nat)
  | nil
  | arr (b w len cap : Nat)
def Loc.blk : Loc → Option Nat
  | .box b => some b
  | .nil => none
  | .arr b _ _ _ => some b

/-- which name, of which version, lies where; and the newest version of each name -/
structure EnvM where
  m : Nat → Nat → Option Loc
  top : Nat → Nat

structure EnvLe (E E' : EnvM) : Prop where
  top : ∀ n, E.top n ≤ E'.top n
  m : ∀ n ver, ver ≤ E.top n → E'.m n ver = E.m n ver

theorem EnvLe.refl (E : EnvM) : EnvLe E E := ⟨fun _ => Nat.le_refl _, fun _ _ _ => rfl⟩
theorem EnvLe.trans {E E1 E2 : EnvM} (h : EnvLe E E1) (k : EnvLe E1 E2) : EnvLe E E2 :=
  ⟨fun n => Nat.le_trans (h.top n) (k.top n), fun n ver hv => (k.m n ver (Nat.le_trans hv (h.top n))).trans (h.m n ver hv)⟩

/-- what a location says of a value, by the cell that speaks of it -/
def RdLoc (c : Cell) (L : Loc) (v : Value) : Prop :=
  match c, L with
  | .loc _ _ off, .box b => v = .pointer (some ⟨b, off, none⟩)
  | .lel _ _ i off, .arr b w _ _ => v = .pointer (some ⟨b, i * w + off, none⟩)
  | .lall _ _, .nil => ∃ a, v = .slice a 0 0
  | .lall _ _, .arr b _ len cap => v = .slice (some ⟨b, 0, none⟩) len cap
  | .lsl _ _ off l, .nil => (∃ a, v = .slice a 0 0) ∧ l = 0 ∧ off = 0
  | .lsl _ _ off l, .arr b w len cap => off + l ≤ len ∧ ∃ o c, v = .slice (some ⟨b, o, none⟩) l c ∧ l ≤ c ∧ (0 < c → o = off * w ∧ off + c = cap)
  | _, _ => False

/-- the name and the version of which a cell speaks -/
def refOf : Cell → Option (Nat × Nat)
  | .loc n ver _ => some (n, ver)
  | .lel n ver _ _ => some (n, ver)
  | .lall n ver => some (n, ver)
  | .lsl n ver _ _ => some (n, ver)
  | _ => none

/-- a cell of the interpreter against a value -/
def RdCell (P : Program) (W : World) (F : Fz) (E : EnvM) (c : Cell) (v : Value) : Prop :=
  match c with
  | .val t x => width t = 1 ∧ agg t = false ∧ Rd P t x W F (fun j => if j = 0 then some v else none)
  | .pin t x off => ∃ b o, v = .pointer (some ⟨b, o + off, none⟩) ∧ F b ∧ Rd P t x W F (mem W b o)
  | .clo f t x => ∃ caps, v = .func (.func f) #[] caps ∧ RdArgs P t x W F caps.toList
  | .np => v = .pointer none
  | .ns => ∃ a, v = .slice a 0 0
  | .nf => v = .nilFunc
  | .dead => True
  | .loc n ver off => ver ≤ E.top n ∧ (∃ L, E.m n ver = some L) ∧ ∀ L, E.m n ver = some L → RdLoc (.loc n ver off) L v
  | .lel n ver i off => ver ≤ E.top n ∧ (∃ L, E.m n ver = some L) ∧ ∀ L, E.m n ver = some L → RdLoc (.lel n ver i off) L v
  | .lall n ver => ver ≤ E.top n ∧ (∃ L, E.m n ver = some L) ∧ ∀ L, E.m n ver = some L → RdLoc (.lall n ver) L v
  | .lsl n ver off l => ver ≤ E.top n ∧ (∃ L, E.m n ver = some L) ∧ ∀ L, E.m n ver = some L → RdLoc (.lsl n ver off l) L v

theorem RdCell.later {P : Program} {W W' : World} {F F' : Fz} {E E' : EnvM} {c : Cell} {v : Value} (h : RdCell P W F E c v) (hl : Later W F W' F')
    (hE : EnvLe E E') : RdCell P W' F' E' c v := by
  have key : ∀ n ver, (ver ≤ E.top n ∧ (∃ L, E.m n ver = some L) ∧ ∀ L, E.m n ver = some L → RdLoc c L v) →
      (ver ≤ E'.top n ∧ (∃ L, E'.m n ver = some L) ∧ ∀ L, E'.m n ver = some L → RdLoc c L v) :=
    fun n ver k => ⟨Nat.le_trans k.1 (hE.top n), by rw [hE.m n ver k.1]; exact k.2.1, fun L hL => k.2.2 L (by rw [← hE.m n ver k.1]; exact hL)⟩
  cases c with
  | val t x => exact ⟨h.1, h.2.1, h.2.2.later hl⟩
  | pin t x off =>
    obtain ⟨b, o, h1, h2, h3⟩ := h
    refine ⟨b, o, h1, hl.more b h2, ?_⟩
    rw [hl.mem h2]
    exact h3.later hl
  | loc n ver off => exact key n ver h
  | lel n ver i off => exact key n ver h
  | lall n ver => exact key n ver h
  | lsl n ver off l => exact key n ver h
  | clo f t x =>
    obtain ⟨caps, h1, h2⟩ := h
    exact ⟨caps, h1, h2.later hl⟩
  | np => exact h
  | ns => exact h
  | nf => exact h
  | dead => trivial

/-! ## values, blocks, states -/

/-- cells in a row against an array of values -/
def RdCells (P : Program) (W : World) (F : Fz) (E : EnvM) (cs : List Cell) (vs : List Value) : Prop :=
  cs.length = vs.length ∧ ∀ (j : Nat) c v, cs[j]? = some c → vs[j]? = some v → RdCell P W F E c v ∧ v.oneCell' = true

theorem RdCells.later {P : Program} {W W' : World} {F F' : Fz} {E E' : EnvM} {cs : List Cell} {vs : List Value} (h : RdCells P W F E cs vs) (hl : Later W F W' F')
    (hE : EnvLe E E') : RdCells P W' F' E' cs vs := ⟨h.1, fun j c v h1 h2 => ⟨(h.2 j c v h1 h2).1.later hl hE, (h.2 j c v h1 h2).2⟩⟩

/-- a value of the interpreter's, not a tuple, against a value -/
def RdV1 (P : Program) (W : World) (F : Fz) (E : EnvM) (ag : Bool) (cs : List Cell) (v : Value) : Prop :=
  RdCells P W F E cs v.cells.toList ∧ (ag = true → ∃ l, v = .agg l) ∧ (ag = false → v.oneCell' = true)

def RdV (P : Program) (W : World) (F : Fz) (E : EnvM) (x : V) (v : Value) : Prop :=
  match x with
  | .v ag cs => RdV1 P W F E ag cs v
  | .tup l => ∃ vs : List Value, v = .tuple vs.toArray ∧ vs.length = l.length ∧ ∀ (j : Nat) p u, l[j]? = some p → vs[j]? = some u → RdV1 P W F E p.1 p.2 u
  | .undef => v = undef
  | .lost => True

theorem RdV1.later {P : Program} {W W' : World} {F F' : Fz} {E E' : EnvM} {ag : Bool} {cs : List Cell} {v : Value} (h : RdV1 P W F E ag cs v) (hl : Later W F W' F')
    (hE : EnvLe E E') : RdV1 P W' F' E' ag cs v := ⟨h.1.later hl hE, h.2⟩
theorem RdV.later {P : Program} {W W' : World} {F F' : Fz} {E E' : EnvM} {x : V} {v : Value} (h : RdV P W F E x v) (hl : Later W F W' F')
    (hE : EnvLe E E') : RdV P W' F' E' x v := by
  cases x with
  | v ag cs => exact RdV1.later h hl hE
  | tup l =>
    obtain ⟨vs, h1, h2, h3⟩ := h
    exact ⟨vs, h1, h2, fun j p u hp hu => (h3 j p u hp hu).later hl hE⟩
  | undef => exact h
  | lost => trivial

/-- an array's memory: its elements, and room behind them -/
def ArrAt (P : Program) (W : World) (F : Fz) (b cap : Nat) (e : Ty) (xs : List (El e)) : Prop :=
  ∃ cs T, W.heap[b]? = some (.cells cs T (0, 0)) ∧ cs.size = cap * width e ∧ xs.length ≤ cap ∧ cap ≤ maxLen ∧ (∀ v ∈ cs.toList, v.oneCell' = true) ∧
    ∀ i (h : i < xs.length), Rd P e xs[i] W F (fun j => cs[i * width e + j]?)

def BlkRel (P : Program) (W : World) (F : Fz) (E : EnvM) (L : Loc) : Blk → Prop
  | .box t cs fr => ∃ b arr T, L = .box b ∧ W.heap[b]? = some (.cells arr T (0, 0)) ∧ RdCells P W F E cs arr.toList ∧ cs.length = width t ∧ (fr = false → ¬ F b) ∧ (fr = true → F b)
  | .arr e xs fr => (L = .nil ∧ xs = []) ∨ ∃ b cap, L = .arr b (width e) xs.length cap ∧ ArrAt P W F b cap e xs ∧ (fr = false → ¬ F b) ∧ (fr = true → F b)

/-- the memory of one's own: each name that lives, at its newest version; no two in one block; N: the names that are spoken of -/
structure HR (P : Program) (W : World) (F : Fz) (E : EnvM) (N : Nat → Prop) (h : Heap) : Prop where
  top : ∀ n ver b, N n → h[n]? = some (ver, b) → ver = E.top n
  blk : ∀ n ver b, h[n]? = some (ver, some b) → N n ∧ ∃ L, E.m n ver = some L ∧ BlkRel P W F E L b
  inj : ∀ n m vn vm bn bm L M x, h[n]? = some (vn, some bn) → h[m]? = some (vm, some bm) → E.m n vn = some L → E.m m vm = some M → L.blk = some x → M.blk = some x → n = m

end Go.Flat
