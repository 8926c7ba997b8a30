/-
  Soundness of the flat reading, fourteenth part: structs and arrays that are built.
-/
import Derived.Test.YtmooabafkcfbhaaFlatT4
import Derived.Laws.Tables
namespace Go.Flat
open Go.RowKit (Below)

section
variable {cx : Cx} {call : Oracle cx} {fx : Hints} {W W' : World} {F F' : Fz} {E E' : EnvM} {h : Heap} {N : Nat → Prop} {ρ : Operand → V} {a : Act} {R : Type}

theorem fold_set (off : Nat) : ∀ (us : List Value) (i : Nat) (cs : Array Value), off + i + us.length ≤ cs.size →
    (us.zipIdx i).foldl (fun (cs : Array Value) x => cs.setIfInBounds (off + x.2) x.1) cs = (cs.toList.take (off + i) ++ us ++ cs.toList.drop (off + i + us.length)).toArray := by
  intro us
  induction us with
  | nil => intro i cs _; simp
  | cons u us ih =>
    intro i cs h
    simp only [List.length_cons] at h
    rw [List.zipIdx_cons, List.foldl_cons, ih (i + 1) _ (by simp; omega)]
    apply Array.ext'
    simp only [Array.toList_setIfInBounds]
    have hl : off + i < cs.toList.length := by simp; omega
    have e1 : (cs.toList.set (off + i) u).take (off + (i + 1)) = cs.toList.take (off + i) ++ [u] := by
      rw [List.set_eq_take_append_cons_drop, if_pos hl, List.take_append]
      have : (cs.toList.take (off + i)).length = off + i := by rw [List.length_take]; omega
      rw [this, List.take_take, show off + (i + 1) - (off + i) = 1 by omega]
      simp
    have e2 : (cs.toList.set (off + i) u).drop (off + (i + 1) + us.length) = cs.toList.drop (off + i + (u :: us).length) := by
      rw [List.drop_set_of_lt (by omega)]
      congr 1
      simp; omega
    rw [e1, e2]
    simp

theorem fill_rd {P : Program} (place : Nat → Option (Nat × Nat)) : ∀ (ps : List (Nat × Operand)) (cs : List Cell) (vs : Array Value) (c : List Cell), (∀ x, RdV P W F E (ρ x) (a.eval x)) →
    buildCells place cs (ps.map fun x => (x.1, ρ x.2)) = some c → RdCells P W F E cs vs.toList →
    ∃ us, Instr.fill place vs (ps.map fun x => (x.1, a.eval x.2)) = some us ∧ RdCells P W F E c us.toList := by
  intro ps
  induction ps with
  | nil =>
    intro cs vs c _ hb hv
    simp [buildCells] at hb
    subst hb
    exact ⟨vs, rfl, hv⟩
  | cons x ps ih =>
    intro cs vs c hρ hb hv
    obtain ⟨i, x⟩ := x
    simp only [List.map_cons] at hb ⊢
    have hx := hρ x
    cases hq : ρ x with
    | tup l => rw [hq] at hb; simp [buildCells] at hb
    | undef => rw [hq] at hb; simp [buildCells] at hb
    | lost => rw [hq] at hb; simp [buildCells] at hb
    | v ag new =>
      rw [hq] at hb hx
      unfold buildCells at hb
      cases hp : place i with
      | none => simp only [hp] at hb; cases hb
      | some q =>
        obtain ⟨off, w⟩ := q
        simp only [hp] at hb
        split at hb
        case isFalse => cases hb
        rename_i hw
        unfold splice at hb
        split at hb
        case isFalse => cases hb
        rename_i hle
        simp only [Option.bind_some] at hb
        have hl1 : new.length = (a.eval x).cells.size := by simpa using hx.1.1
        have hl2 : cs.length = vs.size := by simpa using hv.1
        obtain ⟨us, h1, h2⟩ := ih _ ((vs.toList.take off ++ (a.eval x).cells.toList ++ vs.toList.drop (off + (a.eval x).cells.toList.length)).toArray) c hρ hb (by
          have := ((hv.take off).append hx.1).append (hv.drop (off + new.length))
          rw [hl1] at this
          simpa [hl1] using this)
        refine ⟨us, ?_, h2⟩
        unfold Instr.fill
        simp only [hp]
        rw [if_neg (by simp; omega)]
        have hf := fold_set off (a.eval x).cells.toList 0 vs (by simp; omega)
        simp only [Nat.add_zero] at hf
        rw [← hf] at h1
        rw [← Array.foldl_toList, Array.toList_zipIdx]
        exact h1

theorem places_of : ∀ {gs : List Field} {fs : List (Nat × Nat)}, TabOk cx → fieldsB gs fs = true → (fs.all fun f => (cx.info f.2).isSome) = true →
    gs.mapM (fun f => (cx.P.info? f.type).map fun i => (f.offset, i.size)) = some (fs.map fun f => (f.1, cx.cells f.2)) := by
  intro gs
  induction gs with
  | nil => intro fs _ h _; cases fs with
    | nil => rfl
    | cons => cases h
  | cons g gs ih =>
    intro fs ht h hall
    cases fs with
    | nil => cases h
    | cons f fs =>
      simp only [fieldsB, Bool.and_eq_true] at h
      simp only [List.all_cons, Bool.and_eq_true] at hall
      obtain ⟨i, hi⟩ := Option.isSome_iff_exists.1 hall.1
      obtain ⟨ti, k1, k2, _⟩ := (ht f.2 i hi).info
      have e1 := Nat.eq_of_beq_eq_true h.1
      have e2 := Nat.eq_of_beq_eq_true h.2.1
      rw [List.mapM_cons, ih ht h.2.2 hall.2, e2, k1]
      simp [e1, Cx.cells, hi, k2]

theorem op_buildStruct {o : Oper} {k : V → Ups → Option R} {r : R} {t : TypeId} {ps : Array (Nat × Operand)} {c : Ty} {fs : List (Nat × Nat)} {cs : List Cell} (cc : Ctx cx call W F E N h ρ a) (ho : o.op = .build t ps)
    (ht : cx.ty t = some c) (hs : cx.shp t = .struct fs)
    (hb : buildCells (fun i => (fs[i]?).map fun f => (f.1, cx.cells f.2)) (zeroCells c) (ps.toList.map fun x => (x.1, ρ x.2)) = some cs) (hall : (fs.all fun f => (cx.info f.2).isSome) = true)
    (hk : k (.v true cs) [] = some r) : Sound cx W F E N h a o k r := by
  have hty := ty_of cc.tab ht
  obtain ⟨ti, h1, h2, z, h3, h4, h5⟩ := hty.ti
  obtain ⟨gs, u1, u2⟩ := shp_struct cc.tab hs
  obtain ⟨us, k1, k2⟩ := fill_rd _ ps.toList (zeroCells c) z.cells cs cc.ρ hb (eqLits_rd h4)
  refine Sound.value cc hk (v := .agg us) ?_ ⟨k2, fun _ => ⟨us, rfl⟩, fun e => by cases e⟩
  have := run_build (P := cx.P) W t (ps.map fun x => (x.1, a.eval x.2)) us (by
    unfold Program.built
    rw [h1, u1]
    simp only [h3, places_of cc.tab u2 hall]
    simpa [List.getElem?_map] using k1)
  simp [execOp, ho, this]

theorem op_buildArr {o : Oper} {k : V → Ups → Option R} {r : R} {t : TypeId} {ps : Array (Nat × Operand)} {c : Ty} {n e : Nat} {cs : List Cell} (cc : Ctx cx call W F E N h ρ a) (ho : o.op = .build t ps)
    (ht : cx.ty t = some c) (hs : cx.shp t = .arr n e)
    (hb : buildCells (fun i => some (i * cx.cells e, cx.cells e)) (zeroCells c) (ps.toList.map fun x => (x.1, ρ x.2)) = some cs) (hall : (cx.info e).isSome = true)
    (hk : k (.v true cs) [] = some r) : Sound cx W F E N h a o k r := by
  have hty := ty_of cc.tab ht
  obtain ⟨ti, h1, h2, z, h3, h4, h5⟩ := hty.ti
  have u1 := shp_arr cc.tab hs
  obtain ⟨us, k1, k2⟩ := fill_rd _ ps.toList (zeroCells c) z.cells cs cc.ρ hb (eqLits_rd h4)
  refine Sound.value cc hk (v := .agg us) ?_ ⟨k2, fun _ => ⟨us, rfl⟩, fun e => by cases e⟩
  obtain ⟨i, hi⟩ := Option.isSome_iff_exists.1 hall
  obtain ⟨te, m1, m2, _⟩ := (cc.tab e i hi).info
  have := run_build (P := cx.P) W t (ps.map fun x => (x.1, a.eval x.2)) us (by
    unfold Program.built
    rw [h1, u1]
    simp only [h3, m1]
    have e1 : cx.cells e = te.size := by simp [Cx.cells, hi, m2]
    rw [e1] at k1
    simpa using k1)
  simp [execOp, ho, this]

end
end Go.Flat
