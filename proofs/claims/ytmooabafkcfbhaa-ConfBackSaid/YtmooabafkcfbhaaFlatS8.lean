/-
  Soundness of the flat reading, eighth part: fields, elements, pieces, lengths.
-/
import Derived.Test.YtmooabafkcfbhaaFlatS7
namespace Go.Flat
open Go.RowKit (Below)

section
variable {cx : Cx} {call : Oracle cx} {fx : Hints} {W W' : World} {F F' : Fz} {E E' : EnvM} {h : Heap} {N : Nat → Prop} {ρ : Operand → V} {a : Act} {R : Type}

theorem addr_add (b o n : Nat) : (⟨b, o, none⟩ : Addr).add n = ⟨b, o + n, none⟩ := by unfold Addr.add; split <;> simp_all

def shiftC : Cell → Nat → Option Cell
  | .loc n v o, d => some (.loc n v (o + d))
  | .pin t v o, d => some (.pin t v (o + d))
  | .lel n v i o, d => some (.lel n v i (o + d))
  | _, _ => none

theorem shift_rd {P : Program} {c c' : Cell} {d : Nat} {v : Value} (hs : shiftC c d = some c') (hv : RdCell P W F E c v) :
    ∃ b o, v = .pointer (some ⟨b, o, none⟩) ∧ RdCell P W F E c' (.pointer (some ⟨b, o + d, none⟩)) := by
  unfold shiftC at hs
  split at hs <;> (try (cases hs))
  · rename_i n ver o
    obtain ⟨h1, ⟨L, hL⟩, h2⟩ := hv
    have := h2 L hL
    cases L with
    | box b => exact ⟨b, o, this, h1, ⟨_, hL⟩, fun L' hL' => by rw [hL] at hL'; injection hL' with e; subst e; rfl⟩
    | nil => exact this.elim
    | arr b w l c => exact this.elim
  · obtain ⟨b, o', rfl, h1, h2⟩ := hv
    exact ⟨b, _, rfl, b, o', by rw [Nat.add_assoc], h1, h2⟩
  · rename_i n ver i o
    obtain ⟨h1, ⟨L, hL⟩, h2⟩ := hv
    have := h2 L hL
    cases L with
    | box b => exact this.elim
    | nil => exact this.elim
    | arr b w l c =>
      exact ⟨b, i * w + o, this, h1, ⟨_, hL⟩, fun L' hL' => by rw [hL] at hL'; injection hL' with e; subst e; simp [RdLoc, Nat.add_assoc]⟩

theorem op_fieldAddr {o : Oper} {k : V → Ups → Option R} {r : R} {s f : Nat} {x : Operand} {c c' : Cell} {off ft : Nat} (cc : Ctx cx call W F E N h ρ a) (ho : o.op = .fieldAddr s x f)
    (hf : fieldOff cx s f = some (off, ft)) (hx : ρ x = .v false [c]) (hz : Nat.beq (cx.cells ft) 0 = false) (hs : shiftC c off = some c') (hk : k (.v false [c']) [] = some r) :
    Sound cx W F E N h a o k r := by
  have hv := cc.ρ x
  rw [hx] at hv
  obtain ⟨b, p, k1, k2⟩ := shift_rd hs hv.single.1
  obtain ⟨fs, g, f1, f2, f3, f4⟩ := field_of cc.tab hf
  obtain ⟨ti, t1, t2, t3⟩ := cells_of cc.tab hz
  refine Sound.value cc hk (v := .pointer (some ⟨b, p + off, none⟩)) ?_ (RdV.mk1 k2 rfl)
  rw [← f4] at t1
  simp [execOp, ho, Instr.fieldAt, run_underlying f1, f2, k1, Instr.sureAddr, fieldPlace, sizeOf, typeInfo, t1, t3, f3, addr_add]

theorem part_rd {P : Program} {t : TypeId} {ti : TypeInfo} {vs : Array Value} {off w : Nat} (hi : P.info? t = some ti) (hs : ti.size = w) (hd : ∃ d, P.underlying t = some d)
    (hle : off + w ≤ vs.size) (h1 : aggB P t = false → w = 1) :
    (part t vs off).run P W = .ok (if aggB P t = true then .agg ((vs.toList.drop off).take w).toArray else ((vs.toList.drop off).take w).headD .nilFunc) W := by
  obtain ⟨d, hd⟩ := hd
  unfold part isAgg
  cases hag : aggB P t with
  | true =>
    unfold aggB at hag
    rw [hd] at hag
    have : vs.extract off (off + w) = ((vs.toList.drop off).take w).toArray := by
      apply Array.ext'
      simp [List.extract_eq_take_drop]
    cases d <;> simp_all [run_underlying hd, sizeOf, typeInfo]
  | false =>
    have hw := h1 hag
    unfold aggB at hag
    rw [hd] at hag
    have hlt : off < vs.size := by omega
    have e : vs[off]? = some vs[off] := by simp [hlt]
    have e2 : ((vs.toList.drop off).take w).headD .nilFunc = vs[off] := by
      rw [hw, List.take_one, List.head?_drop]
      simp [hlt]
    rw [e2]
    cases d <;> simp_all [run_underlying hd]

theorem op_field {o : Oper} {k : V → Ups → Option R} {r : R} {s f : Nat} {x : Operand} {cs cs' : List Cell} {off ft : Nat} {c : Ty} (cc : Ctx cx call W F E N h ρ a) (ho : o.op = .field s x f)
    (hf : fieldOff cx s f = some (off, ft)) (hx : ρ x = .v true cs) (hc : cx.ty ft = some c) (hcut : cut cs off (width c) = some cs') (hk : k (.v (agg c) cs') [] = some r) :
    Sound cx W F E N h a o k r := by
  have hv := cc.ρ x
  rw [hx] at hv
  obtain ⟨v1, v2, _⟩ := hv
  obtain ⟨l, hl⟩ := v2 rfl
  rw [hl] at v1
  simp only [Value.cells] at v1
  obtain ⟨fs, g, f1, f2, f3, f4⟩ := field_of cc.tab hf
  obtain ⟨⟨ti, t1, t2, _⟩, t3, t4, t5, t6⟩ := ty_of cc.tab hc
  obtain ⟨m1, m2, m3⟩ := cut_rd hcut v1
  have hp := part_rd (W := W) t1 t2 t6 (off := off) (vs := l) (by simpa using m1) (fun e => t5 (t3.trans e))
  refine Sound.value cc hk (v := _) ?_ (m2.mkV (ag := agg c) (fun e => by rw [m3]; exact t5 e))
  rw [t3]
  subst f4
  simp [execOp, ho, Instr.field, run_underlying f1, f2, hl, asAgg, f3, hp]

theorem intOf1_rd {x : V} {n : Int} {v : Value} (hn : intOf1 x = some n) (hv : RdV cx.P W F E x v) : ∃ k, v = .int k n := by
  unfold intOf1 at hn
  split at hn
  · rename_i k m
    injection hn with hn
    subst hn
    exact ⟨k, rd_int hv⟩
  · cases hn

theorem pickIx_some {i : Int} {k : Nat → Option R} {r : R} : ∀ (n j : Nat), pickIx i n j k = some r → ∃ m : Nat, i = m ∧ j ≤ m ∧ m < j + n ∧ k m = some r := by
  intro n
  induction n with
  | zero => intro j h; cases h
  | succ n ih =>
    intro j h
    simp only [pickIx] at h
    cases hd : decide (i = (j : Int)) with
    | true => rw [hd] at h; exact ⟨j, by simpa using hd, Nat.le_refl _, by omega, h⟩
    | false =>
      rw [hd] at h
      obtain ⟨m, h1, h2, h3, h4⟩ := ih (j + 1) h
      exact ⟨m, h1, by omega, by omega, h4⟩

theorem at?_some {α : Type} {xs : List α} {i : Int} {x : α} (h : at? xs i = some x) : ∃ n : Nat, i = n ∧ n < xs.length ∧ xs[n]? = some x := by
  unfold at? at h
  cases hd : decide (0 ≤ i) with
  | false => rw [hd] at h; cases h
  | true =>
    rw [hd] at h
    simp only [cond_true] at h
    have hi : 0 ≤ i := by simpa using hd
    refine ⟨i.toNat, by omega, ?_, h⟩
    rcases Nat.lt_or_ge i.toNat xs.length with q | q
    · exact q
    · rw [List.getElem?_eq_none q] at h; cases h

end
end Go.Flat
