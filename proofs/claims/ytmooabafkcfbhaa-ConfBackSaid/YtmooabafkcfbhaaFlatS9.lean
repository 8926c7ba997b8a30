/-
  Soundness of the flat reading, ninth part: elements' addresses, indexes, pieces.
-/
import Derived.Test.YtmooabafkcfbhaaFlatS8
namespace Go.Flat
open Go.RowKit (Below)

section
variable {cx : Cx} {call : Oracle cx} {fx : Hints} {W W' : World} {F F' : Fz} {E E' : EnvM} {h : Heap} {N : Nat → Prop} {ρ : Operand → V} {a : Act} {R : Type}

theorem sameW_of {et : TypeId} {e : Ty} (ht : TabOk cx) (hs : sameW cx et e = true) : ∃ ti, cx.P.info? et = some ti ∧ ti.size = width e := by
  unfold sameW at hs
  simp only [Bool.and_eq_true] at hs
  have h1 := Nat.eq_of_beq_eq_true hs.1
  have hz : Nat.beq (cx.cells et) 0 = false := by
    rw [h1]
    have := hs.2
    simpa using this
  obtain ⟨ti, k1, k2, _⟩ := cells_of ht hz
  exact ⟨ti, k1, k2.trans h1⟩

/-- the value and the element: an address leads there -/
theorem run_indexAt_slice {t et : TypeId} {ti : TypeInfo} {kd : IntKind} {m b o len cap : Nat} (hu : cx.P.underlying t = some (.slice et)) (hi : cx.P.info? et = some ti) (hm : m < len) :
    (Instr.indexAt t (.slice (some ⟨b, o, none⟩) len cap) (.int kd m)).run cx.P W = .ok (.pointer (some ⟨b, o + m * ti.size, none⟩)) W := by
  have h1 : (0 : Int) ≤ (m : Int) ∧ (m : Int) < (len : Int) := by omega
  simp [Instr.indexAt, asIntOf, run_underlying hu, h1, sizeOf, typeInfo, hi, addr_add, hm]

theorem run_indexAt_array {t et : TypeId} {ti : TypeInfo} {kd : IntKind} {m b o n : Nat} (hu : cx.P.underlying t = some (.array n et)) (hi : cx.P.info? et = some ti) (hm : m < n) :
    (Instr.indexAt t (.pointer (some ⟨b, o, none⟩)) (.int kd m)).run cx.P W = .ok (.pointer (some ⟨b, o + m * ti.size, none⟩)) W := by
  have h1 : (0 : Int) ≤ (m : Int) ∧ (m : Int) < (n : Int) := by omega
  simp [Instr.indexAt, asIntOf, run_underlying hu, h1, sizeOf, typeInfo, hi, addr_add, Instr.sureAddr, hm]

theorem op_indexAddr {o : Oper} {k : V → Ups → Option R} {r : R} {t : TypeId} {x i : Operand} {n : Int} (cc : Ctx cx call W F E N h ρ a) (ho : o.op = .indexAddr t x i)
    (hi : intOf1 (ρ i) = some n) (hk : indexAddrK cx h t (ρ x) n (fun c => k (.v false [c]) []) = some r) : Sound cx W F E N h a o k r := by
  obtain ⟨kd, hiv⟩ := intOf1_rd hi (cc.ρ i)
  have hv := cc.ρ x
  have fin : ∀ {c : Cell} {b p : Nat}, k (.v false [c]) [] = some r → (Instr.indexAt t (a.eval x) (a.eval i)).run cx.P W = .ok (.pointer (some ⟨b, p, none⟩)) W →
      RdCell cx.P W F E c (.pointer (some ⟨b, p, none⟩)) → Sound cx W F E N h a o k r := by
    intro c b p h1 h2 h3
    exact Sound.value cc h1 (v := .pointer (some ⟨b, p, none⟩)) (by simp [execOp, ho, h2]) (RdV.mk1 h3 rfl)
  unfold indexAddrK at hk
  split at hk
  · -- an array
    rename_i m et hsh
    have hu := shp_arr cc.tab hsh
    cases hz : Nat.beq (cx.cells et) 0 with
    | true => rw [hz] at hk; cases hk
    | false =>
      rw [hz] at hk
      simp only [cond_false] at hk
      obtain ⟨ti, t1, t2, _⟩ := cells_of cc.tab hz
      have arr : ∀ c : Cell, ρ x = .v false [c] → pickIx n m 0 (fun j => match shiftC c (j * cx.cells et) with | some c' => k (.v false [c']) [] | none => none) = some r → Sound cx W F E N h a o k r := by
        intro c hx hp
        rw [hx] at hv
        obtain ⟨j, h1, _, h3, h4⟩ := pickIx_some m 0 hp
        cases hs : shiftC c (j * cx.cells et) with
        | none => rw [hs] at h4; cases h4
        | some c' =>
          rw [hs] at h4
          obtain ⟨b, p, q1, q2⟩ := shift_rd hs hv.single.1
          subst h1
          refine fin h4 ?_ q2
          rw [hiv, q1, run_indexAt_array hu t1 (by omega), t2]
      split at hk
      · rename_i nn ver off hx; exact arr _ hx (by simpa [shiftC] using hk)
      · rename_i tt vv off hx; exact arr _ hx (by simpa [shiftC] using hk)
      · rename_i nn ver q off hx; exact arr _ hx (by simpa [shiftC] using hk)
      · cases hk
  · -- a slice
    rename_i et hsh
    have hu := shp_slice cc.tab hsh
    split at hk
    · -- closed
      rename_i e xs hx
      rw [hx] at hv
      cases hw : sameW cx et e with
      | false => rw [hw] at hk; cases hk
      | true =>
        rw [hw] at hk
        simp only [cond_true] at hk
        obtain ⟨ti, t1, t2⟩ := sameW_of cc.tab hw
        cases hy : at? xs n with
        | none => rw [hy] at hk; cases hk
        | some y =>
          rw [hy] at hk
          simp only [Option.bind_some] at hk
          obtain ⟨m, rfl, h2, h3⟩ := at?_some hy
          have hrd := hv.single.1.2.2
          rcases hrd with ⟨rfl, _⟩ | ⟨b, off, cap, q1, q2, q3, q4⟩
          · simp at h2
          · simp at q1
            have hy' : xs[m] = y := by rw [List.getElem?_eq_getElem h2] at h3; injection h3
            refine fin hk (b := b) (p := off + m * width e) ?_ ⟨b, _, rfl, q2, hy' ▸ q4 m h2⟩
            rw [hiv, q1, run_indexAt_slice hu t1 h2, t2]
    · -- all of an array of one's own
      rename_i nm ver hx
      rw [hx] at hv
      split at hk
      case h_2 => cases hk
      rename_i ver' e xs fr hn
      split at hk
      case isFalse => cases hk
      rename_i hver
      subst hver
      cases hw : sameW cx et e with
      | false => rw [hw] at hk; cases hk
      | true =>
        rw [hw] at hk
        simp only [cond_true] at hk
        obtain ⟨ti, t1, t2⟩ := sameW_of cc.tab hw
        cases hy : at? xs n with
        | none => rw [hy] at hk; cases hk
        | some y =>
          rw [hy] at hk
          simp only [Option.bind_some] at hk
          obtain ⟨m, rfl, h2, h3⟩ := at?_some hy
          obtain ⟨g1, g2, g3⟩ := hv.single.1
          rcases blk_arr cc.hr hn with ⟨_, rfl⟩ | ⟨b, cap, q1, _⟩
          · simp at h2
          · have hp : a.eval x = .slice (some ⟨b, 0, none⟩) xs.length cap := g3 _ q1
            refine fin hk (b := b) (p := 0 + m * width e) ?_ ⟨g1, g2, fun L hL => ?_⟩
            · rw [hiv, hp, run_indexAt_slice hu t1 h2, t2]
            · rw [q1] at hL; injection hL with hL; subst hL; simp [RdLoc]
    · -- a piece
      rename_i nm ver off len hx
      rw [hx] at hv
      split at hk
      case h_2 => cases hk
      rename_i ver' e xs fr hn
      split at hk
      case isFalse => cases hk
      rename_i hver
      subst hver
      cases hw : sameW cx et e with
      | false => rw [hw] at hk; cases hk
      | true =>
        rw [hw] at hk
        simp only [cond_true] at hk
        obtain ⟨ti, t1, t2⟩ := sameW_of cc.tab hw
        cases hy : at? ((xs.drop off).take len) n with
        | none => rw [hy] at hk; cases hk
        | some y =>
          rw [hy] at hk
          simp only [Option.bind_some] at hk
          obtain ⟨m, rfl, h2, h3⟩ := at?_some hy
          obtain ⟨g1, g2, g3⟩ := hv.single.1
          have h2' : m < len := by simp at h2; omega
          rcases blk_arr cc.hr hn with ⟨_, rfl⟩ | ⟨b, cap, q1, _⟩
          · simp at h2
          · obtain ⟨hle, p, c, hp, hlc, hoc⟩ : RdLoc (.lsl nm ver off len) (.arr b (width e) xs.length cap) (a.eval x) := g3 _ q1
            obtain ⟨hp1, hp2⟩ := hoc (by omega)
            refine fin hk (b := b) (p := p + m * width e) ?_ ⟨g1, g2, fun L hL => ?_⟩
            · rw [hiv, hp, run_indexAt_slice hu t1 h2', t2]
            · rw [q1] at hL; injection hL with hL; subst hL; simp [RdLoc, hp1, Nat.add_mul]
    · cases hk
  · cases hk

theorem op_index {o : Oper} {k : V → Ups → Option R} {r : R} {t : TypeId} {x i : Operand} {n : Int} (cc : Ctx cx call W F E N h ρ a) (ho : o.op = .index t x i)
    (hi : intOf1 (ρ i) = some n) (hk : indexK cx t (ρ x) n (fun v => k v []) = some r) : Sound cx W F E N h a o k r := by
  obtain ⟨kd, hiv⟩ := intOf1_rd hi (cc.ρ i)
  have hv := cc.ρ x
  unfold indexK at hk
  split at hk
  · rename_i m et cs hsh hx
    have hu := shp_arr cc.tab hsh
    rw [hx] at hv
    split at hk
    case h_2 => cases hk
    rename_i c hc
    obtain ⟨⟨ti, t1, t2, _⟩, t3, t4, t5, t6⟩ := ty_of cc.tab hc
    obtain ⟨j, rfl, _, h3, h4⟩ := pickIx_some m 0 hk
    split at h4
    case h_2 => cases h4
    rename_i cs' hcut
    obtain ⟨v1, v2, _⟩ := hv
    obtain ⟨l, hl⟩ := v2 rfl
    rw [hl] at v1
    simp only [Value.cells] at v1
    obtain ⟨m1, m2, m3⟩ := cut_rd hcut v1
    have hp := part_rd (W := W) t1 t2 t6 (off := j * width c) (vs := l) (by simpa using m1) (fun e => t5 (t3.trans e))
    refine Sound.value cc h4 (v := _) ?_ (m2.mkV (ag := agg c) (fun e => by rw [m3]; exact t5 e))
    rw [t3]
    have hj : (0 : Int) ≤ (j : Int) ∧ (j : Int) < (m : Int) := by omega
    have hjm : j < m := by omega
    simp [execOp, ho, Instr.index, hiv, asIntOf, run_underlying hu, hl, hj, hjm, sizeOf, typeInfo, t1, t2, hp]
  · rename_i s hsh hx
    have hu := shp_str cc.tab hsh
    rw [hx] at hv
    have hs := rd_str hv
    cases hy : at? s n with
    | none => rw [hy] at hk; cases hk
    | some y =>
      rw [hy] at hk
      simp only [Option.bind_some] at hk
      obtain ⟨m, rfl, h2, h3⟩ := at?_some hy
      refine Sound.value cc hk (v := .int .u8 y.toNat) ?_ (mk_int _ _)
      have e : (⟨s.toArray⟩ : ByteArray)[m]? = some y := by
        have hlt : m < (⟨s.toArray⟩ : ByteArray).size := by rw [size_mk]; exact h2
        have : (⟨s.toArray⟩ : ByteArray)[m]? = some ((⟨s.toArray⟩ : ByteArray)[m]) := by simp [getElem?_pos, hlt]
        rw [this]
        have hy' : s[m] = y := by rw [List.getElem?_eq_getElem h2] at h3; injection h3
        rw [← hy']
        rfl
      simp [execOp, ho, Instr.index, hiv, asIntOf, run_underlying hu, hs, e]
  · cases hk

end
end Go.Flat
