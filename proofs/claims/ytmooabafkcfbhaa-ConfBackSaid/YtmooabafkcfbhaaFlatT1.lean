/-
  Soundness of the flat reading, tenth part: pieces, lengths, conversions, tuples.
-/
import Derived.Test.YtmooabafkcfbhaaFlatS9
namespace Go.Flat
open Go.RowKit (Below)

section
variable {cx : Cx} {call : Oracle cx} {fx : Hints} {W W' : World} {F F' : Fz} {E E' : EnvM} {h : Heap} {N : Nat → Prop} {ρ : Operand → V} {a : Act} {R : Type}

theorem must_some {b : Bool} {k : Option R} {r : R} (h : must b k = some r) : b = true ∧ k = some r := by
  unfold must at h
  cases b with
  | true => exact ⟨rfl, h⟩
  | false => cases h

/-- the upper bound of a piece, as the model has it -/
theorem upK_rd {n l : Nat} {hi : Option V} {vlo vhi : Option Value} {kk : Nat → Nat → Option R} {r : R} (hk : upK n l hi kk = some r)
    (hl : ∀ (y : Nat), l ≤ y → ∀ code, (match vlo with | some v => Instr.sliceBound v y code | none => pure 0 : Sem Nat).run cx.P W = .ok l W)
    (hhi : ∀ x, hi = some x → ∃ v, vhi = some v ∧ RdV cx.P W F E x v) (hhi0 : hi = none → vhi = none) :
    ∃ j, l ≤ j ∧ j ≤ n ∧ kk l j = some r ∧ ∀ (isS : Bool) (cap : Nat), n ≤ cap → (Instr.sliceBounds isS n cap vlo vhi none).run cx.P W = .ok (l, j, cap) W := by
  unfold upK at hk
  cases hi with
  | none =>
    obtain ⟨h1, h2⟩ := must_some hk
    have h1 : l ≤ n := by simpa using h1
    refine ⟨n, h1, Nat.le_refl _, h2, fun isS cap hc => ?_⟩
    rw [hhi0 rfl]
    have := hl n h1 .sliceB
    cases vlo with
    | none => simp [Instr.sliceBounds] at this ⊢; exact this
    | some v => simp [Instr.sliceBounds] at this ⊢; simp [this]
  | some x =>
    obtain ⟨v, rfl, hv⟩ := hhi x rfl
    simp only at hk
    cases hx : intOf1 x with
    | none => rw [hx] at hk; cases hk
    | some j =>
      rw [hx] at hk
      obtain ⟨h1, h2⟩ := must_some hk
      simp only [Bool.and_eq_true, decide_eq_true_eq] at h1
      obtain ⟨kd, rfl⟩ := intOf1_rd hx hv
      refine ⟨j.toNat, by omega, by omega, h2, fun isS cap hc => ?_⟩
      have hj : 0 ≤ j ∧ j ≤ (cap : Int) := by omega
      have := hl j.toNat (by omega) .sliceB
      cases vlo with
      | none => simp at this; subst this; simp [Instr.sliceBounds, Instr.sliceBound, asIntOf, hj]
      | some v => 
        have hj' : j ≤ (cap : Int) := hj.2
        have hj0 : 0 ≤ j := hj.1
        have e1 : Instr.sliceBound (.int kd j) cap (if isS then .sliceAcap else .sliceAlen) = pure j.toNat := by
          simp [Instr.sliceBound, asIntOf, hj]
        simp only at this
        simp [Instr.sliceBounds, e1, this]

/-- the bounds of a piece, as the model has them -/
theorem boundsK_rd {n : Nat} {lo hi : Option V} {vlo vhi : Option Value} {kk : Nat → Nat → Option R} {r : R} (hk : boundsK n lo hi kk = some r)
    (hlo : ∀ x, lo = some x → ∃ v, vlo = some v ∧ RdV cx.P W F E x v) (hlo0 : lo = none → vlo = none)
    (hhi : ∀ x, hi = some x → ∃ v, vhi = some v ∧ RdV cx.P W F E x v) (hhi0 : hi = none → vhi = none) :
    ∃ l j, l ≤ j ∧ j ≤ n ∧ kk l j = some r ∧ ∀ (isS : Bool) (cap : Nat), n ≤ cap → (Instr.sliceBounds isS n cap vlo vhi none).run cx.P W = .ok (l, j, cap) W := by
  unfold boundsK at hk
  cases lo with
  | none =>
    refine ⟨0, upK_rd hk (fun y _ code => ?_) hhi hhi0⟩
    rw [hlo0 rfl]
    rfl
  | some x =>
    obtain ⟨v, rfl, hv⟩ := hlo x rfl
    simp only at hk
    cases hx : intOf1 x with
    | none => rw [hx] at hk; cases hk
    | some i =>
      rw [hx] at hk
      obtain ⟨h1, h2⟩ := must_some hk
      have h1 : 0 ≤ i := by simpa using h1
      obtain ⟨kd, rfl⟩ := intOf1_rd hx hv
      refine ⟨i.toNat, upK_rd h2 (fun y hy code => ?_) hhi hhi0⟩
      have : 0 ≤ i ∧ i ≤ (y : Int) := by omega
      simp [Instr.sliceBound, asIntOf, this]

theorem optρ {x : Option Operand} (cc : Ctx cx call W F E N h ρ a) : (∀ y, x.map ρ = some y → ∃ v, x.map a.eval = some v ∧ RdV cx.P W F E y v) ∧ (x.map ρ = none → x.map a.eval = none) := by
  cases x with
  | none => exact ⟨fun y hy => by simp at hy, fun _ => rfl⟩
  | some x => exact ⟨fun y hy => ⟨a.eval x, rfl, by simp at hy; rw [← hy]; exact cc.ρ x⟩, fun hy => by simp at hy⟩

theorem extract_mk (s : List UInt8) (l j : Nat) : (⟨s.toArray⟩ : ByteArray).extract l j = ⟨((s.take j).drop l).toArray⟩ := by
  apply ByteArray.ext
  rw [ByteArray.data_extract]
  apply Array.ext'
  simp [List.extract_eq_take_drop, List.drop_take]

theorem op_sliceS {o : Oper} {k : V → Ups → Option R} {r : R} {t : TypeId} {x : Operand} {lo hi mx : Option Operand} (cc : Ctx cx call W F E N h ρ a) (ho : o.op = .slice t x lo hi mx)
    (hs : cx.shp t = .str) (hk : sliceS (ρ x) (lo.map ρ) (hi.map ρ) (mx.map ρ) (fun c => k (.v false [c]) []) = some r) : Sound cx W F E N h a o k r := by
  have hu := shp_str cc.tab hs
  unfold sliceS at hk
  split at hk
  case h_2 => cases hk
  rename_i s hmx hx
  have hv := cc.ρ x
  rw [hx] at hv
  have hstr := rd_str hv
  have hm : mx = none := by cases mx <;> simp_all
  subst hm
  obtain ⟨l, j, h1, h2, h3, h4⟩ := boundsK_rd hk (optρ cc).1 (optρ cc).2 (optρ cc).1 (optρ cc).2
  refine Sound.value cc h3 (v := .string ⟨((s.take j).drop l).toArray⟩) ?_ (mk_str _)
  have hb := h4 false s.length (Nat.le_refl _)
  simp [execOp, ho, Instr.sliceAt, Instr.slice, run_underlying hu, hstr, size_mk, hb, extract_mk]

/-- a piece of a slice, as the model has it -/
theorem run_slice {t et : TypeId} {ti : TypeInfo} {b : Option Addr} {len cap l j : Nat} {vlo vhi : Option Value} (hu : cx.P.underlying t = some (.slice et)) (hi : cx.P.info? et = some ti)
    (hb : (Instr.sliceBounds true len cap vlo vhi none).run cx.P W = .ok (l, j, cap) W) :
    (Instr.sliceAt t (.slice b len cap) vlo vhi none).run cx.P W = .ok (.slice (if cap = l then b else b.map (·.add (l * ti.size))) (j - l) (cap - l)) W := by
  simp [Instr.sliceAt, Instr.slice, run_underlying hu, hb, sizeOf, typeInfo, hi]

theorem zeroInt_rd {x : Option Operand} (cc : Ctx cx call W F E N h ρ a) (hz : zeroInt (x.map ρ) = true) : ∃ y k, x = some y ∧ a.eval y = .int k 0 := by
  unfold zeroInt at hz
  split at hz
  · rename_i k hx
    cases x with
    | none => simp at hx
    | some y =>
      simp at hx
      have := cc.ρ y
      rw [hx] at this
      exact ⟨y, k, rfl, rd_int this⟩
  · cases hz

theorem op_sliceK {o : Oper} {k : V → Ups → Option R} {r : R} {t et : TypeId} {x : Operand} {lo hi mx : Option Operand} (cc : Ctx cx call W F E N h ρ a) (ho : o.op = .slice t x lo hi mx)
    (hs : cx.shp t = .slice et) (hinfo : ∃ ti, cx.P.info? et = some ti)
    (hk : sliceK cx h et (ρ x) (lo.map ρ) (hi.map ρ) (mx.map ρ) (fun c => k (.v false [c]) []) = some r) : Sound cx W F E N h a o k r := by
  have hu := shp_slice cc.tab hs
  have hv := cc.ρ x
  unfold sliceK at hk
  split at hk
  · -- [:0:0]
    rename_i m hmx
    split at hk
    case isFalse => cases hk
    rename_i hz
    simp only [Bool.and_eq_true] at hz
    obtain ⟨⟨hz1, hz2⟩, hz3⟩ := hz
    have hl : lo = none := by cases lo <;> simp_all
    subst hl
    obtain ⟨y, k1, hy, z1⟩ := zeroInt_rd cc hz1
    obtain ⟨m', k2, hm, z2⟩ := zeroInt_rd cc hz2
    subst hy; subst hm
    obtain ⟨ti, t1⟩ := hinfo
    have fin : ∀ {b : Option Addr} {len cap : Nat}, a.eval x = .slice b len cap → k (.v false [.ns]) [] = some r → Sound cx W F E N h a o k r := by
      intro b len cap hx hk
      refine Sound.value cc hk (v := .slice b 0 0) ?_ (RdV.mk1 ⟨b, rfl⟩ rfl)
      simp [execOp, ho, hx, z1, z2, Instr.sliceAt, Instr.slice, run_underlying hu, sizeOf, typeInfo, t1, Instr.sliceBounds, Instr.sliceBound, asIntOf]
    split at hk
    · rename_i e xs hx
      rw [hx] at hv
      rcases hv.single.1.2.2 with ⟨_, p, q1⟩ | ⟨b, off, cap, q1, _⟩
      · exact fin (by simpa using q1) hk
      · exact fin (by simpa using q1) hk
    · rename_i hx
      rw [hx] at hv
      obtain ⟨p, hp⟩ := hv.single.1
      exact fin hp hk
    · rename_i n ver hx
      rw [hx] at hv
      split at hk
      case h_2 => cases hk
      rename_i ver' e xs fr hn
      split at hk
      case isFalse => cases hk
      rename_i hver
      subst hver
      obtain ⟨g1, g2, g3⟩ := hv.single.1
      rcases blk_arr cc.hr hn with ⟨q1, rfl⟩ | ⟨b, cap, q1, _⟩
      · obtain ⟨p, hp⟩ : RdLoc (.lall n ver) .nil (a.eval x) := g3 _ q1
        exact fin hp hk
      · have hp : a.eval x = .slice (some ⟨b, 0, none⟩) xs.length cap := g3 _ q1
        exact fin hp hk
    · cases hk
  · rename_i hmx
    have hm : mx = none := by cases mx <;> simp_all
    subst hm
    have fin : ∀ {c : Cell} {v : Value}, k (.v false [c]) [] = some r → (Instr.sliceAt t (a.eval x) (lo.map a.eval) (hi.map a.eval) none).run cx.P W = .ok v W →
        RdCell cx.P W F E c v → v.oneCell' = true → Sound cx W F E N h a o k r := by
      intro c v h1 h2 h3 h4
      exact Sound.value cc h1 (v := v) (by simp [execOp, ho, h2]) (RdV.mk1 h3 h4)
    split at hk
    · -- closed
      rename_i e xs hx
      rw [hx] at hv
      cases hw : sameW cx et e with
      | false => rw [hw] at hk; cases hk
      | true =>
        rw [hw] at hk
        simp only [cond_true] at hk
        obtain ⟨ti, t1, t2⟩ := sameW_of cc.tab hw
        obtain ⟨l, j, h1, h2, h3, h4⟩ := boundsK_rd hk (optρ cc).1 (optρ cc).2 (optρ cc).1 (optρ cc).2
        have hlen : ((xs.take j).drop l).length = j - l := by simp; omega
        rcases hv.single.1.2.2 with ⟨rfl, p, q1⟩ | ⟨b, off, cap, q1, q2, q3, q4⟩
        · simp at q1
          simp at h2
          have hl0 : l = 0 := by omega
          subst hl0; subst h2
          refine fin h3 (v := .slice p 0 0) ?_ ⟨rfl, rfl, .inl ⟨by simp, p, rfl⟩⟩ rfl
          rw [q1, run_slice (len := 0) hu t1 (h4 true 0 (Nat.le_refl 0))]
          simp
        · simp at q1
          have hrun := run_slice (b := some ⟨b, off, none⟩) hu t1 (h4 true cap q3)
          by_cases hc : cap = l
          · have hj : j = l := by omega
            refine fin h3 (v := .slice (some ⟨b, off, none⟩) 0 0) ?_ ⟨rfl, rfl, .inl ⟨List.eq_nil_of_length_eq_zero (by rw [hlen]; omega), _, rfl⟩⟩ rfl
            rw [q1, hrun]
            simp [hc, hj]
          · refine fin h3 (v := .slice (some ⟨b, off + l * width e, none⟩) (j - l) (cap - l)) ?_ ⟨rfl, rfl, .inr ⟨b, _, _, by rw [hlen]; rfl, q2, by rw [hlen]; omega, fun i hi => ?_⟩⟩ rfl
            · rw [q1, hrun]
              simp [hc, addr_add, t2]
            · rw [hlen] at hi
              have : ((xs.take j).drop l)[i] = xs[l + i]'(by omega) := by simp
              rw [this]
              have := q4 (l + i) (by omega)
              rw [Nat.add_mul, ← Nat.add_assoc] at this
              exact this
    · -- the empty one
      rename_i hx
      rw [hx] at hv
      obtain ⟨p, hp⟩ := hv.single.1
      obtain ⟨l, j, h1, h2, h3, h4⟩ := boundsK_rd hk (optρ cc).1 (optρ cc).2 (optρ cc).1 (optρ cc).2
      have hj : j = 0 := by omega
      have hl : l = 0 := by omega
      subst hj; subst hl
      obtain ⟨ti, t1⟩ := hinfo
      refine fin h3 (v := .slice p 0 0) ?_ ⟨p, rfl⟩ rfl
      rw [hp, run_slice (len := 0) hu t1 (h4 true 0 (Nat.le_refl 0))]
      simp
    · -- all of one's own
      rename_i nm ver hx
      rw [hx] at hv
      split at hk
      case h_2 => cases hk
      rename_i ver' e xs fr hn
      split at hk
      case isFalse => cases hk
      rename_i hver
      subst hver
      cases hw : sameW cx et e with
      | false => rw [hw] at hk; cases hk
      | true =>
        rw [hw] at hk
        simp only [cond_true] at hk
        obtain ⟨ti, t1, t2⟩ := sameW_of cc.tab hw
        obtain ⟨l, j, h1, h2, h3, h4⟩ := boundsK_rd hk (optρ cc).1 (optρ cc).2 (optρ cc).1 (optρ cc).2
        obtain ⟨g1, g2, g3⟩ := hv.single.1
        rcases blk_arr cc.hr hn with ⟨q1, rfl⟩ | ⟨b, cap, q1, ⟨cs, T, _, _, q3, _⟩, _⟩
        · obtain ⟨p, hp⟩ : RdLoc (.lall nm ver) .nil (a.eval x) := g3 _ q1
          simp at h2
          have hl0 : l = 0 := by omega
          subst hl0; subst h2
          refine fin h3 (v := .slice p 0 0) ?_ ⟨g1, g2, fun L hL => ?_⟩ rfl
          · rw [hp, run_slice (len := 0) hu t1 (h4 true 0 (Nat.le_refl 0))]; simp
          · rw [q1] at hL; injection hL with hL; subst hL; exact ⟨⟨p, rfl⟩, rfl, rfl⟩
        · have hp : a.eval x = .slice (some ⟨b, 0, none⟩) xs.length cap := g3 _ q1
          refine fin h3 (v := .slice (if cap = l then some ⟨b, 0, none⟩ else some ⟨b, l * width e, none⟩) (j - l) (cap - l)) ?_ ⟨g1, g2, fun L hL => ?_⟩ rfl
          · rw [hp, run_slice hu t1 (h4 true cap q3)]
            by_cases hc : cap = l <;> simp [hc, addr_add, t2]
          · rw [q1] at hL; injection hL with hL; subst hL
            refine ⟨by omega, if cap = l then 0 else l * width e, cap - l, ?_, by omega, fun hc => ?_⟩
            · by_cases hc : cap = l <;> simp [hc]
            · have : cap ≠ l := by omega
              simp [this]; omega
    · -- a piece of a piece
      rename_i nm ver off len hx
      rw [hx] at hv
      split at hk
      case h_2 => cases hk
      rename_i ver' e xs fr hn
      split at hk
      case isFalse => cases hk
      rename_i hver
      subst hver
      cases hw : sameW cx et e with
      | false => rw [hw] at hk; cases hk
      | true =>
        rw [hw] at hk
        simp only [cond_true] at hk
        obtain ⟨ti, t1, t2⟩ := sameW_of cc.tab hw
        obtain ⟨l, j, h1, h2, h3, h4⟩ := boundsK_rd hk (optρ cc).1 (optρ cc).2 (optρ cc).1 (optρ cc).2
        obtain ⟨g1, g2, g3⟩ := hv.single.1
        rcases blk_arr cc.hr hn with ⟨q1, rfl⟩ | ⟨b, cap, q1, _⟩
        · obtain ⟨⟨p, hp⟩, hl0, ho0⟩ : RdLoc (.lsl nm ver off len) .nil (a.eval x) := g3 _ q1
          subst hl0
          have hj : j = 0 := by omega
          have hl : l = 0 := by omega
          subst hj; subst hl
          refine fin h3 (v := .slice p 0 0) ?_ ⟨g1, g2, fun L hL => ?_⟩ rfl
          · rw [hp, run_slice (len := 0) hu t1 (h4 true 0 (Nat.le_refl 0))]; simp
          · rw [q1] at hL; injection hL with hL; subst hL; exact ⟨⟨p, rfl⟩, by simp, by omega⟩
        · obtain ⟨hle, p, c, hp, hlc, hoc⟩ : RdLoc (.lsl nm ver off len) (.arr b (width e) xs.length cap) (a.eval x) := g3 _ q1
          refine fin h3 (v := .slice (if c = l then some ⟨b, p, none⟩ else some ⟨b, p + l * width e, none⟩) (j - l) (c - l)) ?_ ⟨g1, g2, fun L hL => ?_⟩ rfl
          · rw [hp, run_slice hu t1 (h4 true c hlc)]
            by_cases hc : c = l <;> simp [hc, addr_add, t2]
          · rw [q1] at hL; injection hL with hL; subst hL
            refine ⟨by omega, if c = l then p else p + l * width e, c - l, ?_, by omega, fun hc => ?_⟩
            · by_cases hc : c = l <;> simp [hc]
            · have hne : c ≠ l := by omega
              obtain ⟨k1, k2⟩ := hoc (by omega)
              simp [hne, k1, Nat.add_mul]; omega
    · cases hk

end
end Go.Flat
