/-
  Numbers as bytes: the codec's writer and reader, and the document's, as plain functions.
-/
import Derived.Test.YtmooabafkcfbhaaTr1
import Derived.Test.YtmooabafkcfbhaaFlatX
namespace Go.Proofs.Ytmooabafkcfbhaa
open Go.Flat

theorem pow_le (k : Nat) (hk : k ≤ 7) : (256 : Int) ^ k ≤ 72057594037927936 := by
  match k, hk with
  | 0, _ | 1, _ | 2, _ | 3, _ | 4, _ | 5, _ | 6, _ | 7, _ => decide
theorem two_pow8 (k : Nat) : (2 : Int) ^ (8 * k) = 256 ^ k := by rw [Int.pow_mul]; rfl

theorem writer_l2 (n : Nat) (x : Int) : ∀ (k f : Nat) (w : List Int), k ≤ 8 → k < f → w.length + k ≤ 1000000 →
    codec_Writer_Fixed_l2 n f (w, x, 8 * ((k : Int) - 1), ()) = some (.inl (w ++ beI k x, ())) := by
  intro k
  induction k with
  | zero =>
    intro f w _ hf _
    obtain ⟨f, rfl⟩ : ∃ g, f = g + 1 := ⟨f - 1, by omega⟩
    rw [codec_Writer_Fixed_l2_eq]
    simp [tif_dec, beI]
  | succ k ih =>
    intro f w hk hf hl
    obtain ⟨f, rfl⟩ : ∃ g, f = g + 1 := ⟨f - 1, by omega⟩
    rw [codec_Writer_Fixed_l2_eq]
    have h1 : (0 : Int) ≤ 8 * (((k + 1 : Nat) : Int) - 1) := by omega
    have h2 : ¬ (8 * (((k + 1 : Nat) : Int) - 1) < (0 : Int)) := by omega
    have h3 : (w.length + 1) * 1 ≤ 140737488355328 := by omega
    simp only [tif_dec, if_pos h1, if_neg h2, if_pos h3]
    have e1 : IntKind.wrap .i64 (8 * (((k + 1 : Nat) : Int) - 1) - 8) = 8 * ((k : Int) - 1) := by rw [w64 (by omega) (by omega)]; omega
    have e2 : IntKind.wrap .u8 (shrI .u64 x (8 * (((k + 1 : Nat) : Int) - 1))) = x / 256 ^ k % 256 := by
      rw [wrap_u8_mod]
      congr 1
      have : min (8 * (((k + 1 : Nat) : Int) - 1)).toNat IntKind.u64.bits = 8 * k := by
        have : (8 * (((k + 1 : Nat) : Int) - 1)).toNat = 8 * k := by omega
        rw [this]
        show min (8 * k) 64 = 8 * k
        omega
      simp only [shrI, this, two_pow8]
      exact Int.fdiv_eq_ediv_of_nonneg _ (Int.le_of_lt (Int.pow_pos (by decide)))
    rw [e1, e2, ih f _ (by omega) (by omega) (by simp; omega)]
    simp [beI]

theorem writer_fixed (n : Nat) (w : List Int) (k : Nat) (width x : Int) (hw : width = k) (hk : 1 ≤ k) (hk' : k ≤ 8) (hl : w.length + k ≤ 1000000) :
    codec_Writer_Fixed (n + 1) w width x = some (w ++ beI k x) := by
  subst hw
  rw [codec_Writer_Fixed_eq]
  have h1 : ¬ ((k : Int) < 1) := by omega
  have h2 : ¬ ((8 : Int) < k) := by omega
  have e : IntKind.wrap .i64 (8 * IntKind.wrap .i64 ((k : Int) - 1)) = 8 * ((k : Int) - 1) := by
    rw [w64 (x := (k : Int) - 1) (by omega) (by omega), w64 (by omega) (by omega)]
  simp only [tif_dec, if_neg h1, if_neg h2, e]
  rw [writer_l2 n x k loopFuel w hk' (by unfold loopFuel; omega) hl]
  rfl

theorem set_rep (m : Nat) (v : Int) (t : List Int) : (List.replicate (m + 1) (0 : Int) ++ t).set m v = List.replicate m 0 ++ v :: t := by
  rw [List.replicate_succ', List.append_assoc, List.set_append]
  simp

theorem r03_l5 (n : Nat) (x : Int) (hx : 0 ≤ x) (hx' : x ≤ 18446744073709551615) (k : Nat) (hk : k ≤ 8) : ∀ (m i f : Nat), m + i = k → m < f →
    r03_Fixed_l5 n f ((k : Int), x / 256 ^ i, List.replicate m 0 ++ beI i x, (k : Int), (i : Int), ()) = some (.inl (beI k x, ())) := by
  intro m
  induction m with
  | zero =>
    intro i f hi hf
    obtain ⟨f, rfl⟩ : ∃ g, f = g + 1 := ⟨f - 1, by omega⟩
    rw [r03_Fixed_l5_eq]
    have h1 : ¬ ((i : Int) < (k : Int)) := by omega
    have : i = k := by omega
    subst this
    simp
  | succ m ih =>
    intro i f hi hf
    obtain ⟨f, rfl⟩ : ∃ g, f = g + 1 := ⟨f - 1, by omega⟩
    rw [r03_Fixed_l5_eq]
    have h1 : (i : Int) < (k : Int) := by omega
    have e1 : IntKind.wrap .i64 (IntKind.wrap .i64 ((k : Int) - 1) - (i : Int)) = (m : Int) := by
      rw [w64 (x := (k : Int) - 1) (by omega) (by omega), w64 (by omega) (by omega)]; omega
    have hp : (0 : Int) < 256 ^ i := Int.pow_pos (by decide)
    have hq : 0 ≤ x / 256 ^ i := Int.ediv_nonneg hx (Int.le_of_lt hp)
    have hq' : x / 256 ^ i ≤ x := Int.ediv_le_self _ hx
    have e2 : IntKind.wrap .u64 (Int.tdiv (x / 256 ^ i) 256) = x / 256 ^ (i + 1) := by
      rw [tdiv_nn hq, wu64 (by omega) (by omega), Int.pow_succ, Int.ediv_ediv_of_nonneg (Int.le_of_lt hp)]
    have e3 : IntKind.wrap .u8 (Int.tmod (x / 256 ^ i) 256) = x / 256 ^ i % 256 := by
      rw [tmod_nn hq, wu8 (by omega) (by omega)]
    have e4 : at? (List.replicate (m + 1) (0 : Int) ++ beI i x) (m : Int) = some 0 := by
      simp [at?, List.getElem?_append]
    have e5 : (List.replicate (m + 1) (0 : Int) ++ beI i x)[(m : Int).toNat]? = some 0 := by
      simp [List.getElem?_append]
    have e6 : IntKind.wrap .i64 ((i : Int) + 1) = ((i + 1 : Nat) : Int) := by rw [w64 (by omega) (by omega)]; omega
    simp only [tif_dec, if_pos h1, e1, e2, e3, e4, e5, e6, obind_some]
    have e7 : (List.replicate (m + 1) (0 : Int) ++ beI i x).set (m : Int).toNat (x / 256 ^ i % 256) = List.replicate m 0 ++ beI (i + 1) x := by
      rw [show (m : Int).toNat = m by omega, set_rep]; rfl
    rw [e7]
    exact ih (i + 1) f (by omega) (by omega)

theorem r03_fixed (n : Nat) (k : Nat) (width x : Int) (hw : width = k) (hk : 1 ≤ k) (hk' : k ≤ 8) (hx : 0 ≤ x) (hx' : x ≤ 18446744073709551615) : r03_Fixed (n + 1) width x = some (toB (beI k x)) := by
  subst hw
  rw [r03_Fixed_eq]
  have h1 : ¬ ((k : Int) < 1) := by omega
  have h2 : ¬ ((8 : Int) < k) := by omega
  have h3 : (0 : Int) ≤ k := by omega
  have h4 : (k : Int) * 1 ≤ 140737488355328 := by omega
  have e1 : (k : Int).toNat = k := by omega
  have := r03_l5 n x hx hx' k hk' k 0 loopFuel (by omega) (by unfold loopFuel; omega)
  simp only [Int.pow_zero, Int.ediv_one, beI, List.append_nil, Int.natCast_zero] at this
  simp only [tif_dec, if_neg h1, if_neg h2, tif_and, if_pos h3, if_pos (Int.le_refl (k : Int)), if_pos h4, e1, List.length_replicate]
  rw [show ((0 : Int)) = ((0 : Nat) : Int) from rfl] at this ⊢
  rw [this]
  rfl

/-! ### readers -/
theorem or_shl (v b : Int) (hv : 0 ≤ v) (hv' : v < 72057594037927936) (hb : 0 ≤ b) (hb' : b ≤ 255) : orI .u64 (shlI .u64 v 8) (IntKind.wrap .u64 b) = v * 256 + b := by
  obtain ⟨a, rfl⟩ := Int.eq_ofNat_of_zero_le hv
  obtain ⟨c, rfl⟩ := Int.eq_ofNat_of_zero_le hb
  have e1 : shlI .u64 (a : Int) 8 = ((a * 256 : Nat) : Int) := by
    show IntKind.wrap .u64 ((a : Int) * 2 ^ (min 8 64)) = _
    have : (2 : Int) ^ (min 8 64) = 256 := by decide
    rw [this, wu64 (by omega) (by omega)]; omega
  rw [e1, wu64 (by omega) (by omega)]
  unfold orI
  have e2 : (BitVec.ofInt IntKind.u64.bits ((a * 256 : Nat) : Int) ||| BitVec.ofInt IntKind.u64.bits (c : Int)).toNat = a * 256 + c := by
    show (BitVec.ofInt 64 ((a * 256 : Nat) : Int) ||| BitVec.ofInt 64 (c : Int)).toNat = _
    rw [BitVec.toNat_or, BitVec.ofInt_natCast, BitVec.ofInt_natCast, BitVec.toNat_ofNat, BitVec.toNat_ofNat, Nat.mod_eq_of_lt (by omega), Nat.mod_eq_of_lt (by omega)]
    have := Nat.two_pow_add_eq_or_of_lt (i := 8) (b := c) (by omega) a
    rw [Nat.mul_comm a 256]
    exact this.symm
  rw [e2, wu64 (by omega) (by omega)]
  omega

theorem take_succ_val (l : List Int) (i : Nat) (h : i < l.length) : valI (l.take (i + 1)) = valI (l.take i) * 256 + l[i] := by
  rw [List.take_succ_eq_append_getElem h, valI, List.foldl_append]
  rfl

theorem reader_l6 (n : Nat) (r : List UInt8 × Bool) (l : List Int) (hl : l.length ≤ 8) (hr : ∀ x ∈ l, 0 ≤ x ∧ x ≤ 255) : ∀ (m i f : Nat), m + i = l.length → m < f →
    codec_Reader_Fixed_l6 n f (r, valI (l.take i), l, (l.length : Int), (i : Int), ()) = some (.inl (r, valI l, ())) := by
  intro m
  induction m with
  | zero =>
    intro i f hi hf
    obtain ⟨f, rfl⟩ : ∃ g, f = g + 1 := ⟨f - 1, by omega⟩
    rw [codec_Reader_Fixed_l6_eq]
    have h1 : ¬ ((i : Int) < (l.length : Int)) := by omega
    simp only [tif_dec, if_neg h1]
    rw [List.take_of_length_le (by omega)]
  | succ m ih =>
    intro i f hi hf
    obtain ⟨f, rfl⟩ : ∃ g, f = g + 1 := ⟨f - 1, by omega⟩
    rw [codec_Reader_Fixed_l6_eq]
    have hlt : i < l.length := by omega
    have h1 : (i : Int) < (l.length : Int) := by omega
    have e1 : at? l (i : Int) = some l[i] := by simp [at?, hlt]
    have hb := hr l[i] (List.getElem_mem hlt)
    have hv := val_range (l := l.take i) fun x hx => hr x (List.mem_of_mem_take hx)
    rw [List.length_take_of_le (by omega)] at hv
    have hp := pow_le i (by omega)
    have e2 : IntKind.wrap .i64 ((i : Int) + 1) = ((i + 1 : Nat) : Int) := by rw [w64 (by omega) (by omega)]; omega
    simp only [tif_dec, if_pos h1, e1, obind_some, e2]
    rw [or_shl _ _ hv.1 (by omega) hb.1 hb.2, ← take_succ_val l i hlt]
    exact ih (i + 1) f (by omega) (by omega)

theorem r03_reader_l6 (n : Nat) (r q : List UInt8 × Bool) (s : List UInt8) (hl : s.length ≤ 8) : ∀ (m i f : Nat), m + i = s.length → m < f →
    r03_Reader_Fixed_l6 n f (r, q, s, valI ((bytesI s).take i), (i : Int), ()) = some (.inl (r, q, valI (bytesI s), ())) := by
  intro m
  induction m with
  | zero =>
    intro i f hi hf
    obtain ⟨f, rfl⟩ : ∃ g, f = g + 1 := ⟨f - 1, by omega⟩
    rw [r03_Reader_Fixed_l6_eq]
    have h1 : ¬ ((i : Int) < (s.length : Int)) := by omega
    simp only [tif_dec, if_neg h1]
    rw [List.take_of_length_le (by rw [bytesI_length]; omega)]
  | succ m ih =>
    intro i f hi hf
    obtain ⟨f, rfl⟩ : ∃ g, f = g + 1 := ⟨f - 1, by omega⟩
    rw [r03_Reader_Fixed_l6_eq]
    have hlt : i < s.length := by omega
    have h1 : (i : Int) < (s.length : Int) := by omega
    have e1 : at? s (i : Int) = some s[i] := by simp [at?, hlt]
    have hlt' : i < (bytesI s).length := by rw [bytesI_length]; exact hlt
    have hb : (bytesI s)[i] = (s[i].toNat : Int) := by simp [bytesI]
    have hb' := bytesI_range s _ (List.getElem_mem hlt')
    rw [hb] at hb'
    have hv := val_range (l := (bytesI s).take i) fun x hx => bytesI_range s x (List.mem_of_mem_take hx)
    rw [List.length_take_of_le (by omega)] at hv
    have hp := pow_le i (by omega)
    have e2 : IntKind.wrap .i64 ((i : Int) + 1) = ((i + 1 : Nat) : Int) := by rw [w64 (by omega) (by omega)]; omega
    simp only [tif_dec, if_pos h1, e1, obind_some, e2]
    rw [wu64 (x := 256 * _) (by omega) (by omega), wu64 (x := ((s[i].toNat : Nat) : Int)) (by omega) (by omega), wu64 (by omega) (by omega)]
    have := take_succ_val (bytesI s) i hlt'
    rw [hb] at this
    rw [show 256 * valI ((bytesI s).take i) + (s[i].toNat : Int) = valI ((bytesI s).take (i + 1)) by rw [this]; omega]
    exact ih (i + 1) f (by omega) (by omega)

/-- a number of so many bytes off what is left -/
def rd (st : List UInt8 × Bool) (k : Nat) : Int × (List UInt8 × Bool) := if st.2 = true ∨ st.1.length < k then (0, ([], true)) else (valI (bytesI (st.1.take k)), (st.1.drop k, false))

theorem reader_fixed (n : Nat) (st : List UInt8 × Bool) (k : Nat) (width : Int) (hw : width = k) (hk : 1 ≤ k) (hk' : k ≤ 8) : codec_Reader_Fixed (n + 3) st width = some (rd st k) := by
  subst hw
  rw [codec_Reader_Fixed_eq, codec_Reader_Raw_eq]
  simp only [codec_Reader_fail_eq]
  have h1 : ¬ ((k : Int) < 1) := by omega
  have h2 : ¬ ((8 : Int) < k) := by omega
  have h3 : ¬ ((k : Int) < 0) := by omega
  have e0 : (k : Int).toNat = k := by omega
  have fin : ∀ (s : List UInt8) (q : List UInt8 × Bool), s.length ≤ 8 →
      (obind (codec_Reader_Fixed_l6 (n + 2) loopFuel (q, (0, (s.map fun y => ((y.toNat : Nat) : Int)), (((s.map fun y => ((y.toNat : Nat) : Int)).length : Nat) : Int), 0, ()))) fun r5 => selim (fun y6 => some (y6.2.1, y6.1)) (fun z7 => some z7) r5) = some (valI (bytesI s), q) := by
    intro s q hs
    have := reader_l6 (n + 2) q (bytesI s) (by rw [bytesI_length]; exact hs) (bytesI_range s) s.length 0 loopFuel (by rw [bytesI_length]; omega) (by unfold loopFuel; omega)
    simp only [List.take_zero] at this
    have hv0 : valI [] = 0 := rfl
    rw [hv0] at this
    show obind (codec_Reader_Fixed_l6 (n + 2) loopFuel (q, 0, bytesI s, ((bytesI s).length : Int), ((0 : Nat) : Int), ())) _ = _
    rw [this]; rfl
  simp only [tif_dec, if_neg h1, if_neg h2, if_neg h3]
  obtain ⟨s, b⟩ := st
  cases b with
  | true =>
    simp only [tif_true, obind_some]
    have := fin [] ([], true) (by simp)
    simp only [List.map_nil] at this
    rw [show rd (s, true) k = (0, ([], true)) by simp [rd]]
    exact this
  | false =>
    simp only [tif_false, obind_some]
    by_cases hlt : s.length < k
    · have h4 : (s.length : Int) < k := by omega
      rw [if_pos h4]
      simp only [obind_some]
      have := fin [] ([], true) (by simp)
      simp only [List.map_nil] at this
      rw [show rd (s, false) k = (0, ([], true)) by simp [rd, hlt]]
      exact this
    · have h4 : ¬ ((s.length : Int) < k) := by omega
      have h5 : (0 : Int) ≤ k := by omega
      have h6 : (k : Int) ≤ (s.length : Int) := by omega
      have h7 : k ≤ s.length := by omega
      simp only [if_neg h4, tif_and, tif_dec, if_pos h5, if_pos h6, e0, if_pos h7, obind_some]
      rw [show rd (s, false) k = (valI (bytesI (s.take k)), (s.drop k, false)) by simp [rd, hlt]]
      rw [List.drop_zero, List.take_length]
      exact fin (s.take k) (s.drop k, false) (by simp; omega)

theorem r03_reader_fixed (n : Nat) (st : List UInt8 × Bool) (k : Nat) (width : Int) (hw : width = k) (hk : 1 ≤ k) (hk' : k ≤ 8) : r03_Reader_Fixed (n + 2) st width = some ((rd st k).2, (rd st k).1) := by
  subst hw
  rw [r03_Reader_Fixed_eq, r03_Reader_Raw_eq]
  have h1 : ¬ ((k : Int) < 1) := by omega
  have h2 : ¬ ((8 : Int) < k) := by omega
  have h3 : ¬ ((k : Int) < 0) := by omega
  have e0 : (k : Int).toNat = k := by omega
  have fin : ∀ (s : List UInt8) (q : List UInt8 × Bool), s.length ≤ 8 →
      (obind (r03_Reader_Fixed_l6 (n + 1) loopFuel (q, ([], false), s, 0, 0, ())) fun r1 => selim (fun y2 => some (y2.1, y2.2.2.1)) (fun z3 => some z3) r1) = some (q, valI (bytesI s)) := by
    intro s q hs
    have := r03_reader_l6 (n + 1) q ([], false) s hs s.length 0 loopFuel (by omega) (by unfold loopFuel; omega)
    simp only [List.take_zero] at this
    have hv0 : valI [] = 0 := rfl
    rw [hv0] at this
    show obind (r03_Reader_Fixed_l6 (n + 1) loopFuel (q, ([], false), s, 0, ((0 : Nat) : Int), ())) _ = _
    rw [this]; rfl
  simp only [tif_dec, if_neg h1, if_neg h2, if_neg h3]
  obtain ⟨s, b⟩ := st
  cases b with
  | true =>
    simp only [tif_true, obind_some]
    rw [show rd (s, true) k = (0, ([], true)) by simp [rd]]
    exact fin [] ([], true) (by simp)
  | false =>
    simp only [tif_false, obind_some]
    by_cases hlt : s.length < k
    · have h4 : (s.length : Int) < k := by omega
      rw [if_pos h4]
      simp only [obind_some]
      rw [show rd (s, false) k = (0, ([], true)) by simp [rd, hlt]]
      exact fin [] ([], true) (by simp)
    · have h4 : ¬ ((s.length : Int) < k) := by omega
      have h5 : (0 : Int) ≤ k := by omega
      have h6 : (k : Int) ≤ (s.length : Int) := by omega
      have h7 : k ≤ s.length := by omega
      simp only [if_neg h4, tif_and, tif_dec, if_pos h5, if_pos h6, e0, if_pos h7, obind_some]
      rw [show rd (s, false) k = (valI (bytesI (s.take k)), (s.drop k, false)) by simp [rd, hlt]]
      rw [List.drop_zero, List.take_length]
      exact fin (s.take k) (s.drop k, false) (by simp; omega)

end Go.Proofs.Ytmooabafkcfbhaa
