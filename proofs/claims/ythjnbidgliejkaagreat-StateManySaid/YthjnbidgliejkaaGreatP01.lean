/-
  Wide numbers: what the program and the document make of them, as plain functions.
-/
import Derived.Test.YthjnbidgliejkaaGreatTr
import Derived.Test.YthjnbidgliejkaaGreatFlatM3
import Derived.Test.YthjnbidgliejkaaGreatM08
namespace Go.Proofs.YthjnbidgliejkaaGreat
open Go.Flat Go.Plim
set_option linter.unusedVariables false
set_option linter.unusedSimpArgs false
/-! ### bits -/
theorem shr_nat (x : Int) (k : Nat) (hk : k ≤ 64) : shrI .u64 x (k : Int) = x / 2 ^ k := by
  unfold shrI
  rw [show min (k : Int).toNat IntKind.u64.bits = k from by show min (k : Int).toNat 64 = k; omega]
  exact Int.fdiv_eq_ediv_of_nonneg _ (Int.le_of_lt (Int.pow_pos (by decide)))
theorem and_mask (x : Int) (k : Nat) (hk : k ≤ 63) (h : 0 ≤ x) (h' : x ≤ 18446744073709551615) : andI .u64 x ((2 ^ k - 1 : Nat) : Int) = x % ((2 ^ k : Nat) : Int) := by
  obtain ⟨a, rfl⟩ := Int.eq_ofNat_of_zero_le h
  have hp : 2 ^ k ≤ 2 ^ 63 := Nat.pow_le_pow_right (by decide) hk
  have h63 : (2 : Nat) ^ 63 = 9223372036854775808 := by decide
  unfold andI
  have e : (BitVec.ofInt IntKind.u64.bits (a : Int) &&& BitVec.ofInt IntKind.u64.bits ((2 ^ k - 1 : Nat) : Int)).toNat = a % 2 ^ k := by
    show (BitVec.ofInt 64 (a : Int) &&& BitVec.ofInt 64 ((2 ^ k - 1 : Nat) : Int)).toNat = _
    rw [BitVec.toNat_and, BitVec.ofInt_natCast, BitVec.ofInt_natCast, BitVec.toNat_ofNat, BitVec.toNat_ofNat, Nat.mod_eq_of_lt (a := a) (by omega), Nat.mod_eq_of_lt (a := 2 ^ k - 1) (by omega), Nat.and_two_pow_sub_one_eq_mod]
  rw [e]
  have : a % 2 ^ k < 2 ^ k := Nat.mod_lt _ (Nat.pow_pos (by decide))
  rw [wu64 (by omega) (by omega)]
  simp
theorem or_add (a x : Int) (k : Nat) (hk : k ≤ 56) (ha : 0 ≤ a) (ha' : a < ((2 ^ k : Nat) : Int)) (hx : 0 ≤ x) (hx' : x ≤ 255) :
    orI .u64 a (shlI .u64 (IntKind.wrap .u64 x) (k : Int)) = a + x * ((2 ^ k : Nat) : Int) := by
  obtain ⟨a, rfl⟩ := Int.eq_ofNat_of_zero_le ha
  obtain ⟨c, rfl⟩ := Int.eq_ofNat_of_zero_le hx
  have hp : 2 ^ k ≤ 2 ^ 56 := Nat.pow_le_pow_right (by decide) hk
  have h56 : (2 : Nat) ^ 56 = 72057594037927936 := by decide
  have hc : c * 2 ^ k ≤ 255 * 2 ^ k := Nat.mul_le_mul_right _ (by omega)
  have e1 : shlI .u64 (IntKind.wrap .u64 (c : Int)) (k : Int) = ((c * 2 ^ k : Nat) : Int) := by
    rw [wu64 (by omega) (by omega)]
    show IntKind.wrap .u64 ((c : Int) * 2 ^ (min (k : Int).toNat 64)) = _
    rw [show min (k : Int).toNat 64 = k by omega]
    have : (c : Int) * 2 ^ k = ((c * 2 ^ k : Nat) : Int) := by simp
    rw [this, wu64 (by omega) (by omega)]
  rw [e1]
  unfold orI
  have e2 : (BitVec.ofInt IntKind.u64.bits (a : Int) ||| BitVec.ofInt IntKind.u64.bits ((c * 2 ^ k : Nat) : Int)).toNat = c * 2 ^ k + a := by
    show (BitVec.ofInt 64 (a : Int) ||| BitVec.ofInt 64 ((c * 2 ^ k : Nat) : Int)).toNat = _
    rw [BitVec.toNat_or, BitVec.ofInt_natCast, BitVec.ofInt_natCast, BitVec.toNat_ofNat, BitVec.toNat_ofNat, Nat.mod_eq_of_lt (by omega), Nat.mod_eq_of_lt (by omega)]
    have := Nat.two_pow_add_eq_or_of_lt (i := k) (b := a) (by omega) c
    rw [Nat.mul_comm c (2 ^ k), this, Nat.or_comm]
  rw [e2, wu64 (by omega) (by omega)]
  simp [Int.add_comm]
theorem or_zero (a b : Int) (ha : 0 ≤ a ∧ a ≤ 18446744073709551615) (hb : 0 ≤ b ∧ b ≤ 18446744073709551615) : orI .u64 a b = 0 ↔ a = 0 ∧ b = 0 := by
  obtain ⟨a, rfl⟩ := Int.eq_ofNat_of_zero_le ha.1
  obtain ⟨b, rfl⟩ := Int.eq_ofNat_of_zero_le hb.1
  unfold orI
  have e2 : (BitVec.ofInt IntKind.u64.bits (a : Int) ||| BitVec.ofInt IntKind.u64.bits (b : Int)).toNat = a ||| b := by
    show (BitVec.ofInt 64 (a : Int) ||| BitVec.ofInt 64 (b : Int)).toNat = _
    rw [BitVec.toNat_or, BitVec.ofInt_natCast, BitVec.ofInt_natCast, BitVec.toNat_ofNat, BitVec.toNat_ofNat, Nat.mod_eq_of_lt (by omega), Nat.mod_eq_of_lt (by omega)]
  rw [e2]
  have : a ||| b < 2 ^ 64 := Nat.or_lt_two_pow (by omega) (by omega)
  rw [wu64 (by omega) (by omega)]
  have h3 : a ||| b = 0 ↔ a = 0 ∧ b = 0 := Nat.or_eq_zero_iff
  omega
/-! ### the program's -/
theorem wide_of (n : Nat) (x : Int) : wide_Of (n + 1) x = some (0, x) := wide_Of_eq n x
theorem wide_sure_val (n : Nat) (a : Wd) (o : Int) : wide_sure (n + 1) a o = some (if o = 0 then (a, 0) else ((0, 0), 1)) := by
  rw [wide_sure_eq]
  by_cases h : o = 0 <;> simp [h]
theorem wide_less (n : Nat) {a b : Wd} (ha : WdOk a) (hb : WdOk b) : wide_Less (n + 1) a b = some (decide (wv a < wv b)) := by
  obtain ⟨h1, h2⟩ := ha
  obtain ⟨h3, h4⟩ := hb
  obtain ⟨ah, al⟩ := a
  obtain ⟨bh, bl⟩ := b
  simp only at h1 h2 h3 h4
  rw [wide_Less_eq]
  have ea : wv (ah, al) = ah * 18446744073709551616 + al := rfl
  have eb : wv (bh, bl) = bh * 18446744073709551616 + bl := rfl
  generalize wv (ah, al) = va at *
  generalize wv (bh, bl) = vb at *
  simp only [tif_dec]
  by_cases c1 : ah < bh
  · rw [if_pos c1, decide_eq_true (by omega)]
  · rw [if_neg c1]
    by_cases c2 : ah = bh
    · rw [if_pos c2]; congr 1
      exact decide_eq_decide.2 (by omega)
    · rw [if_neg c2, decide_eq_false (by omega)]
theorem mul64 (n : Nat) (x y : Int) (hx : 0 ≤ x ∧ x ≤ 18446744073709551615) (hy : 0 ≤ y ∧ y ≤ 18446744073709551615) : math_bits_Mul64 (n + 1) x y = some (x * y / 18446744073709551616, x * y % 18446744073709551616) := by
  rw [math_bits_Mul64_eq]
  have sh : ∀ z : Int, shrI .u64 z (32 : Int) = z / 4294967296 := fun z => shr_nat z 32 (by decide)
  have an : ∀ z : Int, 0 ≤ z → z ≤ 18446744073709551615 → andI .u64 z (4294967295 : Int) = z % 4294967296 := fun z h h' => and_mask z 32 (by decide) h h'
  rw [an x hx.1 hx.2, an y hy.1 hy.2]
  simp only [sh]
  have b1 : 0 ≤ x / 4294967296 ∧ x / 4294967296 ≤ 4294967295 := by omega
  have b2 : 0 ≤ y / 4294967296 ∧ y / 4294967296 ≤ 4294967295 := by omega
  have b3 : 0 ≤ x % 4294967296 ∧ x % 4294967296 ≤ 4294967295 := by omega
  have b4 : 0 ≤ y % 4294967296 ∧ y % 4294967296 ≤ 4294967295 := by omega
  have ex : x = x / 4294967296 * 4294967296 + x % 4294967296 := by omega
  have ey : y = y / 4294967296 * 4294967296 + y % 4294967296 := by omega
  generalize hx1 : x / 4294967296 = x1 at *
  generalize hx0 : x % 4294967296 = x0 at *
  generalize hy1 : y / 4294967296 = y1 at *
  generalize hy0 : y % 4294967296 = y0 at *
  have bound : ∀ {u v : Int}, 0 ≤ u ∧ u ≤ 4294967295 → 0 ≤ v ∧ v ≤ 4294967295 → 0 ≤ u * v ∧ u * v ≤ 18446744065119617025 := fun {u v} hu hv =>
    ⟨Int.mul_nonneg hu.1 hv.1, Int.le_trans (Int.mul_le_mul hu.2 hv.2 hv.1 (by decide)) (by decide)⟩
  have p11 := bound b1 b2
  have p10 := bound b1 b4
  have p01 := bound b3 b2
  have p00 := bound b3 b4
  have exy : x * y = x1 * y1 * 18446744073709551616 + (x1 * y0 + x0 * y1) * 4294967296 + x0 * y0 := by
    rw [ex, ey]
    simp only [Int.add_mul, Int.mul_add]
    have q1 : x1 * 4294967296 * (y1 * 4294967296) = x1 * y1 * 18446744073709551616 := by
      rw [Int.mul_assoc, Int.mul_left_comm 4294967296 y1, ← Int.mul_assoc]; rfl
    have q2 : x0 * (y1 * 4294967296) = x0 * y1 * 4294967296 := by rw [Int.mul_assoc]
    have q3 : x1 * 4294967296 * y0 = x1 * y0 * 4294967296 := by rw [Int.mul_assoc, Int.mul_comm 4294967296 y0, ← Int.mul_assoc]
    rw [q1, q2, q3]; omega
  rw [exy]
  generalize x1 * y1 = a11 at *
  generalize x1 * y0 = a10 at *
  generalize x0 * y1 = a01 at *
  generalize x0 * y0 = a00 at *
  rw [wu64 (x := a00) (by omega) (by omega), wu64 (x := a11) (by omega) (by omega), wu64 (x := a10) (by omega) (by omega), wu64 (x := a01) (by omega) (by omega)]
  rw [wu64 (x := a10 + a00 / 4294967296) (by omega) (by omega), an _ (by omega) (by omega)]
  rw [wu64 (x := a11 + (a10 + a00 / 4294967296) / 4294967296) (by omega) (by omega), wu64 (x := (a10 + a00 / 4294967296) % 4294967296 + a01) (by omega) (by omega), wu64 (by omega) (by omega)]
  have wm : ∀ z : Int, IntKind.wrap .u64 z = z % 18446744073709551616 := fun z => IntKind.wrap_u64 z
  rw [wm]
  congr 2
  omega
def timesW (a : Wd) (k : Int) : Wd × Int := if wv a * k < 340282366920938463463374607431768211456 then (mkW (wv a * k), 0) else ((0, 0), 1)
theorem wide_times (n : Nat) {a : Wd} (ha : WdOk a) (k : Int) (hk : 0 ≤ k ∧ k ≤ 18446744073709551615) : wide_Times (n + 2) a k = some (timesW a k) := by
  obtain ⟨h1, h2⟩ := ha
  obtain ⟨ah, al⟩ := a
  simp only at h1 h2
  rw [wide_Times_eq, mul64 n al k h2 hk, mul64 n ah k h1 hk]
  simp only [obind_some]
  have bd : ∀ {u : Int}, 0 ≤ u ∧ u ≤ 18446744073709551615 → 0 ≤ u * k ∧ u * k ≤ 340282366920938463426481119284349108225 := fun {u} hu =>
    ⟨Int.mul_nonneg hu.1 hk.1, Int.le_trans (Int.mul_le_mul hu.2 hk.2 hk.1 (by decide)) (by decide)⟩
  have b1 := bd h1
  have b2 := bd h2
  unfold timesW
  have e : wv (ah, al) * k = ah * k * 18446744073709551616 + al * k := by
    simp only [wv]
    rw [Int.add_mul, Int.mul_assoc, Int.mul_comm 18446744073709551616 k, ← Int.mul_assoc]
  rw [e]
  generalize ah * k = p at *
  generalize al * k = q at *
  simp only [tif_and, tif_dec, tif_true, if_pos (show (0 : Int) ≤ p % 18446744073709551616 by omega), if_pos (show (0 : Int) ≤ q / 18446744073709551616 by omega), wide_sure_val, obind_some]
  have ho := or_zero (p / 18446744073709551616) ((p % 18446744073709551616 + q / 18446744073709551616 + 0) / 18446744073709551616) (by omega) (by omega)
  by_cases hc : p * 18446744073709551616 + q < 340282366920938463463374607431768211456
  · rw [if_pos hc, if_pos (ho.2 (by omega))]
    simp only [mkW]
    congr 2
    exact Prod.ext (by simp only; omega) (by simp only; omega)
  · rw [if_neg hc, if_neg (fun h => by have := ho.1 h; omega)]
/-! ### the document's: sixteen bytes -/
/-- numbers that are bytes -/
def Byt (x : Int) : Prop := 0 ≤ x ∧ x ≤ 255
theorem bytes8 (v : Int) (h : 0 ≤ v ∧ v ≤ 18446744073709551615) : ∃ x0 x1 x2 x3 x4 x5 x6 x7 : Int, (Byt x0 ∧ Byt x1 ∧ Byt x2 ∧ Byt x3 ∧ Byt x4 ∧ Byt x5 ∧ Byt x6 ∧ Byt x7) ∧ v = x0 + x1 * 256 + x2 * 65536 + x3 * 16777216 + x4 * 4294967296 + x5 * 1099511627776 + x6 * 281474976710656 + x7 * 72057594037927936 ∧
    v % 256 = x0 ∧ v / 256 % 256 = x1 ∧ v / 65536 % 256 = x2 ∧ v / 16777216 % 256 = x3 ∧ v / 4294967296 % 256 = x4 ∧ v / 1099511627776 % 256 = x5 ∧ v / 281474976710656 % 256 = x6 ∧ v / 72057594037927936 % 256 = x7 := by
  refine ⟨v % 256, v / 256 % 256, v / 65536 % 256, v / 16777216 % 256, v / 4294967296 % 256, v / 1099511627776 % 256, v / 281474976710656 % 256, v / 72057594037927936 % 256, ?_, ?_, rfl, rfl, rfl, rfl, rfl, rfl, rfl, rfl⟩
  · simp only [Byt]; omega
  · have e2 : v / 65536 = v / 256 / 256 := by omega
    have e3 : v / 16777216 = v / 65536 / 256 := by omega
    have e4 : v / 4294967296 = v / 16777216 / 256 := by omega
    have e5 : v / 1099511627776 = v / 4294967296 / 256 := by omega
    have e6 : v / 281474976710656 = v / 1099511627776 / 256 := by omega
    have e7 : v / 72057594037927936 = v / 281474976710656 / 256 := by omega
    have e8 : v / 72057594037927936 / 256 = 0 := by omega
    omega
theorem r01_bytes (n : Nat) {a : Wd} (ha : WdOk a) : ∃ x0 x1 x2 x3 x4 x5 x6 x7 x8 x9 x10 x11 x12 x13 x14 x15 : Int, r01_Bytes (n + 1) a = some (x0, x1, x2, x3, x4, x5, x6, x7, x8, x9, x10, x11, x12, x13, x14, x15) ∧ (Byt x0 ∧ Byt x1 ∧ Byt x2 ∧ Byt x3 ∧ Byt x4 ∧ Byt x5 ∧ Byt x6 ∧ Byt x7 ∧ Byt x8 ∧ Byt x9 ∧ Byt x10 ∧ Byt x11 ∧ Byt x12 ∧ Byt x13 ∧ Byt x14 ∧ Byt x15) ∧ a.2 = x0 + x1 * 256 + x2 * 65536 + x3 * 16777216 + x4 * 4294967296 + x5 * 1099511627776 + x6 * 281474976710656 + x7 * 72057594037927936 ∧ a.1 = x8 + x9 * 256 + x10 * 65536 + x11 * 16777216 + x12 * 4294967296 + x13 * 1099511627776 + x14 * 281474976710656 + x15 * 72057594037927936 := by
  obtain ⟨x0, x1, x2, x3, x4, x5, x6, x7, ⟨b0, b1, b2, b3, b4, b5, b6, b7⟩, hv, e0, e1, e2, e3, e4, e5, e6, e7⟩ := bytes8 a.2 ha.lo
  obtain ⟨x8, x9, x10, x11, x12, x13, x14, x15, ⟨b8, b9, b10, b11, b12, b13, b14, b15⟩, hv', e8, e9, e10, e11, e12, e13, e14, e15⟩ := bytes8 a.1 ha.hi
  refine ⟨x0, x1, x2, x3, x4, x5, x6, x7, x8, x9, x10, x11, x12, x13, x14, x15, ?_, ⟨b0, b1, b2, b3, b4, b5, b6, b7, b8, b9, b10, b11, b12, b13, b14, b15⟩, hv, hv'⟩
  have an : ∀ z : Int, 0 ≤ z → z ≤ 18446744073709551615 → andI .u64 z (255 : Int) = z % 256 := fun z h h' => and_mask z 8 (by decide) h h'
  have s0 : ∀ z : Int, shrI .u64 z (0 : Int) = z / 1 := fun z => shr_nat z 0 (by decide)
  have s1 : ∀ z : Int, shrI .u64 z (8 : Int) = z / 256 := fun z => shr_nat z 8 (by decide)
  have s2 : ∀ z : Int, shrI .u64 z (16 : Int) = z / 65536 := fun z => shr_nat z 16 (by decide)
  have s3 : ∀ z : Int, shrI .u64 z (24 : Int) = z / 16777216 := fun z => shr_nat z 24 (by decide)
  have s4 : ∀ z : Int, shrI .u64 z (32 : Int) = z / 4294967296 := fun z => shr_nat z 32 (by decide)
  have s5 : ∀ z : Int, shrI .u64 z (40 : Int) = z / 1099511627776 := fun z => shr_nat z 40 (by decide)
  have s6 : ∀ z : Int, shrI .u64 z (48 : Int) = z / 281474976710656 := fun z => shr_nat z 48 (by decide)
  have s7 : ∀ z : Int, shrI .u64 z (56 : Int) = z / 72057594037927936 := fun z => shr_nat z 56 (by decide)
  have h1 := ha.lo
  have h2 := ha.hi
  rw [r01_Bytes_eq]
  simp only [s0, s1, s2, s3, s4, s5, s6, s7, Int.ediv_one]
  rw [an (a.2) (by omega) (by omega), e0, w64 (x := x0) (by have := b0.1; omega) (by have := b0.2; omega)]
  rw [an (a.2 / 256) (by omega) (by omega), e1, w64 (x := x1) (by have := b1.1; omega) (by have := b1.2; omega)]
  rw [an (a.2 / 65536) (by omega) (by omega), e2, w64 (x := x2) (by have := b2.1; omega) (by have := b2.2; omega)]
  rw [an (a.2 / 16777216) (by omega) (by omega), e3, w64 (x := x3) (by have := b3.1; omega) (by have := b3.2; omega)]
  rw [an (a.2 / 4294967296) (by omega) (by omega), e4, w64 (x := x4) (by have := b4.1; omega) (by have := b4.2; omega)]
  rw [an (a.2 / 1099511627776) (by omega) (by omega), e5, w64 (x := x5) (by have := b5.1; omega) (by have := b5.2; omega)]
  rw [an (a.2 / 281474976710656) (by omega) (by omega), e6, w64 (x := x6) (by have := b6.1; omega) (by have := b6.2; omega)]
  rw [an (a.2 / 72057594037927936) (by omega) (by omega), e7, w64 (x := x7) (by have := b7.1; omega) (by have := b7.2; omega)]
  rw [an (a.1) (by omega) (by omega), e8, w64 (x := x8) (by have := b8.1; omega) (by have := b8.2; omega)]
  rw [an (a.1 / 256) (by omega) (by omega), e9, w64 (x := x9) (by have := b9.1; omega) (by have := b9.2; omega)]
  rw [an (a.1 / 65536) (by omega) (by omega), e10, w64 (x := x10) (by have := b10.1; omega) (by have := b10.2; omega)]
  rw [an (a.1 / 16777216) (by omega) (by omega), e11, w64 (x := x11) (by have := b11.1; omega) (by have := b11.2; omega)]
  rw [an (a.1 / 4294967296) (by omega) (by omega), e12, w64 (x := x12) (by have := b12.1; omega) (by have := b12.2; omega)]
  rw [an (a.1 / 1099511627776) (by omega) (by omega), e13, w64 (x := x13) (by have := b13.1; omega) (by have := b13.2; omega)]
  rw [an (a.1 / 281474976710656) (by omega) (by omega), e14, w64 (x := x14) (by have := b14.1; omega) (by have := b14.2; omega)]
  rw [an (a.1 / 72057594037927936) (by omega) (by omega), e15, w64 (x := x15) (by have := b15.1; omega) (by have := b15.2; omega)]
theorem r01_of (n : Nat) {x0 x1 x2 x3 x4 x5 x6 x7 x8 x9 x10 x11 x12 x13 x14 x15 : Int} (b0 : Byt x0) (b1 : Byt x1) (b2 : Byt x2) (b3 : Byt x3) (b4 : Byt x4) (b5 : Byt x5) (b6 : Byt x6) (b7 : Byt x7) (b8 : Byt x8) (b9 : Byt x9) (b10 : Byt x10) (b11 : Byt x11) (b12 : Byt x12) (b13 : Byt x13) (b14 : Byt x14) (b15 : Byt x15) : r01_Of (n + 1) (x0, x1, x2, x3, x4, x5, x6, x7, x8, x9, x10, x11, x12, x13, x14, x15) = some (x8 + x9 * 256 + x10 * 65536 + x11 * 16777216 + x12 * 4294967296 + x13 * 1099511627776 + x14 * 281474976710656 + x15 * 72057594037927936, x0 + x1 * 256 + x2 * 65536 + x3 * 16777216 + x4 * 4294967296 + x5 * 1099511627776 + x6 * 281474976710656 + x7 * 72057594037927936) := by
  rw [r01_Of_eq]
  simp only [Byt] at *
  have q0 : orI .u64 ((0 : Int)) (shlI .u64 (IntKind.wrap .u64 x0) (0 : Int)) = (0 : Int) + x0 * 1 := or_add _ _ 0 (by decide) (by omega) (by show _ < (1 : Int); omega) b0.1 b0.2
  have q1 : orI .u64 ((0 : Int) + x0 * 1) (shlI .u64 (IntKind.wrap .u64 x1) (8 : Int)) = (0 : Int) + x0 * 1 + x1 * 256 := or_add _ _ 8 (by decide) (by omega) (by show _ < (256 : Int); omega) b1.1 b1.2
  have q2 : orI .u64 ((0 : Int) + x0 * 1 + x1 * 256) (shlI .u64 (IntKind.wrap .u64 x2) (16 : Int)) = (0 : Int) + x0 * 1 + x1 * 256 + x2 * 65536 := or_add _ _ 16 (by decide) (by omega) (by show _ < (65536 : Int); omega) b2.1 b2.2
  have q3 : orI .u64 ((0 : Int) + x0 * 1 + x1 * 256 + x2 * 65536) (shlI .u64 (IntKind.wrap .u64 x3) (24 : Int)) = (0 : Int) + x0 * 1 + x1 * 256 + x2 * 65536 + x3 * 16777216 := or_add _ _ 24 (by decide) (by omega) (by show _ < (16777216 : Int); omega) b3.1 b3.2
  have q4 : orI .u64 ((0 : Int) + x0 * 1 + x1 * 256 + x2 * 65536 + x3 * 16777216) (shlI .u64 (IntKind.wrap .u64 x4) (32 : Int)) = (0 : Int) + x0 * 1 + x1 * 256 + x2 * 65536 + x3 * 16777216 + x4 * 4294967296 := or_add _ _ 32 (by decide) (by omega) (by show _ < (4294967296 : Int); omega) b4.1 b4.2
  have q5 : orI .u64 ((0 : Int) + x0 * 1 + x1 * 256 + x2 * 65536 + x3 * 16777216 + x4 * 4294967296) (shlI .u64 (IntKind.wrap .u64 x5) (40 : Int)) = (0 : Int) + x0 * 1 + x1 * 256 + x2 * 65536 + x3 * 16777216 + x4 * 4294967296 + x5 * 1099511627776 := or_add _ _ 40 (by decide) (by omega) (by show _ < (1099511627776 : Int); omega) b5.1 b5.2
  have q6 : orI .u64 ((0 : Int) + x0 * 1 + x1 * 256 + x2 * 65536 + x3 * 16777216 + x4 * 4294967296 + x5 * 1099511627776) (shlI .u64 (IntKind.wrap .u64 x6) (48 : Int)) = (0 : Int) + x0 * 1 + x1 * 256 + x2 * 65536 + x3 * 16777216 + x4 * 4294967296 + x5 * 1099511627776 + x6 * 281474976710656 := or_add _ _ 48 (by decide) (by omega) (by show _ < (281474976710656 : Int); omega) b6.1 b6.2
  have q7 : orI .u64 ((0 : Int) + x0 * 1 + x1 * 256 + x2 * 65536 + x3 * 16777216 + x4 * 4294967296 + x5 * 1099511627776 + x6 * 281474976710656) (shlI .u64 (IntKind.wrap .u64 x7) (56 : Int)) = (0 : Int) + x0 * 1 + x1 * 256 + x2 * 65536 + x3 * 16777216 + x4 * 4294967296 + x5 * 1099511627776 + x6 * 281474976710656 + x7 * 72057594037927936 := or_add _ _ 56 (by decide) (by omega) (by show _ < (72057594037927936 : Int); omega) b7.1 b7.2
  have q8 : orI .u64 ((0 : Int)) (shlI .u64 (IntKind.wrap .u64 x8) (0 : Int)) = (0 : Int) + x8 * 1 := or_add _ _ 0 (by decide) (by omega) (by show _ < (1 : Int); omega) b8.1 b8.2
  have q9 : orI .u64 ((0 : Int) + x8 * 1) (shlI .u64 (IntKind.wrap .u64 x9) (8 : Int)) = (0 : Int) + x8 * 1 + x9 * 256 := or_add _ _ 8 (by decide) (by omega) (by show _ < (256 : Int); omega) b9.1 b9.2
  have q10 : orI .u64 ((0 : Int) + x8 * 1 + x9 * 256) (shlI .u64 (IntKind.wrap .u64 x10) (16 : Int)) = (0 : Int) + x8 * 1 + x9 * 256 + x10 * 65536 := or_add _ _ 16 (by decide) (by omega) (by show _ < (65536 : Int); omega) b10.1 b10.2
  have q11 : orI .u64 ((0 : Int) + x8 * 1 + x9 * 256 + x10 * 65536) (shlI .u64 (IntKind.wrap .u64 x11) (24 : Int)) = (0 : Int) + x8 * 1 + x9 * 256 + x10 * 65536 + x11 * 16777216 := or_add _ _ 24 (by decide) (by omega) (by show _ < (16777216 : Int); omega) b11.1 b11.2
  have q12 : orI .u64 ((0 : Int) + x8 * 1 + x9 * 256 + x10 * 65536 + x11 * 16777216) (shlI .u64 (IntKind.wrap .u64 x12) (32 : Int)) = (0 : Int) + x8 * 1 + x9 * 256 + x10 * 65536 + x11 * 16777216 + x12 * 4294967296 := or_add _ _ 32 (by decide) (by omega) (by show _ < (4294967296 : Int); omega) b12.1 b12.2
  have q13 : orI .u64 ((0 : Int) + x8 * 1 + x9 * 256 + x10 * 65536 + x11 * 16777216 + x12 * 4294967296) (shlI .u64 (IntKind.wrap .u64 x13) (40 : Int)) = (0 : Int) + x8 * 1 + x9 * 256 + x10 * 65536 + x11 * 16777216 + x12 * 4294967296 + x13 * 1099511627776 := or_add _ _ 40 (by decide) (by omega) (by show _ < (1099511627776 : Int); omega) b13.1 b13.2
  have q14 : orI .u64 ((0 : Int) + x8 * 1 + x9 * 256 + x10 * 65536 + x11 * 16777216 + x12 * 4294967296 + x13 * 1099511627776) (shlI .u64 (IntKind.wrap .u64 x14) (48 : Int)) = (0 : Int) + x8 * 1 + x9 * 256 + x10 * 65536 + x11 * 16777216 + x12 * 4294967296 + x13 * 1099511627776 + x14 * 281474976710656 := or_add _ _ 48 (by decide) (by omega) (by show _ < (281474976710656 : Int); omega) b14.1 b14.2
  have q15 : orI .u64 ((0 : Int) + x8 * 1 + x9 * 256 + x10 * 65536 + x11 * 16777216 + x12 * 4294967296 + x13 * 1099511627776 + x14 * 281474976710656) (shlI .u64 (IntKind.wrap .u64 x15) (56 : Int)) = (0 : Int) + x8 * 1 + x9 * 256 + x10 * 65536 + x11 * 16777216 + x12 * 4294967296 + x13 * 1099511627776 + x14 * 281474976710656 + x15 * 72057594037927936 := or_add _ _ 56 (by decide) (by omega) (by show _ < (72057594037927936 : Int); omega) b15.1 b15.2
  rw [q8, q9, q10, q11, q12, q13, q14, q15, q0, q1, q2, q3, q4, q5, q6, q7]
  congr 2
  · omega
  · omega
theorem r01_less (n : Nat) {a b : Wd} (ha : WdOk a) (hb : WdOk b) : r01_Less (n + 2) a b = some (decide (wv a < wv b)) := by
  obtain ⟨x0, x1, x2, x3, x4, x5, x6, x7, x8, x9, x10, x11, x12, x13, x14, x15, hx, ⟨b0, b1, b2, b3, b4, b5, b6, b7, b8, b9, b10, b11, b12, b13, b14, b15⟩, va, va'⟩ := r01_bytes n ha
  obtain ⟨y0, y1, y2, y3, y4, y5, y6, y7, y8, y9, y10, y11, y12, y13, y14, y15, hy, ⟨d0, d1, d2, d3, d4, d5, d6, d7, d8, d9, d10, d11, d12, d13, d14, d15⟩, vb, vb'⟩ := r01_bytes n hb
  rw [r01_Less_eq, hx, hy]
  simp only [obind_some, tif_not, tif_dec]
  simp only [Byt] at *
  have ea : wv a = a.1 * 18446744073709551616 + a.2 := rfl
  have eb : wv b = b.1 * 18446744073709551616 + b.2 := rfl
  rw [va, va'] at ea
  rw [vb, vb'] at eb
  clear va va' vb vb' hx hy ha hb
  generalize wv a = va at *
  generalize wv b = vb at *
  by_cases c15 : x15 = y15
  case neg => rw [if_neg c15]; congr 1; exact decide_eq_decide.2 (by omega)
  rw [if_pos c15]
  subst c15
  by_cases c14 : x14 = y14
  case neg => rw [if_neg c14]; congr 1; exact decide_eq_decide.2 (by omega)
  rw [if_pos c14]
  subst c14
  by_cases c13 : x13 = y13
  case neg => rw [if_neg c13]; congr 1; exact decide_eq_decide.2 (by omega)
  rw [if_pos c13]
  subst c13
  by_cases c12 : x12 = y12
  case neg => rw [if_neg c12]; congr 1; exact decide_eq_decide.2 (by omega)
  rw [if_pos c12]
  subst c12
  by_cases c11 : x11 = y11
  case neg => rw [if_neg c11]; congr 1; exact decide_eq_decide.2 (by omega)
  rw [if_pos c11]
  subst c11
  by_cases c10 : x10 = y10
  case neg => rw [if_neg c10]; congr 1; exact decide_eq_decide.2 (by omega)
  rw [if_pos c10]
  subst c10
  by_cases c9 : x9 = y9
  case neg => rw [if_neg c9]; congr 1; exact decide_eq_decide.2 (by omega)
  rw [if_pos c9]
  subst c9
  by_cases c8 : x8 = y8
  case neg => rw [if_neg c8]; congr 1; exact decide_eq_decide.2 (by omega)
  rw [if_pos c8]
  subst c8
  by_cases c7 : x7 = y7
  case neg => rw [if_neg c7]; congr 1; exact decide_eq_decide.2 (by omega)
  rw [if_pos c7]
  subst c7
  by_cases c6 : x6 = y6
  case neg => rw [if_neg c6]; congr 1; exact decide_eq_decide.2 (by omega)
  rw [if_pos c6]
  subst c6
  by_cases c5 : x5 = y5
  case neg => rw [if_neg c5]; congr 1; exact decide_eq_decide.2 (by omega)
  rw [if_pos c5]
  subst c5
  by_cases c4 : x4 = y4
  case neg => rw [if_neg c4]; congr 1; exact decide_eq_decide.2 (by omega)
  rw [if_pos c4]
  subst c4
  by_cases c3 : x3 = y3
  case neg => rw [if_neg c3]; congr 1; exact decide_eq_decide.2 (by omega)
  rw [if_pos c3]
  subst c3
  by_cases c2 : x2 = y2
  case neg => rw [if_neg c2]; congr 1; exact decide_eq_decide.2 (by omega)
  rw [if_pos c2]
  subst c2
  by_cases c1 : x1 = y1
  case neg => rw [if_neg c1]; congr 1; exact decide_eq_decide.2 (by omega)
  rw [if_pos c1]
  subst c1
  by_cases c0 : x0 = y0
  case neg => rw [if_neg c0]; congr 1; exact decide_eq_decide.2 (by omega)
  rw [if_pos c0]
  subst c0
  rw [decide_eq_false (by omega)]
/-- one digit of a sum, and what goes over -/
def cN (x y m : Int) : Int := IntKind.wrap .i64 (Int.tdiv (IntKind.wrap .i64 ((IntKind.wrap .i64 (x + y)) + m)) (256 : Int))
def dN (x y m : Int) : Int := Int.tmod (IntKind.wrap .i64 ((IntKind.wrap .i64 (x + y)) + m)) (256 : Int)
theorem digit (x y m : Int) (hx : Byt x) (hy : Byt y) (hm : 0 ≤ m ∧ m ≤ 1) : (0 ≤ cN x y m ∧ cN x y m ≤ 1) ∧ Byt (dN x y m) ∧ x + y + m = 256 * cN x y m + dN x y m := by
  obtain ⟨h1, h2⟩ := hx
  obtain ⟨h3, h4⟩ := hy
  unfold cN dN Byt
  rw [w64 (x := x + y) (by omega) (by omega), w64 (x := x + y + m) (by omega) (by omega), tdiv_nn (by omega), tmod_nn (by omega), w64 (by omega) (by omega)]
  omega
theorem r01_add (n : Nat) {a b : Wd} (ha : WdOk a) (hb : WdOk b) : r01_Add (n + 2) a b = some (addW a b) := by
  obtain ⟨x0, x1, x2, x3, x4, x5, x6, x7, x8, x9, x10, x11, x12, x13, x14, x15, hx, ⟨b0, b1, b2, b3, b4, b5, b6, b7, b8, b9, b10, b11, b12, b13, b14, b15⟩, va, va'⟩ := r01_bytes n ha
  obtain ⟨y0, y1, y2, y3, y4, y5, y6, y7, y8, y9, y10, y11, y12, y13, y14, y15, hy, ⟨d0, d1, d2, d3, d4, d5, d6, d7, d8, d9, d10, d11, d12, d13, d14, d15⟩, vb, vb'⟩ := r01_bytes n hb
  rw [r01_Add_eq, hx, hy]
  simp only [obind_some]
  show tif (decide ((0 : Int) < (cN x15 y15 (cN x14 y14 (cN x13 y13 (cN x12 y12 (cN x11 y11 (cN x10 y10 (cN x9 y9 (cN x8 y8 (cN x7 y7 (cN x6 y6 (cN x5 y5 (cN x4 y4 (cN x3 y3 (cN x2 y2 (cN x1 y1 (cN x0 y0 (0 : Int))))))))))))))))))) (some (((0 : Int), (0 : Int)), (1 : Int))) (obind (r01_Of (n + 1) (dN x0 y0 (0 : Int), dN x1 y1 (cN x0 y0 (0 : Int)), dN x2 y2 (cN x1 y1 (cN x0 y0 (0 : Int))), dN x3 y3 (cN x2 y2 (cN x1 y1 (cN x0 y0 (0 : Int)))), dN x4 y4 (cN x3 y3 (cN x2 y2 (cN x1 y1 (cN x0 y0 (0 : Int))))), dN x5 y5 (cN x4 y4 (cN x3 y3 (cN x2 y2 (cN x1 y1 (cN x0 y0 (0 : Int)))))), dN x6 y6 (cN x5 y5 (cN x4 y4 (cN x3 y3 (cN x2 y2 (cN x1 y1 (cN x0 y0 (0 : Int))))))), dN x7 y7 (cN x6 y6 (cN x5 y5 (cN x4 y4 (cN x3 y3 (cN x2 y2 (cN x1 y1 (cN x0 y0 (0 : Int)))))))), dN x8 y8 (cN x7 y7 (cN x6 y6 (cN x5 y5 (cN x4 y4 (cN x3 y3 (cN x2 y2 (cN x1 y1 (cN x0 y0 (0 : Int))))))))), dN x9 y9 (cN x8 y8 (cN x7 y7 (cN x6 y6 (cN x5 y5 (cN x4 y4 (cN x3 y3 (cN x2 y2 (cN x1 y1 (cN x0 y0 (0 : Int)))))))))), dN x10 y10 (cN x9 y9 (cN x8 y8 (cN x7 y7 (cN x6 y6 (cN x5 y5 (cN x4 y4 (cN x3 y3 (cN x2 y2 (cN x1 y1 (cN x0 y0 (0 : Int))))))))))), dN x11 y11 (cN x10 y10 (cN x9 y9 (cN x8 y8 (cN x7 y7 (cN x6 y6 (cN x5 y5 (cN x4 y4 (cN x3 y3 (cN x2 y2 (cN x1 y1 (cN x0 y0 (0 : Int)))))))))))), dN x12 y12 (cN x11 y11 (cN x10 y10 (cN x9 y9 (cN x8 y8 (cN x7 y7 (cN x6 y6 (cN x5 y5 (cN x4 y4 (cN x3 y3 (cN x2 y2 (cN x1 y1 (cN x0 y0 (0 : Int))))))))))))), dN x13 y13 (cN x12 y12 (cN x11 y11 (cN x10 y10 (cN x9 y9 (cN x8 y8 (cN x7 y7 (cN x6 y6 (cN x5 y5 (cN x4 y4 (cN x3 y3 (cN x2 y2 (cN x1 y1 (cN x0 y0 (0 : Int)))))))))))))), dN x14 y14 (cN x13 y13 (cN x12 y12 (cN x11 y11 (cN x10 y10 (cN x9 y9 (cN x8 y8 (cN x7 y7 (cN x6 y6 (cN x5 y5 (cN x4 y4 (cN x3 y3 (cN x2 y2 (cN x1 y1 (cN x0 y0 (0 : Int))))))))))))))), dN x15 y15 (cN x14 y14 (cN x13 y13 (cN x12 y12 (cN x11 y11 (cN x10 y10 (cN x9 y9 (cN x8 y8 (cN x7 y7 (cN x6 y6 (cN x5 y5 (cN x4 y4 (cN x3 y3 (cN x2 y2 (cN x1 y1 (cN x0 y0 (0 : Int)))))))))))))))))) fun r2 => some (r2, (0 : Int))) = _
  obtain ⟨k0, g0, z0⟩ := digit x0 y0 (0 : Int) b0 d0 (by omega)
  generalize cN x0 y0 (0 : Int) = c0 at *
  generalize dN x0 y0 (0 : Int) = t0 at *
  obtain ⟨k1, g1, z1⟩ := digit x1 y1 c0 b1 d1 (by omega)
  generalize cN x1 y1 c0 = c1 at *
  generalize dN x1 y1 c0 = t1 at *
  obtain ⟨k2, g2, z2⟩ := digit x2 y2 c1 b2 d2 (by omega)
  generalize cN x2 y2 c1 = c2 at *
  generalize dN x2 y2 c1 = t2 at *
  obtain ⟨k3, g3, z3⟩ := digit x3 y3 c2 b3 d3 (by omega)
  generalize cN x3 y3 c2 = c3 at *
  generalize dN x3 y3 c2 = t3 at *
  obtain ⟨k4, g4, z4⟩ := digit x4 y4 c3 b4 d4 (by omega)
  generalize cN x4 y4 c3 = c4 at *
  generalize dN x4 y4 c3 = t4 at *
  obtain ⟨k5, g5, z5⟩ := digit x5 y5 c4 b5 d5 (by omega)
  generalize cN x5 y5 c4 = c5 at *
  generalize dN x5 y5 c4 = t5 at *
  obtain ⟨k6, g6, z6⟩ := digit x6 y6 c5 b6 d6 (by omega)
  generalize cN x6 y6 c5 = c6 at *
  generalize dN x6 y6 c5 = t6 at *
  obtain ⟨k7, g7, z7⟩ := digit x7 y7 c6 b7 d7 (by omega)
  generalize cN x7 y7 c6 = c7 at *
  generalize dN x7 y7 c6 = t7 at *
  obtain ⟨k8, g8, z8⟩ := digit x8 y8 c7 b8 d8 (by omega)
  generalize cN x8 y8 c7 = c8 at *
  generalize dN x8 y8 c7 = t8 at *
  obtain ⟨k9, g9, z9⟩ := digit x9 y9 c8 b9 d9 (by omega)
  generalize cN x9 y9 c8 = c9 at *
  generalize dN x9 y9 c8 = t9 at *
  obtain ⟨k10, g10, z10⟩ := digit x10 y10 c9 b10 d10 (by omega)
  generalize cN x10 y10 c9 = c10 at *
  generalize dN x10 y10 c9 = t10 at *
  obtain ⟨k11, g11, z11⟩ := digit x11 y11 c10 b11 d11 (by omega)
  generalize cN x11 y11 c10 = c11 at *
  generalize dN x11 y11 c10 = t11 at *
  obtain ⟨k12, g12, z12⟩ := digit x12 y12 c11 b12 d12 (by omega)
  generalize cN x12 y12 c11 = c12 at *
  generalize dN x12 y12 c11 = t12 at *
  obtain ⟨k13, g13, z13⟩ := digit x13 y13 c12 b13 d13 (by omega)
  generalize cN x13 y13 c12 = c13 at *
  generalize dN x13 y13 c12 = t13 at *
  obtain ⟨k14, g14, z14⟩ := digit x14 y14 c13 b14 d14 (by omega)
  generalize cN x14 y14 c13 = c14 at *
  generalize dN x14 y14 c13 = t14 at *
  obtain ⟨k15, g15, z15⟩ := digit x15 y15 c14 b15 d15 (by omega)
  generalize cN x15 y15 c14 = c15 at *
  generalize dN x15 y15 c14 = t15 at *
  rw [r01_of n g0 g1 g2 g3 g4 g5 g6 g7 g8 g9 g10 g11 g12 g13 g14 g15]
  simp only [tif_dec, obind_some]
  have e : wv a + wv b = c15 * 340282366920938463463374607431768211456 + ((t8 + t9 * 256 + t10 * 65536 + t11 * 16777216 + t12 * 4294967296 + t13 * 1099511627776 + t14 * 281474976710656 + t15 * 72057594037927936) * 18446744073709551616 + (t0 + t1 * 256 + t2 * 65536 + t3 * 16777216 + t4 * 4294967296 + t5 * 1099511627776 + t6 * 281474976710656 + t7 * 72057594037927936)) := by
    simp only [wv]; omega
  have r1 : 0 ≤ t8 + t9 * 256 + t10 * 65536 + t11 * 16777216 + t12 * 4294967296 + t13 * 1099511627776 + t14 * 281474976710656 + t15 * 72057594037927936 ∧ t8 + t9 * 256 + t10 * 65536 + t11 * 16777216 + t12 * 4294967296 + t13 * 1099511627776 + t14 * 281474976710656 + t15 * 72057594037927936 ≤ 18446744073709551615 := by simp only [Byt] at *; omega
  have r2 : 0 ≤ t0 + t1 * 256 + t2 * 65536 + t3 * 16777216 + t4 * 4294967296 + t5 * 1099511627776 + t6 * 281474976710656 + t7 * 72057594037927936 ∧ t0 + t1 * 256 + t2 * 65536 + t3 * 16777216 + t4 * 4294967296 + t5 * 1099511627776 + t6 * 281474976710656 + t7 * 72057594037927936 ≤ 18446744073709551615 := by simp only [Byt] at *; omega
  generalize t8 + t9 * 256 + t10 * 65536 + t11 * 16777216 + t12 * 4294967296 + t13 * 1099511627776 + t14 * 281474976710656 + t15 * 72057594037927936 = hi at *
  generalize t0 + t1 * 256 + t2 * 65536 + t3 * 16777216 + t4 * 4294967296 + t5 * 1099511627776 + t6 * 281474976710656 + t7 * 72057594037927936 = lo at *
  clear va va' vb vb'
  unfold addW
  by_cases hc : (0 : Int) < c15
  · rw [if_pos hc, if_neg (by omega)]
  · rw [if_neg hc, if_pos (by omega)]
    simp only [mkW]
    refine congrArg (fun z => some (z, (0 : Int))) (Prod.ext ?_ ?_)
    · simp only; omega
    · simp only; omega
end Go.Proofs.YthjnbidgliejkaaGreat
