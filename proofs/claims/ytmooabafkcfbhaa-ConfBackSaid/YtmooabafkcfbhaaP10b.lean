/-
  Configurations: their bytes, and what is read of bytes.
-/
import Derived.Test.YtmooabafkcfbhaaP10
namespace Go.Proofs.Ytmooabafkcfbhaa
open Go.Flat

/-- a configuration's bytes, as numbers -/
def bts (c : Conf) : List Int :=
  beI 4 c.1 ++ (beI 8 c.2.1.1 ++ (beI 8 c.2.1.2.1 ++ (beI 8 c.2.1.2.2 ++ (beI 4 c.2.2.1.1 ++ (beI 4 c.2.2.1.2.1 ++ (beI 4 c.2.2.1.2.2 ++ (beI 4 c.2.2.2.1 ++ (beI 4 c.2.2.2.2 ++ beI 8 0))))))))
theorem bts_length (c : Conf) : (bts c).length = 56 := by simp [bts, beI_length]
theorem bts_range (c : Conf) : ∀ x ∈ bts c, 0 ≤ x ∧ x ≤ 255 := by
  intro x hx
  simp only [bts, List.mem_append] at hx
  rcases hx with h | h | h | h | h | h | h | h | h | h <;> exact beI_range _ _ x h

theorem bytes_ok (n : Nat) {c : Conf} (h : OkC c) : conf_Bytes (n + 4) c = some (toB (bts c)) := by
  rw [conf_Bytes_eq, check_ok n h]
  obtain ⟨⟨raw, cap, log, w0, w1, w2, n0, n1, n2⟩, _⟩ := h
  simp only [obind_some, tif_dec, tif_not]
  rw [if_pos trivial]
  rw [wu64 (x := c.1) (by omega) (by omega), wu64 (x := c.2.1.1) (by omega) (by omega), wu64 (x := c.2.1.2.1) (by omega) (by omega), wu64 (x := c.2.1.2.2) (by omega) (by omega), wu64 (x := c.2.2.1.1) (by omega) (by omega),
    wu64 (x := c.2.2.1.2.1) (by omega) (by omega), wu64 (x := c.2.2.1.2.2) (by omega) (by omega), wu64 (x := c.2.2.2.1) (by omega) (by omega), wu64 (x := c.2.2.2.2) (by omega) (by omega)]
  rw [writer_fixed _ _ 4 4 _ rfl (by omega) (by omega) (by simp)]
  simp only [obind_some]
  rw [writer_fixed _ _ 8 8 _ rfl (by omega) (by omega) (by simp [beI_length])]
  simp only [obind_some]
  rw [writer_fixed _ _ 8 8 _ rfl (by omega) (by omega) (by simp [beI_length])]
  simp only [obind_some]
  rw [writer_fixed _ _ 8 8 _ rfl (by omega) (by omega) (by simp [beI_length])]
  simp only [obind_some]
  rw [writer_fixed _ _ 4 4 _ rfl (by omega) (by omega) (by simp [beI_length])]
  simp only [obind_some]
  rw [writer_fixed _ _ 4 4 _ rfl (by omega) (by omega) (by simp [beI_length])]
  simp only [obind_some]
  rw [writer_fixed _ _ 4 4 _ rfl (by omega) (by omega) (by simp [beI_length])]
  simp only [obind_some]
  rw [writer_fixed _ _ 4 4 _ rfl (by omega) (by omega) (by simp [beI_length])]
  simp only [obind_some]
  rw [writer_fixed _ _ 4 4 _ rfl (by omega) (by omega) (by simp [beI_length])]
  simp only [obind_some]
  rw [writer_fixed _ _ 8 8 _ rfl (by omega) (by omega) (by simp [beI_length])]
  simp only [obind_some]
  rw [codec_Writer_Out_eq]
  simp only [obind_some, List.nil_append, List.append_assoc]
  rfl
theorem bytes_no (n : Nat) {c : Conf} (h : ¬ OkC c) : conf_Bytes (n + 4) c = some [] := by
  rw [conf_Bytes_eq, check_no n h]
  rfl

theorem zeros8 : toB (beI 8 0) = ((0 : UInt8) :: ((0 : UInt8) :: ((0 : UInt8) :: ((0 : UInt8) :: ((0 : UInt8) :: ((0 : UInt8) :: ((0 : UInt8) :: ((0 : UInt8) :: [])))))))) := by decide

theorem r10_bytes_ok (n : Nat) {c : Conf} (h : OkC c) : r10_Bytes (n + 4) c = some (toB (bts c)) := by
  rw [r10_Bytes_eq, r10_check_ok n h]
  obtain ⟨⟨raw, cap, log, w0, w1, w2, n0, n1, n2⟩, _⟩ := h
  simp only [obind_some, tif_dec, tif_not]
  rw [if_pos trivial]
  rw [wu64 (x := c.1) (by omega) (by omega), wu64 (x := c.2.1.1) (by omega) (by omega), wu64 (x := c.2.1.2.1) (by omega) (by omega), wu64 (x := c.2.1.2.2) (by omega) (by omega), wu64 (x := c.2.2.1.1) (by omega) (by omega),
    wu64 (x := c.2.2.1.2.1) (by omega) (by omega), wu64 (x := c.2.2.1.2.2) (by omega) (by omega), wu64 (x := c.2.2.2.1) (by omega) (by omega), wu64 (x := c.2.2.2.2) (by omega) (by omega)]
  rw [r03_fixed _ 4 4 _ rfl (by omega) (by omega) (by omega) (by omega)]
  simp only [obind_some]
  rw [r03_fixed _ 8 8 _ rfl (by omega) (by omega) (by omega) (by omega)]
  simp only [obind_some]
  rw [if_pos (by simp [toB_length, beI_length]), r03_fixed _ 8 8 _ rfl (by omega) (by omega) (by omega) (by omega)]
  simp only [obind_some]
  rw [if_pos (by simp [toB_length, beI_length]), r03_fixed _ 8 8 _ rfl (by omega) (by omega) (by omega) (by omega)]
  simp only [obind_some]
  rw [if_pos (by simp [toB_length, beI_length]), r03_fixed _ 4 4 _ rfl (by omega) (by omega) (by omega) (by omega)]
  simp only [obind_some]
  rw [if_pos (by simp [toB_length, beI_length]), r03_fixed _ 4 4 _ rfl (by omega) (by omega) (by omega) (by omega)]
  simp only [obind_some]
  rw [if_pos (by simp [toB_length, beI_length]), r03_fixed _ 4 4 _ rfl (by omega) (by omega) (by omega) (by omega)]
  simp only [obind_some]
  rw [if_pos (by simp [toB_length, beI_length]), r03_fixed _ 4 4 _ rfl (by omega) (by omega) (by omega) (by omega)]
  simp only [obind_some]
  rw [if_pos (by simp [toB_length, beI_length]), r03_fixed _ 4 4 _ rfl (by omega) (by omega) (by omega) (by omega)]
  simp only [obind_some]
  rw [if_pos (by simp [toB_length, beI_length]), if_pos (by simp [toB_length, beI_length]), ← zeros8]
  simp only [bts, toB_append, List.append_assoc]
theorem r10_bytes_no (n : Nat) {c : Conf} (h : ¬ OkC c) : r10_Bytes (n + 4) c = some [] := by
  rw [r10_Bytes_eq, r10_check_no n h]
  rfl

/-! ### reading -/
theorem rd_of (k : Nat) (v : Int) (t : List UInt8) : rd (toB (beI k v) ++ t, false) k = (v % 256 ^ k, (t, false)) := by
  have hl : (toB (beI k v)).length = k := by rw [toB_length, beI_length]
  unfold rd
  rw [if_neg (by simp [hl])]
  have h1 : (toB (beI k v) ++ t).take k = toB (beI k v) := by rw [List.take_append_of_le_length (by omega), List.take_of_length_le (by omega)]
  have h2 : (toB (beI k v) ++ t).drop k = t := by rw [List.drop_append_of_le_length (by omega), List.drop_of_length_le (by omega)]; rfl
  rw [h1, h2, bytesI_toB (beI_range v k), val_be]
theorem rd_good {st : List UInt8 × Bool} {k : Nat} (h : (rd st k).2.2 = false) : st.2 = false ∧ st.1 = toB (beI k (rd st k).1) ++ (rd st k).2.1 ∧ 0 ≤ (rd st k).1 ∧ (rd st k).1 < 256 ^ k := by
  unfold rd at h ⊢
  split at h
  · cases h
  · rename_i hn
    rw [if_neg hn]
    simp only [not_or, Nat.not_lt, Bool.not_eq_true] at hn
    have hl : (bytesI (st.1.take k)).length = k := by rw [bytesI_length, List.length_take]; omega
    have hv := val_range (bytesI_range (st.1.take k))
    rw [hl] at hv
    refine ⟨hn.1, ?_, hv⟩
    dsimp only
    rw [be_of_val (bytesI_range _) hl, toB_bytesI, List.take_append_drop]
theorem rd_range (st : List UInt8 × Bool) (k : Nat) : 0 ≤ (rd st k).1 ∧ (rd st k).1 < 256 ^ k := by
  cases h : (rd st k).2.2 with
  | false => exact (rd_good h).2.2
  | true =>
    unfold rd at h ⊢
    split
    · exact ⟨by simp, Int.pow_pos (by decide)⟩
    · rename_i hn; rw [if_neg hn] at h; cases h

def q0 (s : List UInt8) := rd (s, false) 4
def q1 (s : List UInt8) := rd (q0 s).2 8
def q2 (s : List UInt8) := rd (q1 s).2 8
def q3 (s : List UInt8) := rd (q2 s).2 8
def q4 (s : List UInt8) := rd (q3 s).2 4
def q5 (s : List UInt8) := rd (q4 s).2 4
def q6 (s : List UInt8) := rd (q5 s).2 4
def q7 (s : List UInt8) := rd (q6 s).2 4
def q8 (s : List UInt8) := rd (q7 s).2 4
def q9 (s : List UInt8) := rd (q8 s).2 8
def cfg (s : List UInt8) : Conf := (IntKind.wrap .i64 (q0 s).1, ((IntKind.wrap .i64 (q1 s).1, (IntKind.wrap .i64 (q2 s).1, IntKind.wrap .i64 (q3 s).1)), ((IntKind.wrap .i64 (q4 s).1, (IntKind.wrap .i64 (q5 s).1, IntKind.wrap .i64 (q6 s).1)), (IntKind.wrap .i64 (q7 s).1, IntKind.wrap .i64 (q8 s).1))))
def cfg0 : Conf := (0, ((0, (0, 0)), ((0, (0, 0)), (0, 0))))
/-- the bytes are just a configuration's -/
structure Full (s : List UInt8) : Prop where
  z : (q9 s).1 = 0
  good : (q9 s).2.2 = false
  left : (q9 s).2.1 = []

theorem wrap_pos {v w : Int} (h0 : 0 ≤ v) (h1 : v < 18446744073709551616) (hw : IntKind.wrap .i64 v = w) (hp : 1 ≤ w) : v = w := by
  rw [IntKind.wrap_i64] at hw
  omega

theorem full_bytes {s : List UInt8} (hr : Rng (cfg s)) (h : Full s) : toB (bts (cfg s)) = s := by
  have g9 := rd_good h.good
  have g8 := rd_good g9.1
  have g7 := rd_good g8.1
  have g6 := rd_good g7.1
  have g5 := rd_good g6.1
  have g4 := rd_good g5.1
  have g3 := rd_good g4.1
  have g2 := rd_good g3.1
  have g1 := rd_good g2.1
  have g0 := rd_good g1.1
  have e0 : s = toB (beI 4 (q0 s).1) ++ (q0 s).2.1 := g0.2.1
  have e1 : (q0 s).2.1 = toB (beI 8 (q1 s).1) ++ (q1 s).2.1 := g1.2.1
  have e2 : (q1 s).2.1 = toB (beI 8 (q2 s).1) ++ (q2 s).2.1 := g2.2.1
  have e3 : (q2 s).2.1 = toB (beI 8 (q3 s).1) ++ (q3 s).2.1 := g3.2.1
  have e4 : (q3 s).2.1 = toB (beI 4 (q4 s).1) ++ (q4 s).2.1 := g4.2.1
  have e5 : (q4 s).2.1 = toB (beI 4 (q5 s).1) ++ (q5 s).2.1 := g5.2.1
  have e6 : (q5 s).2.1 = toB (beI 4 (q6 s).1) ++ (q6 s).2.1 := g6.2.1
  have e7 : (q6 s).2.1 = toB (beI 4 (q7 s).1) ++ (q7 s).2.1 := g7.2.1
  have e8 : (q7 s).2.1 = toB (beI 4 (q8 s).1) ++ (q8 s).2.1 := g8.2.1
  have e9 : (q8 s).2.1 = toB (beI 8 (q9 s).1) ++ (q9 s).2.1 := g9.2.1
  have p4 : (256 : Int) ^ 4 = 4294967296 := by decide
  have p8 : (256 : Int) ^ 8 = 18446744073709551616 := by decide
  have r0 := rd_range (s, false) 4
  have r1 := rd_range (q0 s).2 8
  have r2 := rd_range (q1 s).2 8
  have r3 := rd_range (q2 s).2 8
  have r4 := rd_range (q3 s).2 4
  have r5 := rd_range (q4 s).2 4
  have r6 := rd_range (q5 s).2 4
  have r7 := rd_range (q6 s).2 4
  have r8 := rd_range (q7 s).2 4
  rw [p4] at r0 r4 r5 r6 r7 r8
  rw [p8] at r1 r2 r3
  have v0 : (q0 s).1 = (cfg s).1 := wrap_pos r0.1 (Int.lt_trans r0.2 (by decide)) rfl hr.raw.1
  have v1 : (q1 s).1 = (cfg s).2.1.1 := wrap_pos r1.1 r1.2 rfl hr.w0.1
  have v2 : (q2 s).1 = (cfg s).2.1.2.1 := wrap_pos r2.1 r2.2 rfl hr.w1.1
  have v3 : (q3 s).1 = (cfg s).2.1.2.2 := wrap_pos r3.1 r3.2 rfl hr.w2.1
  have v4 : (q4 s).1 = (cfg s).2.2.1.1 := wrap_pos r4.1 (Int.lt_trans r4.2 (by decide)) rfl hr.n0.1
  have v5 : (q5 s).1 = (cfg s).2.2.1.2.1 := wrap_pos r5.1 (Int.lt_trans r5.2 (by decide)) rfl hr.n1.1
  have v6 : (q6 s).1 = (cfg s).2.2.1.2.2 := wrap_pos r6.1 (Int.lt_trans r6.2 (by decide)) rfl hr.n2.1
  have v7 : (q7 s).1 = (cfg s).2.2.2.1 := wrap_pos r7.1 (Int.lt_trans r7.2 (by decide)) rfl hr.cap.1
  have v8 : (q8 s).1 = (cfg s).2.2.2.2 := wrap_pos r8.1 (Int.lt_trans r8.2 (by decide)) rfl hr.log.1
  rw [v0, e1, v1, e2, v2, e3, v3, e4, v4, e5, v5, e6, v6, e7, v7, e8, v8, e9, h.z, h.left] at e0
  generalize cfg s = c at *
  rw [e0]
  simp only [bts, toB_append, List.append_nil]

theorem cfg_bytes {c : Conf} (hr : Rng c) : cfg (toB (bts c)) = c ∧ Full (toB (bts c)) := by
  obtain ⟨raw, cap, log, w0, w1, w2, n0, n1, n2⟩ := hr
  have p4 : (256 : Int) ^ 4 = 4294967296 := by decide
  have p8 : (256 : Int) ^ 8 = 18446744073709551616 := by decide
  have e : toB (bts c) = toB (beI 4 c.1) ++ (toB (beI 8 c.2.1.1) ++ (toB (beI 8 c.2.1.2.1) ++ (toB (beI 8 c.2.1.2.2) ++ (toB (beI 4 c.2.2.1.1) ++ (toB (beI 4 c.2.2.1.2.1) ++ (toB (beI 4 c.2.2.1.2.2) ++ (toB (beI 4 c.2.2.2.1) ++ (toB (beI 4 c.2.2.2.2) ++ (toB (beI 8 0) ++ []))))))))) := by
    simp only [bts, toB_append, List.append_nil]
  rw [e]
  generalize hs : toB (beI 4 c.1) ++ _ = s
  have a0 : q0 s = (c.1, (toB (beI 8 c.2.1.1) ++ (toB (beI 8 c.2.1.2.1) ++ (toB (beI 8 c.2.1.2.2) ++ (toB (beI 4 c.2.2.1.1) ++ (toB (beI 4 c.2.2.1.2.1) ++ (toB (beI 4 c.2.2.1.2.2) ++ (toB (beI 4 c.2.2.2.1) ++ (toB (beI 4 c.2.2.2.2) ++ (toB (beI 8 0) ++ [])))))))), false)) := by
    unfold q0; rw [← hs, rd_of, p4, Int.emod_eq_of_lt (by omega) (by omega)]
  have a1 : q1 s = (c.2.1.1, (toB (beI 8 c.2.1.2.1) ++ (toB (beI 8 c.2.1.2.2) ++ (toB (beI 4 c.2.2.1.1) ++ (toB (beI 4 c.2.2.1.2.1) ++ (toB (beI 4 c.2.2.1.2.2) ++ (toB (beI 4 c.2.2.2.1) ++ (toB (beI 4 c.2.2.2.2) ++ (toB (beI 8 0) ++ []))))))), false)) := by
    unfold q1; rw [a0, rd_of, p8, Int.emod_eq_of_lt (by omega) (by omega)]
  have a2 : q2 s = (c.2.1.2.1, (toB (beI 8 c.2.1.2.2) ++ (toB (beI 4 c.2.2.1.1) ++ (toB (beI 4 c.2.2.1.2.1) ++ (toB (beI 4 c.2.2.1.2.2) ++ (toB (beI 4 c.2.2.2.1) ++ (toB (beI 4 c.2.2.2.2) ++ (toB (beI 8 0) ++ [])))))), false)) := by
    unfold q2; rw [a1, rd_of, p8, Int.emod_eq_of_lt (by omega) (by omega)]
  have a3 : q3 s = (c.2.1.2.2, (toB (beI 4 c.2.2.1.1) ++ (toB (beI 4 c.2.2.1.2.1) ++ (toB (beI 4 c.2.2.1.2.2) ++ (toB (beI 4 c.2.2.2.1) ++ (toB (beI 4 c.2.2.2.2) ++ (toB (beI 8 0) ++ []))))), false)) := by
    unfold q3; rw [a2, rd_of, p8, Int.emod_eq_of_lt (by omega) (by omega)]
  have a4 : q4 s = (c.2.2.1.1, (toB (beI 4 c.2.2.1.2.1) ++ (toB (beI 4 c.2.2.1.2.2) ++ (toB (beI 4 c.2.2.2.1) ++ (toB (beI 4 c.2.2.2.2) ++ (toB (beI 8 0) ++ [])))), false)) := by
    unfold q4; rw [a3, rd_of, p4, Int.emod_eq_of_lt (by omega) (by omega)]
  have a5 : q5 s = (c.2.2.1.2.1, (toB (beI 4 c.2.2.1.2.2) ++ (toB (beI 4 c.2.2.2.1) ++ (toB (beI 4 c.2.2.2.2) ++ (toB (beI 8 0) ++ []))), false)) := by
    unfold q5; rw [a4, rd_of, p4, Int.emod_eq_of_lt (by omega) (by omega)]
  have a6 : q6 s = (c.2.2.1.2.2, (toB (beI 4 c.2.2.2.1) ++ (toB (beI 4 c.2.2.2.2) ++ (toB (beI 8 0) ++ [])), false)) := by
    unfold q6; rw [a5, rd_of, p4, Int.emod_eq_of_lt (by omega) (by omega)]
  have a7 : q7 s = (c.2.2.2.1, (toB (beI 4 c.2.2.2.2) ++ (toB (beI 8 0) ++ []), false)) := by
    unfold q7; rw [a6, rd_of, p4, Int.emod_eq_of_lt (by omega) (by omega)]
  have a8 : q8 s = (c.2.2.2.2, (toB (beI 8 0) ++ [], false)) := by
    unfold q8; rw [a7, rd_of, p4, Int.emod_eq_of_lt (by omega) (by omega)]
  have a9 : q9 s = (0, ([], false)) := by
    unfold q9; rw [a8, rd_of, p8]; rfl
  refine ⟨?_, by rw [a9], by rw [a9], by rw [a9]⟩
  unfold cfg
  rw [a0, a1, a2, a3, a4, a5, a6, a7, a8]
  dsimp only
  rw [w64 (x := c.1) (by omega) (by omega), w64 (x := c.2.1.1) (by omega) (by omega), w64 (x := c.2.1.2.1) (by omega) (by omega), w64 (x := c.2.1.2.2) (by omega) (by omega), w64 (x := c.2.2.1.1) (by omega) (by omega),
    w64 (x := c.2.2.1.2.1) (by omega) (by omega), w64 (x := c.2.2.1.2.2) (by omega) (by omega), w64 (x := c.2.2.2.1) (by omega) (by omega), w64 (x := c.2.2.2.2) (by omega) (by omega)]

theorem read_step (n : Nat) (s : List UInt8) : conf_Read (n + 4) s =
    (if (q9 s).1 = 0 then tif (q9 s).2.2 (some (cfg0, 4)) (if (0 : Int) < (((q9 s).2.1.length : Nat) : Int) then some (cfg0, 4) else
      obind (conf_Check (n + 3) (cfg s)) fun r13 => if r13 = 0 then some (cfg s, 0) else some (cfg0, 4)) else some (cfg0, 4)) := by
  rw [conf_Read_eq, codec_Open_eq]
  simp only [obind_some]
  rw [reader_fixed n _ 4 4 rfl (by omega) (by omega)]
  simp only [obind_some]
  rw [reader_fixed n _ 8 8 rfl (by omega) (by omega)]
  simp only [obind_some]
  rw [reader_fixed n _ 8 8 rfl (by omega) (by omega)]
  simp only [obind_some]
  rw [reader_fixed n _ 8 8 rfl (by omega) (by omega)]
  simp only [obind_some]
  rw [reader_fixed n _ 4 4 rfl (by omega) (by omega)]
  simp only [obind_some]
  rw [reader_fixed n _ 4 4 rfl (by omega) (by omega)]
  simp only [obind_some]
  rw [reader_fixed n _ 4 4 rfl (by omega) (by omega)]
  simp only [obind_some]
  rw [reader_fixed n _ 4 4 rfl (by omega) (by omega)]
  simp only [obind_some]
  rw [reader_fixed n _ 4 4 rfl (by omega) (by omega)]
  simp only [obind_some]
  rw [reader_fixed n _ 8 8 rfl (by omega) (by omega)]
  simp only [obind_some, codec_Reader_Bad_eq, codec_Reader_Left_eq, tif_dec, tif_not]
  rfl

theorem read_yes (n : Nat) {s : List UInt8} (h : OkC (cfg s)) (hf : Full s) : conf_Read (n + 4) s = some (cfg s, 0) := by
  rw [read_step, if_pos hf.z, hf.good, hf.left, check_ok n h]
  rfl
theorem read_no (n : Nat) {s : List UInt8} (h : ¬ (OkC (cfg s) ∧ Full s)) : conf_Read (n + 4) s = some (cfg0, 4) := by
  rw [read_step]
  by_cases h1 : (q9 s).1 = 0
  case neg => rw [if_neg h1]
  rw [if_pos h1]
  cases h2 : (q9 s).2.2 with
  | true => rfl
  | false =>
    simp only [tif_false]
    by_cases h3 : (q9 s).2.1 = []
    · rw [h3]
      have hno : ¬ OkC (cfg s) := fun hc => h ⟨hc, h1, h2, h3⟩
      rw [check_no n hno]
      rfl
    · rw [if_pos]
      have : 0 < (q9 s).2.1.length := List.length_pos_iff.2 h3
      omega

theorem r10_read_step (n : Nat) (s : List UInt8) : r10_Read (n + 5) s =
    obind (r10_Check (n + 4) (cfg s)) fun r9 => if r9 = 0 then obind (r10_Bytes (n + 4) (cfg s)) fun r10 => tif (r10 == s) (some (cfg s, 0)) (some (cfg0, 4)) else some (cfg0, 4) := by
  rw [r10_Read_eq]
  rw [r03_reader_fixed (n + 2) _ 4 4 rfl (by omega) (by omega)]
  simp only [obind_some]
  rw [r03_reader_fixed (n + 2) _ 8 8 rfl (by omega) (by omega)]
  simp only [obind_some]
  rw [r03_reader_fixed (n + 2) _ 8 8 rfl (by omega) (by omega)]
  simp only [obind_some]
  rw [r03_reader_fixed (n + 2) _ 8 8 rfl (by omega) (by omega)]
  simp only [obind_some]
  rw [r03_reader_fixed (n + 2) _ 4 4 rfl (by omega) (by omega)]
  simp only [obind_some]
  rw [r03_reader_fixed (n + 2) _ 4 4 rfl (by omega) (by omega)]
  simp only [obind_some]
  rw [r03_reader_fixed (n + 2) _ 4 4 rfl (by omega) (by omega)]
  simp only [obind_some]
  rw [r03_reader_fixed (n + 2) _ 4 4 rfl (by omega) (by omega)]
  simp only [obind_some]
  rw [r03_reader_fixed (n + 2) _ 4 4 rfl (by omega) (by omega)]
  simp only [obind_some, tif_dec, tif_not]
  rfl

theorem r10_read_yes (n : Nat) {s : List UInt8} (h : OkC (cfg s)) (hf : Full s) : r10_Read (n + 5) s = some (cfg s, 0) := by
  rw [r10_read_step, r10_check_ok (n + 1) h]
  simp only [obind_some]
  rw [if_pos trivial, r10_bytes_ok n h, full_bytes h.rng hf]
  simp
theorem r10_read_no (n : Nat) {s : List UInt8} (h : ¬ (OkC (cfg s) ∧ Full s)) : r10_Read (n + 5) s = some (cfg0, 4) := by
  rw [r10_read_step]
  by_cases hc : OkC (cfg s)
  · rw [r10_check_ok (n + 1) hc]
    simp only [obind_some]
    rw [if_pos trivial, r10_bytes_ok n hc]
    have hne : (toB (bts (cfg s)) == s) = false := by
      cases he : toB (bts (cfg s)) == s with
      | false => rfl
      | true =>
        exfalso
        have he := eq_of_beq he
        have := (cfg_bytes hc.rng).2
        rw [he] at this
        exact h ⟨hc, this⟩
    simp [hne]
  · rw [r10_check_no (n + 1) hc]
    rfl

end Go.Proofs.Ytmooabafkcfbhaa
