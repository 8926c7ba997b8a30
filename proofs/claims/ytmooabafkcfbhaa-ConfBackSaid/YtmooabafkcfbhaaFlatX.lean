/-
  Words for plain proofs over printed trees: tests, wraps, bytes of a number, loops.
-/
import Derived.Test.YtmooabafkcfbhaaFlatTW
import Derived.IntWalk
namespace Go.Flat

theorem tif_dec {α : Type} (p : Prop) [Decidable p] (x y : α) : tif (decide p) x y = if p then x else y := by
  by_cases h : p <;> simp [h]
theorem tif_not {α : Type} (b : Bool) (x y : α) : tif (!b) x y = tif b y x := by cases b <;> rfl
theorem tif_same {α : Type} (b : Bool) (x : α) : tif b x x = x := by cases b <;> rfl
theorem tif_and {α : Type} (a b : Bool) (x y : α) : tif (a && b) x y = tif a (tif b x y) y := by cases a <;> rfl
theorem obind_ite {α β : Type} (p : Prop) [Decidable p] (x y : Option α) (f : α → Option β) : obind (if p then x else y) f = if p then obind x f else obind y f := by
  by_cases h : p <;> simp [h]
theorem obind_id {α : Type} (x : Option α) : (obind x fun y => some y) = x := by cases x <;> rfl
theorem obind_of {α β : Type} {o : Option α} {x : α} (h : o = some x) (f : α → Option β) : obind o f = f x := by rw [h]; rfl

theorem w64 {x : Int} (h : -9223372036854775808 ≤ x) (h' : x ≤ 9223372036854775807) : IntKind.wrap .i64 x = x := IntWalk.i64_in x ⟨h, h'⟩
theorem wu64 {x : Int} (h : 0 ≤ x) (h' : x ≤ 18446744073709551615) : IntKind.wrap .u64 x = x := IntWalk.u64_in x ⟨h, h'⟩
theorem wu8 {x : Int} (h : 0 ≤ x) (h' : x ≤ 255) : IntKind.wrap .u8 x = x := IntWalk.u8_in x ⟨h, h'⟩
theorem wrap_u8_mod (x : Int) : IntKind.wrap .u8 x = x % 256 := IntKind.wrap_u8 x
theorem tdiv_nn {a b : Int} (h : 0 ≤ a) : Int.tdiv a b = a / b := Int.tdiv_eq_ediv_of_nonneg h
theorem tmod_nn {a b : Int} (h : 0 ≤ a) : Int.tmod a b = a % b := Int.tmod_eq_emod_of_nonneg h

/-- the last k bytes of a number, the highest first -/
def beI : Nat → Int → List Int
  | 0, _ => []
  | k + 1, n => (n / 256 ^ k) % 256 :: beI k n
theorem beI_length (n : Int) : ∀ k, (beI k n).length = k := by
  intro k
  induction k with
  | zero => rfl
  | succ k ih => simp [beI, ih]
theorem beI_range (n : Int) : ∀ k, ∀ x ∈ beI k n, 0 ≤ x ∧ x ≤ 255 := by
  intro k
  induction k with
  | zero => intro x hx; cases hx
  | succ k ih =>
    intro x hx
    rcases List.mem_cons.1 hx with rfl | hx
    · omega
    · exact ih x hx
/-- the number of bytes, the highest first -/
def valI (l : List Int) : Int := l.foldl (fun v b => v * 256 + b) 0
def bytesI (l : List UInt8) : List Int := l.map fun c => (c.toNat : Int)
theorem bytesI_range (l : List UInt8) : ∀ x ∈ bytesI l, 0 ≤ x ∧ x ≤ 255 := by
  intro x hx
  simp only [bytesI, List.mem_map] at hx
  obtain ⟨c, _, rfl⟩ := hx
  have := c.toNat_lt
  omega
def toB (l : List Int) : List UInt8 := l.map fun y => UInt8.ofNat (Int.toNat y)
theorem toB_bytesI (l : List UInt8) : toB (bytesI l) = l := by
  simp only [toB, bytesI, List.map_map]
  conv => rhs; rw [← List.map_id l]
  apply List.map_congr_left
  intro c _
  simp
theorem bytesI_toB {l : List Int} (h : ∀ x ∈ l, 0 ≤ x ∧ x ≤ 255) : bytesI (toB l) = l := by
  simp only [toB, bytesI, List.map_map]
  conv => rhs; rw [← List.map_id l]
  apply List.map_congr_left
  intro x hx
  obtain ⟨h1, h2⟩ := h x hx
  have e : (UInt8.ofNat x.toNat).toNat = x.toNat := by
    rw [UInt8.toNat_ofNat']
    omega
  simp only [Function.comp_apply, e, id]
  omega
theorem toB_inj {a b : List Int} (ha : ∀ x ∈ a, 0 ≤ x ∧ x ≤ 255) (hb : ∀ x ∈ b, 0 ≤ x ∧ x ≤ 255) (h : toB a = toB b) : a = b := by
  rw [← bytesI_toB ha, ← bytesI_toB hb, h]
theorem toB_append (a b : List Int) : toB (a ++ b) = toB a ++ toB b := by simp [toB]
theorem toB_length (a : List Int) : (toB a).length = a.length := by simp [toB]
theorem bytesI_length (a : List UInt8) : (bytesI a).length = a.length := by simp [bytesI]

theorem val_fold (l : List Int) : ∀ v, l.foldl (fun v b => v * 256 + b) v = v * 256 ^ l.length + valI l := by
  induction l with
  | nil => intro v; simp [valI]
  | cons x l ih =>
    intro v
    have h0 : valI (x :: l) = x * 256 ^ l.length + valI l := by
      show l.foldl _ (0 * 256 + x) = _
      rw [ih]; simp
    rw [List.foldl_cons, ih, h0, List.length_cons, Int.pow_succ]
    rw [Int.add_mul, Int.mul_assoc, Int.mul_comm 256 (256 ^ l.length), Int.add_assoc]
theorem val_cons (x : Int) (l : List Int) : valI (x :: l) = x * 256 ^ l.length + valI l := by
  show l.foldl _ (0 * 256 + x) = _
  rw [val_fold]; simp
theorem val_range {l : List Int} (h : ∀ x ∈ l, 0 ≤ x ∧ x ≤ 255) : 0 ≤ valI l ∧ valI l < 256 ^ l.length := by
  induction l with
  | nil => simp [valI]
  | cons x l ih =>
    have h1 := h x (by simp)
    have h2 := ih fun y hy => h y (by simp [hy])
    rw [val_cons, List.length_cons, Int.pow_succ]
    have hp : (0 : Int) < 256 ^ l.length := Int.pow_pos (by decide)
    constructor
    · have := Int.mul_nonneg h1.1 (Int.le_of_lt hp); omega
    · have : x * 256 ^ l.length ≤ 255 * 256 ^ l.length := Int.mul_le_mul_of_nonneg_right h1.2 (Int.le_of_lt hp)
      omega
/-- there and back -/
theorem be_val {l : List Int} (h : ∀ x ∈ l, 0 ≤ x ∧ x ≤ 255) : ∀ (hi : Int), beI l.length (hi * 256 ^ l.length + valI l) = l := by
  induction l with
  | nil => intro hi; rfl
  | cons x l ih =>
    intro hi
    have h1 := h x (by simp)
    have h2 := val_range (l := l) fun y hy => h y (List.mem_cons_of_mem _ hy)
    have hp : (0 : Int) < 256 ^ l.length := Int.pow_pos (by decide)
    have e : hi * 256 ^ (x :: l).length + valI (x :: l) = (hi * 256 + x) * 256 ^ l.length + valI l := by
      rw [val_cons, List.length_cons, Int.pow_succ, Int.add_mul, Int.mul_assoc, Int.mul_comm 256 (256 ^ l.length), Int.add_assoc]
    rw [e]
    simp only [List.length_cons, beI]
    congr 1
    · have : ((hi * 256 + x) * 256 ^ l.length + valI l) / 256 ^ l.length = hi * 256 + x := by
        rw [Int.add_comm, Int.add_mul_ediv_right _ _ (by omega), Int.ediv_eq_zero_of_lt h2.1 h2.2]
        omega
      rw [this]; omega
    · exact ih (fun y hy => h y (by simp [hy])) _
theorem be_of_val {l : List Int} (h : ∀ x ∈ l, 0 ≤ x ∧ x ≤ 255) {k : Nat} (hk : l.length = k) : beI k (valI l) = l := by
  subst hk
  have := be_val h 0
  simpa using this
theorem val_be (n : Int) : ∀ k, valI (beI k n) = n % 256 ^ k := by
  intro k
  induction k with
  | zero => simp [beI, valI]
  | succ k ih =>
    simp only [beI]
    rw [val_cons, beI_length, ih, Int.pow_succ]
    have hp : (0 : Int) < 256 ^ k := Int.pow_pos (by decide)
    generalize (256 : Int) ^ k = p at *
    have h1 := Int.mul_ediv_add_emod n p
    have h2 := Int.mul_ediv_add_emod (n / p) 256
    have h3 := Int.emod_nonneg n (show p ≠ 0 by omega)
    have h4 := Int.emod_lt_of_pos n hp
    have h5 := Int.emod_nonneg (n / p) (show (256 : Int) ≠ 0 by decide)
    have h6 := Int.emod_lt_of_pos (n / p) (show (0 : Int) < 256 by decide)
    have e : n = (p * 256) * ((n / p) / 256) + (n / p % 256 * p + n % p) := by
      have : p * (n / p) = p * (256 * (n / p / 256) + n / p % 256) := by rw [h2]
      rw [Int.mul_add] at this
      rw [Int.mul_assoc, Int.mul_comm (n / p % 256) p]
      omega
    have hr : 0 ≤ n / p % 256 * p + n % p ∧ n / p % 256 * p + n % p < p * 256 := by
      have a1 : 0 ≤ n / p % 256 * p := Int.mul_nonneg h5 (Int.le_of_lt hp)
      have a2 : n / p % 256 * p ≤ 255 * p := Int.mul_le_mul_of_nonneg_right (by omega) (Int.le_of_lt hp)
      omega
    generalize hq : n / p % 256 * p + n % p = q at *
    rw [e, Int.add_comm, Int.add_mul_emod_self_left, Int.emod_eq_of_lt hr.1 hr.2]

end Go.Flat
