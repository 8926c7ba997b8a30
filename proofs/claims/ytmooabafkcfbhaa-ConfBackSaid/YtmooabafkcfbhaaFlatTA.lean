/-
  Soundness of the flat reading, nineteenth part: append, as the model has it.
-/
import Derived.Test.YtmooabafkcfbhaaFlatT9
namespace Go.Flat
open Go.RowKit (Below)

section
variable {P : Program} {W W' : World}

/-- what is appended -/
structure Src (P : Program) (W : World) (size : Nat) (x : Value) (m : Nat) (news : List Value) : Prop where
  len : Builtin.lenOf x = pure m
  cells : ∀ w' : World, (∀ a, w'.cell? a = W.cell? a) → (Builtin.firstCells size m x).run P w' = .ok news.toArray w'
  size : news.length = m * size
  one : ∀ u ∈ news, u.oneCell' = true

/-- no count of zeros -/
def NoZeros (P : Program) (ts : Array TypeId) : Prop := ∀ u, ts[1]? = some u → (∃ e, P.underlying u = some (.slice e)) ∨ P.underlying u = some .string

theorem run_app_fits {ts : Array TypeId} {t ty e : TypeId} {i : TypeInfo} {x : Value} {m n cap : Nat} {news : List Value} {b : Option Addr}
    (ht0 : ts[0]? = some t) (ht1 : NoZeros P ts) (ht : P.underlying t = some (.slice e)) (hi : P.info? e = some i) (hx : Src P W i.size x m news) (hfit : n + m ≤ cap)
    (hst : ∀ ad, b = some ad → (storeCells (ad.add (n * i.size)) news).run P W = .ok () W') (hb : b = none → W' = W) :
    (Builtin.append_ ts ty #[.slice b n cap, x]).run P W = .ok (.slice b (n + m) cap) W' := by
  have hc := hx.cells W (fun _ => rfl)
  cases hu : ts[1]? with
  | none =>
    cases b with
    | none => simp [Builtin.append_, ht0, hu, run_underlying ht, sizeOf, typeInfo, hi, hx.len, hfit, hc, hb rfl]
    | some ad => simp [Builtin.append_, ht0, hu, run_underlying ht, sizeOf, typeInfo, hi, hx.len, hfit, hc, hst ad rfl]
  | some u =>
    rcases ht1 u hu with ⟨e', hd⟩ | hd
    · cases b with
      | none => simp [Builtin.append_, ht0, hu, run_underlying ht, run_underlying hd, sizeOf, typeInfo, hi, hx.len, hfit, hc, hb rfl]
      | some ad => simp [Builtin.append_, ht0, hu, run_underlying ht, run_underlying hd, sizeOf, typeInfo, hi, hx.len, hfit, hc, hst ad rfl]
    · cases b with
      | none => simp [Builtin.append_, ht0, hu, run_underlying ht, run_underlying hd, sizeOf, typeInfo, hi, hx.len, hfit, hc, hb rfl]
      | some ad => simp [Builtin.append_, ht0, hu, run_underlying ht, run_underlying hd, sizeOf, typeInfo, hi, hx.len, hfit, hc, hst ad rfl]

/-- the row that is new where there is no room -/
def grownRow (W : World) (z : Array Value) (olds news : List Value) (need old : Nat) (e : TypeId) : Array Value :=
  olds.toArray ++ news.toArray ++ Builtin.zeroCells z (grownCap W need old e - need)

theorem run_app_grows {ts : Array TypeId} {t ty e : TypeId} {i : TypeInfo} {z : Value} {x : Value} {m n cap : Nat} {olds news : List Value} {b : Option Addr}
    (ht0 : ts[0]? = some t) (ht1 : NoZeros P ts) (ht : P.underlying t = some (.slice e)) (hi : P.info? e = some i) (hz : i.zero = some z) (hx : Src P W i.size x m news) (hg : cap < n + m)
    (hbyt : 0 < i.bytes) (hbytes : (n + m) * i.bytes ≤ 140737488355328)
    (hold : ∀ w' : World, (∀ a, w'.cell? a = W.cell? a) → (Builtin.firstCells i.size n (.slice b n cap)).run P w' = .ok olds.toArray w') :
    (Builtin.append_ ts ty #[.slice b n cap, x]).run P W =
      .ok (.slice (some ⟨W.heap.size, 0, none⟩) (n + m) (grownCap W (n + m) cap e)) (W.drew.alloc (.cells (grownRow W z.cells olds news (n + m) cap e) e)) := by
  have hn : ¬ (n + m ≤ cap) := by omega
  have hc := hx.cells W.drew (fun _ => rfl)
  have ho := hold W.drew (fun _ => rfl)
  have h1 : n + m ≤ (n + m) * i.bytes := Nat.le_mul_of_pos_right _ hbyt
  have h63 : ¬ (9223372036854775807 < ((n : Int) + (m : Int))) := by omega
  have hb0 : i.bytes ≠ 0 := by omega
  have h48 : ¬ (281474976710656 < Builtin.nextslicecap (n + m) cap * i.bytes) := by
    have := growslice_fits hg hbytes
    omega
  have hkey : (olds ++ news).toArray = olds.toArray ++ news.toArray := by simp
  cases hu : ts[1]? with
  | none =>
    simp [Builtin.append_, ht0, hu, run_underlying ht, sizeOf, typeInfo, zeroValue, hi, hz, hx.len, hn, h63, hb0, h48, hc, ho, Question.forced, newRow, grownCap, grownRow]
    rw [hkey, Array.append_assoc]
  | some u =>
    rcases ht1 u hu with ⟨e', hd⟩ | hd
    · simp [Builtin.append_, ht0, hu, run_underlying ht, run_underlying hd, sizeOf, typeInfo, zeroValue, hi, hz, hx.len, hn, h63, hb0, h48, hc, ho, Question.forced, newRow, grownCap, grownRow]
      rw [hkey, Array.append_assoc]
    · simp [Builtin.append_, ht0, hu, run_underlying ht, run_underlying hd, sizeOf, typeInfo, zeroValue, hi, hz, hx.len, hn, h63, hb0, h48, hc, ho, Question.forced, newRow, grownCap, grownRow]
      rw [hkey, Array.append_assoc]

end
end Go.Flat
