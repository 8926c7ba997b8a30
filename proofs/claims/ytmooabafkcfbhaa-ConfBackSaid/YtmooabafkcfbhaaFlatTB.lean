/-
  Soundness of the flat reading, twentieth part: append.
-/
import Derived.Test.YtmooabafkcfbhaaFlatTA
namespace Go.Flat
open Go.RowKit (Below)

section
variable {cx : Cx} {call : Oracle cx} {fx : Hints} {W W' : World} {F F' : Fz} {E E' : EnvM} {h : Heap} {N : Nat → Prop} {ρ : Operand → V} {a : Act} {R : Type}

theorem RowRd.src {P : Program} {e : Ty} {xs : List (El e)} {v : Value} (hx : RowRd P W F e xs v) :
    ∃ news, Src P W (width e) v xs.length news ∧ ∀ i (h : i < xs.length), Rd P e xs[i] W F (fun j => news[i * width e + j]?) := by
  rcases hx.row with ⟨rfl, p, c, rfl⟩ | ⟨b, off, cap, rfl, hr⟩
  · refine ⟨[], ⟨rfl, fun w' _ => ?_, by simp, by simp⟩, fun i hi => by simp at hi⟩
    cases p with
    | none => simp [Builtin.firstCells]
    | some p => simp [Builtin.firstCells, loadCells, loadCellsFrom]
  · obtain ⟨us, h1, h2, h3, h4⟩ := rows_of hr
    refine ⟨us, ⟨rfl, fun w' hw => ?_, h1, h2⟩, h4⟩
    exact run_firstCells_some w' (width e) xs.length ⟨b, off, none⟩ xs.length cap us h1 fun j u hu => by
      rw [hw, addr_add]; exact h3 j u hu

theorem str_src {P : Program} (s : List UInt8) : Src P W 1 (.string ⟨s.toArray⟩) s.length (s.map fun c => Value.int .u8 (c.toNat : Int)) := by
  have hsz : (⟨s.toArray⟩ : ByteArray).size = s.length := size_mk s
  refine ⟨by simp [Builtin.lenOf, hsz], fun w' _ => ?_, by simp, fun u hu => ?_⟩
  · simp only [Builtin.firstCells, extract_mk]
    simp
  · simp only [List.mem_map] at hu
    obtain ⟨c, _, rfl⟩ := hu
    rfl

/-- other elements from a place on -/
theorem ArrAt.put {P : Program} {b cap : Nat} {e : Ty} {xs ys zs : List (El e)} {cs : Array Value} {T : TypeId} {news : List Value} {p : Nat} (hF : ¬ F b) (hg : W.heap[b]? = some (.cells cs T (0, 0))) (hsz : cs.size = cap * width e)
    (hcm : cap ≤ maxLen) (h1 : ∀ v ∈ cs.toList, v.oneCell' = true) (hx : ∀ i (h : i < xs.length), Rd P e xs[i] W F (fun j => cs[i * width e + j]?))
    (hn : news.length = ys.length * width e) (hn1 : ∀ u ∈ news, u.oneCell' = true) (hy : ∀ i (h : i < ys.length), Rd P e ys[i] W F (fun j => news[i * width e + j]?)) (hp : p ≤ xs.length) (hfit : p + ys.length ≤ cap)
    (hzl : zs.length ≤ cap) (hz : ∀ i (h : i < zs.length), (i < p ∧ ∃ h' : i < xs.length, zs[i] = xs[i]) ∨ (p ≤ i ∧ ∃ h' : i - p < ys.length, zs[i] = ys[i - p]) ∨ (p + ys.length ≤ i ∧ ∃ h' : i < xs.length, zs[i] = xs[i])) :
    ArrAt P (W.setRow b (putVals cs (p * width e) news)) F b cap e zs := by
  have hle : p * width e + news.length ≤ cs.size := by rw [hn, hsz, ← Nat.add_mul]; exact Nat.mul_le_mul_right _ hfit
  have hl : Later W F (W.setRow b (putVals cs (p * width e) news)) F := ⟨rfl, rfl, rfl, by simp, fun k hk => setRow_other W b k _ (fun e => hF (e ▸ hk)), fun _ hb => hb⟩
  refine ⟨_, T, setRow_heap W b cs _ T _ hg, by rw [size_put hle]; exact hsz, hzl, hcm, one_put h1 hn1, fun i hi => ?_⟩
  rcases hz i hi with ⟨k1, k2, k3⟩ | ⟨k1, k2, k3⟩ | ⟨k1, k2, k3⟩
  · rw [k3]
    refine Rd.congr e (fun q hq => ?_) ((hx i k2).later hl)
    rw [get_put hle, if_pos (row_lt k1 hq)]
  · rw [k3]
    refine Rd.congr e (fun q hq => ?_) ((hy _ k2).later hl)
    have e1 : i = p + (i - p) := by omega
    have e2 : i * width e = p * width e + (i - p) * width e := by rw [← Nat.add_mul]; congr 1
    have := row_lt (w := width e) k2 hq
    rw [get_put hle, if_neg (by omega), if_pos (by omega)]
    congr 1; omega
  · rw [k3]
    refine Rd.congr e (fun q hq => ?_) ((hx i k2).later hl)
    have : (p + ys.length) * width e ≤ i * width e := Nat.mul_le_mul_right _ k1
    rw [Nat.add_mul] at this
    rw [get_put hle, if_neg (by omega), if_neg (by omega)]

/-- a row that has grown into a new block -/
theorem ArrAt.grown {P : Program} {e : Ty} {xs ys : List (El e)} {et : TypeId} {z : Array Value} {olds news : List Value} {old : Nat} (hF : ∀ b, F b → b < W.heap.size)
    (ho : olds.length = xs.length * width e) (ho1 : ∀ u ∈ olds, u.oneCell' = true) (hx : ∀ i (h : i < xs.length), Rd P e xs[i] W F (fun j => olds[i * width e + j]?))
    (hn : news.length = ys.length * width e) (hn1 : ∀ u ∈ news, u.oneCell' = true) (hy : ∀ i (h : i < ys.length), Rd P e ys[i] W F (fun j => news[i * width e + j]?))
    (hz : z.size = width e) (hz1 : ∀ u ∈ z.toList, u.oneCell' = true) (hw : 0 < width e) (h63 : xs.length + ys.length ≤ maxLen) :
    ArrAt P (W.drew.alloc (.cells (grownRow W z olds news (xs.length + ys.length) old et) et)) F W.heap.size (grownCap W (xs.length + ys.length) old et) e (xs ++ ys) := by
  have hge := grownCap_ge W (xs.length + ys.length) old et
  have hl : Later W F (W.drew.alloc (.cells (grownRow W z olds news (xs.length + ys.length) old et) et)) F := ⟨rfl, rfl, rfl, by simp, fun b hb => al_old W.drew _ b (hF b hb), fun _ hb => hb⟩
  have hzs : (Builtin.zeroCells z (grownCap W (xs.length + ys.length) old et - (xs.length + ys.length))).toList.length = (grownCap W (xs.length + ys.length) old et - (xs.length + ys.length)) * width e := by
    rw [Array.length_toList, size_zeroCells, hz]
  have hlist : (grownRow W z olds news (xs.length + ys.length) old et).toList = olds ++ (news ++ (Builtin.zeroCells z (grownCap W (xs.length + ys.length) old et - (xs.length + ys.length))).toList) := by
    simp [grownRow]
  refine ⟨_, et, al_new W.drew _, ?_, by simpa using hge, grownCap_le_maxLen W _ old et h63, fun u hu => ?_, fun i hi => ?_⟩
  · rw [← Array.length_toList, hlist, List.length_append, List.length_append, ho, hn, hzs, ← Nat.add_assoc, ← Nat.add_mul, ← Nat.add_mul]
    congr 1; omega
  · rw [hlist] at hu
    simp only [List.mem_append] at hu
    rcases hu with hu | hu | hu
    · exact ho1 u hu
    · exact hn1 u hu
    · exact made_one (n := (grownCap W (xs.length + ys.length) old et - (xs.length + ys.length)) * z.size) hz1 (by omega) u hu
  · have hget : ∀ q : Nat, (grownRow W z olds news (xs.length + ys.length) old et)[q]? = (olds ++ (news ++ (Builtin.zeroCells z (grownCap W (xs.length + ys.length) old et - (xs.length + ys.length))).toList))[q]? := by
      intro q; rw [← hlist, Array.getElem?_toList]
    by_cases hi1 : i < xs.length
    · have : (xs ++ ys)[i] = xs[i] := List.getElem_append_left hi1
      rw [this]
      refine Rd.congr e (fun q hq => ?_) ((hx i hi1).later hl)
      have := row_lt (w := width e) hi1 hq
      rw [hget, List.getElem?_append, if_pos (by omega)]
    · have hi2 : i - xs.length < ys.length := by simp at hi; omega
      have : (xs ++ ys)[i] = ys[i - xs.length] := List.getElem_append_right (by omega)
      rw [this]
      refine Rd.congr e (fun q hq => ?_) ((hy _ hi2).later hl)
      have e2 : i * width e = xs.length * width e + (i - xs.length) * width e := by rw [← Nat.add_mul]; congr 1; omega
      have := row_lt (w := width e) hi2 hq
      rw [hget, List.getElem?_append, if_neg (by omega), List.getElem?_append, if_pos (by omega)]
      congr 1; omega

end
end Go.Flat
