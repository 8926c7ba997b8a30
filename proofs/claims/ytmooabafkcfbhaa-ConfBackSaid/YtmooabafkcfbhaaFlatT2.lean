/-
  Soundness of the flat reading, eleventh part: lengths, the least and the greatest, conversions, tuples.
-/
import Derived.Test.YtmooabafkcfbhaaFlatT1
import Derived.Lib.ConvBytes
import Derived.Laws.BytesString
namespace Go.Flat
open Go.RowKit (Below)

section
variable {cx : Cx} {call : Oracle cx} {fx : Hints} {W W' : World} {F F' : Fz} {E E' : EnvM} {h : Heap} {N : Nat → Prop} {ρ : Operand → V} {a : Act} {R : Type}

theorem args1 {args : Array Operand} {x : V} (h : args.toList.map ρ = [x]) : ∃ p, args = #[p] ∧ ρ p = x := by
  obtain ⟨l⟩ := args
  match l, h with
  | [p], h => exact ⟨p, rfl, by simpa using h⟩
theorem args2 {args : Array Operand} {x y : V} (h : args.toList.map ρ = [x, y]) : ∃ p q, args = #[p, q] ∧ ρ p = x ∧ ρ q = y := by
  obtain ⟨l⟩ := args
  match l, h with
  | [p, q], h => exact ⟨p, q, rfl, by simpa using h⟩

theorem op_extract {o : Oper} {k : V → Ups → Option R} {r : R} {x : Operand} {i : Nat} (cc : Ctx cx call W F E N h ρ a) (ho : o.op = .extract x i)
    {vs : List (Bool × List Cell)} {ag : Bool} {cs : List Cell} (hx : ρ x = .tup vs) (hi : vs[i]? = some (ag, cs)) (hk : k (.v ag cs) [] = some r) : Sound cx W F E N h a o k r := by
  have hv := cc.ρ x
  rw [hx] at hv
  obtain ⟨us, h1, h2, h3⟩ := hv
  have hlt : i < us.length := by
    rw [h2]
    rcases Nat.lt_or_ge i vs.length with q | q
    · exact q
    · rw [List.getElem?_eq_none q] at hi; cases hi
  have hu : us[i]? = some us[i] := List.getElem?_eq_getElem hlt
  refine Sound.value cc hk (v := us[i]) ?_ (h3 i _ _ hi hu)
  simp [execOp, ho, h1, Instr.extract, hu]

/-- how long: of a slice or a string -/
theorem op_len {o : Oper} {cl : Go.Call} {k : V → Ups → Option R} {r : R} {c : Cell} (cc : Ctx cx call W F E N h ρ a) (ho : o.op = .call cl) (hc : cl.callee = .builtin .len)
    (ha : cl.args.toList.map ρ = [.v false [c]]) {s : Shp} (hs : (cl.argTypes[0]?).map cx.shp = some s) (hk : lenK h s c (fun n => k (.v false [.val (.int .i64) (n : Int)]) []) = some r) :
    Sound cx W F E N h a o k r := by
  obtain ⟨p, hargs, hp⟩ := args1 ha
  have hv := cc.ρ p
  rw [hp] at hv
  obtain ⟨t, ht, rfl⟩ : ∃ t, cl.argTypes[0]? = some t ∧ cx.shp t = s := by
    cases ht : cl.argTypes[0]? with
    | none => rw [ht] at hs; cases hs
    | some t => rw [ht] at hs; exact ⟨t, rfl, by simpa using hs⟩
  have fin : ∀ {n : Nat}, (Builtin.len_ cl.argTypes o.type #[a.eval p]).run cx.P W = .ok (goInt n) W → k (.v false [.val (.int .i64) (n : Int)]) [] = some r → Sound cx W F E N h a o k r := by
    intro n hrun hk
    refine Sound.value cc hk (v := .int .i64 n) ?_ (mk_int _ _)
    simp [execOp, ho, resolve, hc, hargs, invoke, builtin, hrun, goInt]
  unfold lenK at hk
  split at hk
  case h_3 => cases hk
  · rename_i hsh
    have hu := shp_str cc.tab hsh
    split at hk
    case h_2 => cases hk
    rename_i s
    have := rd_str hv
    refine fin ?_ hk
    simp [Builtin.len_, ht, run_underlying hu, this, size_mk]
  · rename_i et hsh
    have hu := shp_slice cc.tab hsh
    have fin2 : ∀ {b : Option Addr} {n cap : Nat}, a.eval p = .slice b n cap → k (.v false [.val (.int .i64) (n : Int)]) [] = some r → Sound cx W F E N h a o k r := by
      intro b n cap hp hk
      refine fin ?_ hk
      simp [Builtin.len_, ht, run_underlying hu, hp]
    split at hk
    · rename_i e xs
      rcases hv.single.1.2.2 with ⟨rfl, p, q1⟩ | ⟨b, off, cap, q1, _⟩
      · exact fin2 (by simpa using q1) hk
      · exact fin2 (by simpa using q1) hk
    · obtain ⟨p, hp⟩ := hv.single.1
      exact fin2 hp hk
    · rename_i n ver
      split at hk
      case h_2 => cases hk
      rename_i ver' e xs fr hn
      split at hk
      case isFalse => cases hk
      rename_i hver
      subst hver
      obtain ⟨g1, g2, g3⟩ := hv.single.1
      rcases blk_arr cc.hr hn with ⟨q1, rfl⟩ | ⟨b, cap, q1, _⟩
      · obtain ⟨p, hp⟩ : RdLoc (.lall n ver) .nil (a.eval p) := g3 _ q1
        exact fin2 hp hk
      · have hp : a.eval p = .slice (some ⟨b, 0, none⟩) xs.length cap := g3 _ q1
        exact fin2 hp hk
    · rename_i n ver off len
      obtain ⟨g1, ⟨L, g2⟩, g3⟩ := hv.single.1
      have := g3 L g2
      cases L with
      | box b => exact this.elim
      | nil =>
        obtain ⟨⟨_, hq⟩, hl, _⟩ := this
        subst hl
        exact fin2 hq hk
      | arr b w ln cap =>
        obtain ⟨_, o, c, hp, _⟩ := this
        exact fin2 hp hk
    · cases hk

theorem op_lenArr {o : Oper} {cl : Go.Call} {k : V → Ups → Option R} {r : R} {x : V} (cc : Ctx cx call W F E N h ρ a) (ho : o.op = .call cl) (hc : cl.callee = .builtin .len)
    (ha : cl.args.toList.map ρ = [x]) {n e : Nat} (hs : (cl.argTypes[0]?).map cx.shp = some (.arr n e)) (hk : k (.v false [.val (.int .i64) (n : Int)]) [] = some r) :
    Sound cx W F E N h a o k r := by
  obtain ⟨p, hargs, hp⟩ := args1 ha
  obtain ⟨t, ht, hsh⟩ : ∃ t, cl.argTypes[0]? = some t ∧ cx.shp t = .arr n e := by
    cases ht : cl.argTypes[0]? with
    | none => rw [ht] at hs; cases hs
    | some t => rw [ht] at hs; exact ⟨t, rfl, by simpa using hs⟩
  have hu := shp_arr cc.tab hsh
  refine Sound.value cc hk (v := .int .i64 n) ?_ (mk_int _ _)
  simp [execOp, ho, resolve, hc, hargs, invoke, builtin, Builtin.len_, ht, run_underlying hu, goInt]

theorem op_min {o : Oper} {cl : Go.Call} {k : V → Ups → Option R} {r : R} {kd kd' : IntKind} {m n : Int} (cc : Ctx cx call W F E N h ρ a) (ho : o.op = .call cl) (hc : cl.callee = .builtin .min)
    (ha : cl.args.toList.map ρ = [.v false [.val (.int kd) m], .v false [.val (.int kd') n]]) (hk : k (.v false [.val (.int kd) (if n < m then n else m)]) [] = some r) :
    Sound cx W F E N h a o k r := by
  obtain ⟨p, q, hargs, hp, hq⟩ := args2 ha
  have h1 := cc.ρ p
  have h2 := cc.ρ q
  rw [hp] at h1
  rw [hq] at h2
  refine Sound.value cc hk (v := .int kd (if n < m then n else m)) ?_ (mk_int _ _)
  simp [execOp, ho, resolve, hc, hargs, invoke, builtin, Builtin.min_, Builtin.min2, rd_int h1, rd_int h2]
theorem op_max {o : Oper} {cl : Go.Call} {k : V → Ups → Option R} {r : R} {kd kd' : IntKind} {m n : Int} (cc : Ctx cx call W F E N h ρ a) (ho : o.op = .call cl) (hc : cl.callee = .builtin .max)
    (ha : cl.args.toList.map ρ = [.v false [.val (.int kd) m], .v false [.val (.int kd') n]]) (hk : k (.v false [.val (.int kd) (if m < n then n else m)]) [] = some r) :
    Sound cx W F E N h a o k r := by
  obtain ⟨p, q, hargs, hp, hq⟩ := args2 ha
  have h1 := cc.ρ p
  have h2 := cc.ρ q
  rw [hp] at h1
  rw [hq] at h2
  refine Sound.value cc hk (v := .int kd (if m < n then n else m)) ?_ (mk_int _ _)
  simp [execOp, ho, resolve, hc, hargs, invoke, builtin, Builtin.max_, Builtin.max2, rd_int h1, rd_int h2]

/-! ## conversions -/

theorem op_convInt {o : Oper} {k : V → Ups → Option R} {r : R} {s d : TypeId} {x : Operand} {k0 kd k1 : IntKind} {n : Int} (cc : Ctx cx call W F E N h ρ a) (ho : o.op = .convert s d x)
    (hs : cx.shp s = .int k0) (hd : cx.shp d = .int kd) (hx : ρ x = .v false [.val (.int k1) n]) (hk : k (.v false [.val (.int kd) (kd.wrap n)]) [] = some r) : Sound cx W F E N h a o k r := by
  have hv := cc.ρ x
  rw [hx] at hv
  refine Sound.value cc hk (v := .int kd (kd.wrap n)) ?_ (mk_int _ _)
  simp [execOp, ho, convert, run_underlying (shp_int cc.tab hs), run_underlying (shp_int cc.tab hd), rd_int hv, Conv.intToInt]

theorem op_convStr {o : Oper} {k : V → Ups → Option R} {r : R} {s d : TypeId} {x : Operand} {b : List UInt8} (cc : Ctx cx call W F E N h ρ a) (ho : o.op = .convert s d x)
    (hs : cx.shp s = .str) (hd : cx.shp d = .str) (hx : ρ x = .v false [.val .str b]) (hk : k (.v false [.val .str b]) [] = some r) : Sound cx W F E N h a o k r := by
  have hv := cc.ρ x
  rw [hx] at hv
  refine Sound.value cc hk (v := .string ⟨b.toArray⟩) ?_ (mk_str _)
  simp [execOp, ho, convert, run_underlying (shp_str cc.tab hs), run_underlying (shp_str cc.tab hd), rd_str hv]

theorem op_convBytes {o : Oper} {k : V → Ups → Option R} {r : R} {s d et : TypeId} {x : Operand} {b : List UInt8} (cc : Ctx cx call W F E N h ρ a) (ho : o.op = .convert s d x)
    (hs : cx.shp s = .str) (hd : cx.shp d = .slice et) (he : cx.shp et = .int .u8) (hx : ρ x = .v false [.val .str b])
    (hk : k (.v false [.val (.slice (.int .u8)) (b.map fun c => (c.toNat : Int))]) [] = some r) : Sound cx W F E N h a o k r := by
  have hv := cc.ρ x
  rw [hx] at hv
  have hrun := Go.Lib.run_convert_string_bytes (P := cx.P) W s d et ⟨b.toArray⟩ (shp_str cc.tab hs) (shp_slice cc.tab hd) (shp_int cc.tab he)
  have hsz : (⟨b.toArray⟩ : ByteArray).size = b.length := size_mk b
  refine ⟨_, [], hk, OpOk.grow (v := .slice (some ⟨W.heap.size, 0, none⟩) b.length (grownCap W b.length 0 et)) (W' := Go.Lib.bytesWorld W et ⟨b.toArray⟩)
    (F' := fun c => F c ∨ c = W.heap.size) cc.hr cc.hF (fun c hc => cc.hr.lt c hc) ?_ ⟨⟨?_, ?_, ?_, ?_, ?_⟩, fun _ hb => .inl hb, fun c hc => ?_⟩ (RdV.mk1 ⟨rfl, rfl, .inr ⟨W.heap.size, 0, grownCap W b.length 0 et, ?_, .inr rfl, ?_, fun i hi => ?_⟩⟩ rfl)⟩
  · rw [hsz] at hrun
    simp [execOp, ho, rd_str hv, hrun]
  · rfl
  · rfl
  · rfl
  · rw [Go.Lib.bytesWorld_size]; omega
  · intro c hc; exact Go.Lib.bytesWorld_at_old W et _ c hc
  · rcases hc with hc | hc
    · exact .inl hc
    · refine .inr ?_
      rw [Go.Lib.bytesWorld_size]; omega
  · simp
  · simp
    exact grownCap_ge _ _ _ _
  · simp at hi
    have := Go.Lib.bytesWorld_cell W et ⟨b.toArray⟩ i (by rw [hsz]; exact hi)
    simp only [RdP, mem, width, Nat.mul_one, Nat.zero_add, Nat.add_zero]
    rw [this]
    simp [List.getD, hi]

/-- a closed slice: its cells as they are loaded -/
theorem load_ints {b off : Nat} {xs : List Int} (k : IntKind) (hx : ∀ i (h : i < xs.length), Rd cx.P (.int k) xs[i] W F (mem W b (off + i * 1))) :
    (loadCells ⟨b, off, none⟩ xs.length).run cx.P W = .ok (xs.map (Value.int k)).toArray W := by
  have := run_loadCells_list (P := cx.P) (w := W) ⟨b, off, none⟩ (xs.map (Value.int k)) fun j v hv => by
    rw [List.getElem?_map] at hv
    cases hj : xs[j]? with
    | none => rw [hj] at hv; cases hv
    | some n =>
      rw [hj] at hv
      simp at hv
      subst hv
      have hlt : j < xs.length := by
        rcases Nat.lt_or_ge j xs.length with q | q
        · exact q
        · rw [List.getElem?_eq_none q] at hj; cases hj
      have := hx j hlt
      rw [List.getElem?_eq_getElem hlt] at hj
      injection hj with hj
      rw [hj] at this
      simp only [Rd, RdP, mem, Nat.mul_one, Nat.add_zero] at this
      rw [addr_add]
      exact this
  simpa using this

theorem op_convString {o : Oper} {k : V → Ups → Option R} {r : R} {s d et : TypeId} {x : Operand} {c : Cell} (cc : Ctx cx call W F E N h ρ a) (ho : o.op = .convert s d x)
    (hs : cx.shp s = .slice et) (hd : cx.shp d = .str) (he : cx.shp et = .int .u8) (hx : ρ x = .v false [c])
    (hk : arrK cx call h (.int .u8) c (fun xs => k (.v false [.val .str (xs.map fun n => UInt8.ofNat n.toNat)]) []) = some r) : Sound cx W F E N h a o k r := by
  have hv := cc.ρ x
  rw [hx] at hv
  unfold arrK at hk
  split at hk
  case h_2 => cases hk
  rename_i xs ns hl
  have hrd := (leaf0_rd cc.hc cc.hr hl hv.single.1).2.2
  have fin : (Conv.bytesToString (a.eval x)).run cx.P W = .ok (.string ⟨(xs.map fun n => UInt8.ofNat n.toNat).toArray⟩) W → ∀ {p : Option Addr} {l q : Nat}, a.eval x = .slice p l q → Sound cx W F E N h a o k r := by
    intro hb p l q hp
    refine Sound.value cc hk (v := .string ⟨(xs.map fun n => UInt8.ofNat n.toNat).toArray⟩) ?_ (mk_str _)
    have := run_convert_bytes_string (P := cx.P) W s d et p l q (shp_slice cc.tab hs) (shp_int cc.tab he) (shp_str cc.tab hd)
    rw [← hp, hb] at this
    simp [execOp, ho, this]
  have fold : ∀ (ns : List Int) (l : List UInt8), ns.foldl (fun r n => r.push (UInt8.ofNat n.toNat)) (⟨l.toArray⟩ : ByteArray) = ⟨(l ++ ns.map fun n => UInt8.ofNat n.toNat).toArray⟩ := by
    intro ns
    induction ns with
    | nil => intro l; simp
    | cons n ns ih =>
      intro l
      have e : (⟨l.toArray⟩ : ByteArray).push (UInt8.ofNat n.toNat) = ⟨(l ++ [UInt8.ofNat n.toNat]).toArray⟩ := by simp [ByteArray.push]
      rw [List.foldl_cons, e, ih]
      simp
  rcases hrd with ⟨rfl, p, q1⟩ | ⟨b, off, cap, q1, q2, q3, q4⟩
  · simp at q1
    refine fin ?_ q1
    rw [q1]
    cases p with
    | none => simp [Conv.bytesToString]; rfl
    | some p => 
      have := run_bytesToString (P := cx.P) W p 0 0 [] (by simp [loadCells, loadCellsFrom])
      rw [this]; rfl
  · simp at q1
    refine fin ?_ q1
    rw [q1]
    have := run_bytesToString (P := cx.P) W ⟨b, off, none⟩ xs.length cap xs (load_ints .u8 q4)
    rw [this]
    have := fold xs []
    simp at this
    exact congrArg (fun z => Result.ok (Value.string z) W) this

end
end Go.Flat
