/-
  Soundness of the flat reading, twenty-third part: copy, clear.
-/
import Derived.Test.YtmooabafkcfbhaaFlatTD
namespace Go.Flat
open Go.RowKit (Below)

section
variable {cx : Cx} {call : Oracle cx} {fx : Hints} {W W' : World} {F F' : Fz} {E E' : EnvM} {h : Heap} {N : Nat → Prop} {ρ : Operand → V} {a : Act} {R : Type}

/-- the place of a slice of one's own -/
structure Place (cx : Cx) (W : World) (F : Fz) (E : EnvM) (h : Heap) (n ver off len : Nat) (e : Ty) (xs : List (El e)) (v : Value) : Prop where
  at_ : h[n]? = some (ver, some (.arr e xs false))
  le : off + len ≤ xs.length
  row : (E.m n ver = some .nil ∧ xs = [] ∧ ∃ p, v = .slice p 0 0) ∨
    ∃ b cap o c, E.m n ver = some (.arr b (width e) xs.length cap) ∧ ArrAt cx.P W F b cap e xs ∧ ¬ F b ∧ v = .slice (some ⟨b, o, none⟩) len c ∧ (0 < len → o = off * width e)

theorem placeK_rd {c : Cell} {k : (n ver off len : Nat) → (e : Ty) → List (El e) → Option R} {r : R} {v : Value} (hr : HR cx.P W F E N h) (hk : placeK h c k = some r) (hv : RdCell cx.P W F E c v) :
    ∃ n ver off len e xs, k n ver off len e xs = some r ∧ Place cx W F E h n ver off len e xs v := by
  unfold placeK at hk
  split at hk
  case h_3 => cases hk
  · rename_i n ver
    split at hk
    case h_2 => cases hk
    rename_i ver' e xs hn
    split at hk
    case isFalse => cases hk
    rename_i hver
    subst hver
    obtain ⟨g1, g2, g3⟩ := hv
    refine ⟨n, ver, 0, xs.length, e, xs, hk, hn, by omega, ?_⟩
    rcases blk_arr hr hn with ⟨q1, rfl⟩ | ⟨b, cap, q1, q2, q3, _⟩
    · obtain ⟨p, hp⟩ : RdLoc (.lall n ver) .nil v := g3 _ q1
      exact .inl ⟨q1, rfl, p, hp⟩
    · have hp : v = .slice (some ⟨b, 0, none⟩) xs.length cap := g3 _ q1
      exact .inr ⟨b, cap, 0, cap, q1, q2, q3 rfl, hp, fun _ => by simp⟩
  · rename_i n ver off len
    split at hk
    case h_2 => cases hk
    rename_i ver' e xs hn
    split at hk
    case isFalse => cases hk
    rename_i hver
    subst hver
    obtain ⟨h1, hk⟩ := must_some hk
    obtain ⟨g1, g2, g3⟩ := hv
    refine ⟨n, ver, off, len, e, xs, hk, hn, by simpa using h1, ?_⟩
    rcases blk_arr hr hn with ⟨q1, rfl⟩ | ⟨b, cap, q1, q2, q3, _⟩
    · obtain ⟨⟨p, hp⟩, h2, _⟩ : RdLoc (.lsl n ver off len) .nil v := g3 _ q1
      exact .inl ⟨q1, rfl, p, by rw [hp]⟩
    · obtain ⟨hle, o, c, hp, hlc, hoc⟩ : RdLoc (.lsl n ver off len) (.arr b (width e) xs.length cap) v := g3 _ q1
      exact .inr ⟨b, cap, o, c, q1, q2, q3 rfl, hp, fun hl => (hoc (by omega)).1⟩

/-- the first elements of what is copied -/
structure SrcN (P : Program) (W : World) (size : Nat) (x : Value) (len m : Nat) (news : List Value) : Prop where
  len : Builtin.lenOf x = pure len
  cells : (Builtin.firstCells size m x).run P W = .ok news.toArray W
  size : news.length = m * size
  one : ∀ u ∈ news, u.oneCell' = true

theorem RowRd.srcN {P : Program} {e : Ty} {xs : List (El e)} {v : Value} {m : Nat} (hx : RowRd P W F e xs v) (hm : m ≤ xs.length) :
    ∃ news, SrcN P W (width e) v xs.length m news ∧ ∀ i (h : i < (xs.take m).length), Rd P e (xs.take m)[i] W F (fun j => news[i * width e + j]?) := by
  have htl : (xs.take m).length = m := by rw [List.length_take]; omega
  rcases hx.row with ⟨rfl, p, c, rfl⟩ | ⟨b, off, cap, rfl, hr⟩
  · have : m = 0 := by simpa using hm
    subst this
    refine ⟨[], ⟨rfl, ?_, by simp, by simp⟩, fun i hi => by simp at hi⟩
    cases p with
    | none => simp [Builtin.firstCells]
    | some p => simp [Builtin.firstCells, loadCells, loadCellsFrom]
  · have hr' : ∀ i (hi : i < (xs.take m).length), Rd P e (xs.take m)[i] W F (mem W b (off + i * width e)) := fun i hi => by
      have := hr i (by omega)
      simpa using this
    obtain ⟨us, h1, h2, h3, h4⟩ := rows_of hr'
    rw [htl] at h1
    refine ⟨us, ⟨rfl, ?_, h1, h2⟩, h4⟩
    exact run_firstCells_some W (width e) m ⟨b, off, none⟩ xs.length cap us h1 fun j u hu => by
      rw [addr_add]; exact h3 j u hu

theorem str_srcN {P : Program} (s : List UInt8) (m : Nat) (hm : m ≤ s.length) : SrcN P W 1 (.string ⟨s.toArray⟩) s.length m ((s.map fun c => Value.int .u8 (c.toNat : Int)).take m) := by
  have hsz : (⟨s.toArray⟩ : ByteArray).size = s.length := size_mk s
  refine ⟨by simp [Builtin.lenOf, hsz], ?_, by simp; omega, fun u hu => ?_⟩
  · simp only [Builtin.firstCells, extract_mk]
    simp [List.map_take]
  · have := List.mem_of_mem_take hu
    simp only [List.mem_map] at this
    obtain ⟨c, _, rfl⟩ := this
    rfl

/-- elements are put into a row of one's own: what is left -/
theorem put_post {e : Ty} {n ver off len : Nat} {xs ys : List (El e)} {news : List Value} {v : Value} (cc : Ctx cx call W F E N h ρ a) (hp : Place cx W F E h n ver off len e xs v) (hys : ys.length ≤ len)
    (hn : news.length = ys.length * width e) (hn1 : ∀ u ∈ news, u.oneCell' = true) (hy : ∀ i (h : i < ys.length), Rd cx.P e ys[i] W F (fun j => news[i * width e + j]?)) :
    ∃ W', OpPost cx.P W F E N h W' F E [(n, ver, some (.arr e (putRow xs off ys) false))] ∧
      ∃ p l c, v = .slice p l c ∧ (ys.length = 0 → l = 0 → W' = W) ∧ (l = len ∨ (l = 0 ∧ ys.length = 0 ∧ len = 0)) ∧ (∀ ad, p = some ad → (storeCells ad news).run cx.P W = .ok () W') ∧ (p = none → W' = W) := by
  have hat := hp.at_
  have hN := (cc.hr.blk n ver _ hat).1
  have hlt : n < h.length := by
    rcases Nat.lt_or_ge n h.length with q | q
    · exact q
    · rw [List.getElem?_eq_none q] at hat; cases hat
  have hle := hp.le
  rcases hp.row with ⟨q1, rfl, p, rfl⟩ | ⟨b, cap, o, c, q1, q2, q3, rfl, q5⟩
  · have hlen0 : len = 0 := by simp at hle; omega
    have hy0 : ys = [] := List.eq_nil_of_length_eq_zero (by omega)
    subst hy0
    have hn0 : news = [] := List.eq_nil_of_length_eq_zero (by rw [hn]; simp)
    subst hn0
    have hpost := OpPost.turn (ns := []) (W' := W) (F' := F) (row := none) (B := .arr e (putRow [] off []) false) cc.hr cc.hF hN hlt (EnvLe.refl E) (cc.hr.top n ver _ hN hat).symm (fun _ _ => rfl) ⟨rfl, rfl, rfl, Nat.le_refl _, fun _ _ _ => rfl⟩
      (fun _ hb => by cases hb) (by rw [fzPlus_nil]; exact fun _ hb => hb) (by rw [fzPlus_nil]; exact fun _ hb => .inl hb) ⟨.nil, q1, .inl ⟨rfl, by simp [putRow]⟩, fun _ hx => by cases hx⟩
    exact ⟨W, hpost, p, 0, 0, rfl, fun _ _ => rfl, .inr ⟨rfl, rfl, hlen0⟩, fun ad _ => by simp [storeCells], fun _ => rfl⟩
  · obtain ⟨cs, T, k1, k2, k3, k4, k5, k6⟩ := q2
    have hlen : (putRow xs off ys).length = xs.length := by simp [putRow]; omega
    have hput := ArrAt.put (zs := putRow xs off ys) (p := off) q3 k1 k2 k4 k5 k6 hn hn1 hy (by omega) (by omega) (by omega) (fun i hi => by
      rw [hlen] at hi
      have e1 : (xs.take off).length = off := by rw [List.length_take]; omega
      by_cases hi1 : i < off
      · refine .inl ⟨hi1, hi, ?_⟩
        simp only [putRow, List.append_assoc]
        rw [List.getElem_append_left (by omega)]
        simp
      · by_cases hi2 : i < off + ys.length
        · refine .inr (.inl ⟨by omega, by omega, ?_⟩)
          simp only [putRow, List.append_assoc]
          rw [List.getElem_append_right (by omega), List.getElem_append_left (by omega)]
          simp [e1]
        · refine .inr (.inr ⟨by omega, hi, ?_⟩)
          simp only [putRow, List.append_assoc]
          rw [List.getElem_append_right (by omega), List.getElem_append_right (by omega)]
          simp only [List.getElem_drop, e1]
          congr 1; omega)
    have hpost := OpPost.row (ns := []) (B := .arr e (putRow xs off ys) false) (cs' := putVals cs (off * width e) news) cc.hr cc.hF hat q1 rfl q3 (by simp)
      (by rw [fzPlus_nil, ← hlen]; exact .inr ⟨b, cap, rfl, hput, fun _ => q3, fun e => by cases e⟩)
    rw [fzPlus_nil] at hpost
    have hself : ys.length = 0 → W.setRow b (putVals cs (off * width e) news) = W := fun h0 => by
      have hn0 : news = [] := List.eq_nil_of_length_eq_zero (by rw [hn, h0]; simp)
      rw [hn0]
      have : putVals cs (off * width e) [] = cs := by simp [putVals]
      rw [this]
      exact setRow_self W b cs T (0, 0) k1
    refine ⟨_, hpost, some ⟨b, o, none⟩, len, c, rfl, fun h0 _ => hself h0, .inl rfl, fun ad hd => ?_, fun e => by cases e⟩
    injection hd with hd
    subst hd
    rcases Nat.eq_zero_or_pos ys.length with h0 | h0
    · have hn0 : news = [] := List.eq_nil_of_length_eq_zero (by rw [hn, h0]; simp)
      rw [hself h0, hn0]; simp [storeCells]
    · have ho := q5 (by omega)
      subst ho
      have hle2 : off * width e + news.length ≤ cs.size := by rw [hn, k2, ← Nat.add_mul]; exact Nat.mul_le_mul_right _ (by omega)
      have := run_storeCells_at cx.P b (off * width e) T news 0 cs W k1 (by simpa using hle2) hn1
      simpa only [Nat.add_zero, putVals] using this

theorem min_take {α : Type} (xs : List α) (n : Nat) : (xs.take n).length = Nat.min xs.length n := by
  rw [List.length_take]; exact Nat.min_comm _ _

/-- copy, of what is read -/
theorem op_copy_core {o : Oper} {cl : Go.Call} {k : V → Ups → Option R} {r : R} {p q : Operand} {t et : TypeId} {e : Ty} {n ver off len l : Nat} {xs ys : List (El e)} {news : List Value}
    (cc : Ctx cx call W F E N h ρ a) (ho : o.op = .call cl) (hc : cl.callee = .builtin .copy) (hargs : cl.args = #[p, q]) (ht : cl.argTypes[0]? = some t) (hs : cx.shp t = .slice et) (he : cx.ty et = some e)
    (hp : Place cx W F E h n ver off len e xs (a.eval p)) (hl : ys.length = Nat.min l len) (hx : SrcN cx.P W (width e) (a.eval q) l ys.length news)
    (hy : ∀ i (h : i < ys.length), Rd cx.P e ys[i] W F (fun j => news[i * width e + j]?))
    (hk : k (.v false [.val (.int .i64) (ys.length : Int)]) [(n, ver, some (.arr e (putRow xs off ys) false))] = some r) : Sound cx W F E N h a o k r := by
  obtain ⟨ti, z, t1, t2, _⟩ := elem_of cc.tab he
  have hu := shp_slice cc.tab hs
  have hle : ys.length ≤ len := by rw [hl]; exact Nat.min_le_right _ _
  obtain ⟨W', hpost, ad, l', c, hv, hW, hl', hst, hnone⟩ := put_post cc hp hle hx.size hx.one hy
  have hmin : Nat.min l l' = ys.length := by
    rcases hl' with rfl | ⟨rfl, h0, _⟩
    · exact hl.symm
    · rw [h0]; exact Nat.min_zero l
  have hcells := hx.cells
  refine ⟨_, _, hk, OpOk.of (v := goInt ys.length) ?_ hpost (mk_int _ _)⟩
  have hrun : (Builtin.copy_ cl.argTypes o.type #[a.eval p, a.eval q]).run cx.P W = .ok (goInt ys.length) W' := by
    rw [hv]
    cases ad with
    | none => simp [Builtin.copy_, ht, run_underlying hu, hx.len, sizeOf, typeInfo, t1, t2, hmin, hcells, hnone rfl]
    | some ad => simp [Builtin.copy_, ht, run_underlying hu, hx.len, sizeOf, typeInfo, t1, t2, hmin, hcells, hst ad rfl]
  simp [execOp, ho, resolve, hc, hargs, invoke, builtin, hrun]

theorem op_copy {o : Oper} {cl : Go.Call} {k : V → Ups → Option R} {r : R} {p q : Operand} {t et : TypeId} {e0 : Ty} {d s : Cell}
    (cc : Ctx cx call W F E N h ρ a) (ho : o.op = .call cl) (hc : cl.callee = .builtin .copy) (hargs : cl.args = #[p, q]) (ht : cl.argTypes[0]? = some t) (hs : cx.shp t = .slice et) (he : cx.ty et = some e0)
    (hp : ρ p = .v false [d]) (hq : ρ q = .v false [s])
    (hk : placeK h d (fun n ver off len e xs =>
        if e = e0 then
          match s with
          | .val .str b =>
            match castEl (a := .slice (.int .u8)) (b := .slice e) ((b.map fun c => (c.toNat : Int)).take len) with
            | some ys => k (.v false [.val (.int .i64) (ys.length : Int)]) [(n, ver, some (.arr e (putRow xs off ys) false))]
            | none => none
          | s => arrK cx call h e s fun ys =>
            k (.v false [.val (.int .i64) ((ys.take len).length : Int)]) [(n, ver, some (.arr e (putRow xs off (ys.take len)) false))]
        else none) = some r) : Sound cx W F E N h a o k r := by
  have hpv := cc.ρ p
  rw [hp] at hpv
  have hqv := cc.ρ q
  rw [hq] at hqv
  obtain ⟨n, ver, off, len, e, xs, hk2, hpl⟩ := placeK_rd cc.hr hk hpv.single.1
  clear hk
  have hk := hk2
  clear hk2
  split at hk
  case isFalse => cases hk
  rename_i he'
  subst he'
  have arr : arrK cx call h e s (fun ys => k (.v false [.val (.int .i64) ((ys.take len).length : Int)]) [(n, ver, some (.arr e (putRow xs off (ys.take len)) false))]) = some r → Sound cx W F E N h a o k r := by
    intro hk
    obtain ⟨ys, h1, h2⟩ := arrK_rd cc.hr hk hqv.single.1
    obtain ⟨news, h3, h4⟩ := h2.srcN (m := (ys.take len).length) (by rw [List.length_take]; omega)
    have e1 : ys.take (ys.take len).length = ys.take len := by rw [List.length_take, List.take_eq_take_iff]; omega
    rw [e1] at h4
    exact op_copy_core cc ho hc hargs ht hs he hpl (min_take ys len) h3 h4 h1
  split at hk
  · rename_i b
    split at hk
    case h_2 => cases hk
    rename_i ys hy
    obtain ⟨he2, hys⟩ := castEl_some hy
    injection he2 with he2
    subst he2
    simp only at hys
    subst hys
    have hv := rd_str hqv
    refine op_copy_core (e := .int .u8) (ys := ((b.map fun c => (c.toNat : Int)).take len : List Int)) (l := b.length) (news := (b.map fun c => Value.int .u8 (c.toNat : Int)).take ((b.map fun c => (c.toNat : Int)).take len).length) cc ho hc hargs ht hs he hpl
      (by rw [min_take]; simp) ?_ (fun i hi => ?_) hk
    · rw [hv]
      exact str_srcN b _ (by simp; omega)
    · simp only [Rd, RdP, width, Nat.mul_one, Nat.add_zero]
      have : i < b.length ∧ i < len := by simp at hi; omega
      have hlt : i < min len b.length := by omega
      simp [hlt]
  · exact arr hk

/-- clear -/
theorem op_clear {o : Oper} {cl : Go.Call} {k : V → Ups → Option R} {r : R} {p : Operand} {t et : TypeId} {e0 : Ty} {d : Cell}
    (cc : Ctx cx call W F E N h ρ a) (ho : o.op = .call cl) (hc : cl.callee = .builtin .clear) (hargs : cl.args = #[p]) (ht : cl.argTypes[0]? = some t) (hs : cx.shp t = .slice et) (he : cx.ty et = some e0)
    (hp : ρ p = .v false [d])
    (hk : placeK h d (fun n ver off len e xs =>
          if e = e0 then
            match zeroEl e with
            | some z => k (.tup []) [(n, ver, some (.arr e (putRow xs off (List.replicate len z)) false))]
            | none => none
          else none) = some r) : Sound cx W F E N h a o k r := by
  have hpv := cc.ρ p
  rw [hp] at hpv
  obtain ⟨n, ver, off, len, e, xs, hk2, hpl⟩ := placeK_rd cc.hr hk hpv.single.1
  clear hk
  have hk := hk2
  clear hk2
  split at hk
  case isFalse => cases hk
  rename_i he'
  subst he'
  split at hk
  case h_2 => cases hk
  rename_i z hz
  obtain ⟨ti, z', t1, t2, t3, t4, t5, t6, t7⟩ := elem_of cc.tab he
  have hu := shp_slice cc.tab hs
  have hrl : (List.replicate len z).length = len := List.length_replicate
  have hmade : Builtin.zeroCells z'.cells len = madeCells z'.cells (len * width e) := by rw [← t5]; rfl
  have hpos : (∃ u, u ∈ (madeCells z'.cells (len * width e)).toList) → 0 < z'.cells.size := by
    rintro ⟨u, hu⟩
    rcases Nat.eq_zero_or_pos z'.cells.size with q | q
    · rw [← t5, q] at hu; simp [madeCells] at hu
    · exact q
  obtain ⟨W', hpost, ad, l', c, hv, hW, hl', hst, hnone⟩ := put_post (ys := List.replicate len z) (news := (madeCells z'.cells (len * width e)).toList) cc hpl (by rw [hrl]; exact Nat.le_refl _)
    (by rw [hrl, Array.length_toList, size_madeCells]) (fun u hu => made_one t6 (hpos ⟨u, hu⟩) u hu)
    (fun i hi => by
      rw [hrl] at hi
      rw [List.getElem_replicate]
      have := made_arr (W := W) (F := F) t5 (zeroEl_rd e z _ hz (t7 W F E)) hi
      simpa only [Array.getElem?_toList] using this)
  refine ⟨_, _, hk, OpOk.of (v := .tuple #[]) ?_ hpost ⟨[], rfl, rfl, fun j p u hp => by simp at hp⟩⟩
  have hrun : (Builtin.clear_ cl.argTypes o.type #[a.eval p]).run cx.P W = .ok (.tuple #[]) W' := by
    rw [hv]
    cases ad with
    | none => simp [Builtin.clear_, ht, run_underlying hu, hnone rfl]
    | some ad =>
      rcases Nat.eq_zero_or_pos l' with rfl | hl0
      · have h0 : len = 0 := by rcases hl' with h | ⟨_, _, h⟩ <;> omega
        rw [hW (by rw [hrl, h0]) rfl]
        simp [Builtin.clear_, ht, run_underlying hu]
      · have e1 : l' = len := by rcases hl' with h | ⟨h, _, _⟩ <;> omega
        subst e1
        obtain ⟨m, rfl⟩ : ∃ m, l' = m + 1 := ⟨l' - 1, by omega⟩
        have := hst ad rfl
        rw [← hmade] at this
        simp [Builtin.clear_, ht, run_underlying hu, zeroValue, typeInfo, t1, t4, this]
  simp [execOp, ho, resolve, hc, hargs, invoke, builtin, hrun]

theorem op_clearNil {o : Oper} {cl : Go.Call} {k : V → Ups → Option R} {r : R} {p : Operand} {t : TypeId}
    (cc : Ctx cx call W F E N h ρ a) (ho : o.op = .call cl) (hc : cl.callee = .builtin .clear) (hargs : cl.args = #[p]) (ht : cl.argTypes[0]? = some t)
    (hp : ρ p = .v false [.ns]) (hund : ∃ d, cx.P.underlying t = some d) (hk : k (.tup []) [] = some r) : Sound cx W F E N h a o k r := by
  have hpv := cc.ρ p
  rw [hp] at hpv
  obtain ⟨ad, hv⟩ := hpv.single.1
  obtain ⟨d, hu⟩ := hund
  refine Sound.value cc hk (v := .tuple #[]) ?_ ⟨[], rfl, rfl, fun j p u hp => by simp at hp⟩
  have hrun : (Builtin.clear_ cl.argTypes o.type #[a.eval p]).run cx.P W = .ok (.tuple #[]) W := by
    rw [hv]
    cases ad with
    | none => cases d <;> simp [Builtin.clear_, ht, run_underlying hu]
    | some ad => cases d <;> simp [Builtin.clear_, ht, run_underlying hu]
  simp [execOp, ho, resolve, hc, hargs, invoke, builtin, hrun]

end
end Go.Flat
