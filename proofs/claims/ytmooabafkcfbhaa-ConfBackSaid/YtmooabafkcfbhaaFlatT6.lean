/-
  Soundness of the flat reading, fifteenth part: stores.
-/
import Derived.Test.YtmooabafkcfbhaaFlatT5
namespace Go.Flat
open Go.RowKit (Below)

/-- a row with other values from a place on -/
def putVals (cs : Array Value) (p : Nat) (us : List Value) : Array Value := (cs.toList.take p ++ us ++ cs.toList.drop (p + us.length)).toArray

theorem get_put {cs : Array Value} {p : Nat} {us : List Value} (hle : p + us.length ≤ cs.size) (q : Nat) :
    (putVals cs p us)[q]? = if q < p then cs[q]? else if q < p + us.length then us[q - p]? else cs[q]? := by
  have h1 : (cs.toList.take p).length = p := by rw [List.length_take, Array.length_toList]; omega
  unfold putVals
  simp only [List.getElem?_toArray, List.append_assoc]
  rw [List.getElem?_append]
  split
  · rename_i hq
    rw [h1] at hq
    rw [if_pos hq, List.getElem?_take, if_pos hq, Array.getElem?_toList]
  · rename_i hq
    rw [h1] at hq
    rw [if_neg hq, h1, List.getElem?_append]
    split
    · rename_i hq2
      rw [if_pos (by omega)]
    · rename_i hq2
      rw [if_neg (by omega), List.getElem?_drop, Array.getElem?_toList]
      congr 1; omega
theorem size_put {cs : Array Value} {p : Nat} {us : List Value} (hle : p + us.length ≤ cs.size) : (putVals cs p us).size = cs.size := by
  unfold putVals
  simp; omega
theorem one_put {cs : Array Value} {p : Nat} {us : List Value} (h1 : ∀ v ∈ cs.toList, v.oneCell' = true) (h2 : ∀ v ∈ us, v.oneCell' = true) : ∀ v ∈ (putVals cs p us).toList, v.oneCell' = true := by
  intro v hv
  simp only [putVals, List.mem_append] at hv
  rcases hv with (hv | hv) | hv
  · exact h1 v (List.mem_of_mem_take hv)
  · exact h2 v hv
  · exact h1 v (List.mem_of_mem_drop hv)

section
variable {cx : Cx} {call : Oracle cx} {fx : Hints} {W W' : World} {F F' : Fz} {E E' : EnvM} {h : Heap} {N : Nat → Prop} {ρ : Operand → V} {a : Act} {R : Type}

theorem hasN_iff {l : List Nat} {n : Nat} : hasN l n = true ↔ n ∈ l := by
  induction l with
  | nil => simp [hasN]
  | cons m r ih =>
    simp only [hasN, Bool.or_eq_true, ih, List.mem_cons, Nat.beq_eq]
    exact or_congr_left eq_comm

/-- codes that share no memory read alike in all worlds -/
theorem Rd.noshare {P : Program} : ∀ (t : Ty) {x : El t} {W W' : World} {F F' : Fz} {g : Get}, shares t = false → Rd P t x W F g → Rd P t x W' F' g := by
  intro t
  induction t with
  | unit => exact fun _ h => h
  | pair a b iha ihb => intro x W W' F F' g hs h; simp only [shares, Bool.or_eq_false_iff] at hs; exact ⟨iha hs.1 h.1, ihb hs.2 h.2⟩
  | wrap e ih => intro x W W' F F' g hs h; exact ih hs h
  | bool => exact fun _ h => h
  | int k => exact fun _ h => h
  | str => exact fun _ h => h
  | slice e _ => intro x W W' F F' g hs; cases hs
  | ptr e _ => intro x W W' F F' g hs; cases hs
  | fn a r _ _ => intro x W W' F F' g hs; cases hs
  | own e _ => exact fun _ h => h.elim
  | ref e _ => exact fun _ h => h.elim
  | opt e _ => exact fun _ h => h.elim

/-- what was read of names, with those alone frozen that must be -/
theorem Rd.lent {P : Program} {t : Ty} {x : El t} {g : Get} {ns : List Nat} (hx : Rd P t x W (FzPlus F h E ns) g) : Rd P t x W (FzPlus F h E (if shares t = true then ns else [])) g := by
  cases hs : shares t with
  | true => exact hx
  | false => exact hx.noshare t hs

theorem OpPost.row {P : Program} {n ver : Nat} {B B0 : Blk} {L : Loc} {b : Nat} {cs' : Array Value} {ns : List Nat} (hr : HR P W F E N h) (hF : ∀ b, F b → b < W.heap.size)
    (hn : h[n]? = some (ver, some B0)) (hL : E.m n ver = some L) (hb : L.blk = some b) (hfree : ¬ F b) (hns : n ∉ ns)
    (hB : BlkRel P (W.setRow b cs') (FzPlus F h E ns) E L B) :
    OpPost P W F E N h (W.setRow b cs') (FzPlus F h E ns) E (freezeUps h ns ++ [(n, ver, some B)]) := by
  have hat : atName h E n b := ⟨ver, B0, L, hn, hL, hb⟩
  have hN := (hr.blk n ver B0 hn).1
  have hlt : n < h.length := by
    rcases Nat.lt_or_ge n h.length with q | q
    · exact q
    · rw [List.getElem?_eq_none q] at hn; cases hn
  refine OpPost.turn (row := some b) hr hF hN hlt (EnvLe.refl E) (hr.top n ver _ hN hn).symm (fun _ _ => rfl) ⟨rfl, rfl, rfl, by simp, fun k _ hk => setRow_other W b k cs' (fun e => hk (by rw [e]))⟩
    (fun x hx => ?_) (fun _ hb => hb) (fun _ hb => .inl hb) ⟨L, hL, hB, fun x hx => .inl (by rw [← hb, hx])⟩
  injection hx with hx
  subst hx
  refine ⟨hat, ?_⟩
  rintro (hf | ⟨m, hm, hat'⟩)
  · exact hfree hf
  · exact hns (atName_fun hr hat' hat ▸ hm)

/-- the world with one row other, seen from what is frozen -/
theorem later_row {ns : List Nat} {P : Program} {n b : Nat} {cs' : Array Value} (hr : HR P W F E N h) (hat : atName h E n b) (hfree : ¬ F b) (hns : n ∉ ns) : Later W (FzPlus F h E ns) (W.setRow b cs') (FzPlus F h E ns) := by
  refine ⟨rfl, rfl, rfl, by simp, fun k hk => setRow_other W b k cs' (fun e => ?_), fun _ hb => hb⟩
  subst e
  rcases hk with hk | ⟨m, hm, hat'⟩
  · exact hfree hk
  · exact hns (atName_fun hr hat' hat ▸ hm)

theorem run_store_row {t : TypeId} {b off : Nat} {cur : Array Value} {T : TypeId} {v : Value} {c : Ty} (ht : TabOk cx) (hc : cx.ty t = some c) (hw : v.cells.size = width c) (hg : W.heap[b]? = some (.cells cur T (0, 0)))
    (hle : off + v.cells.size ≤ cur.size) (h1 : ∀ u ∈ v.cells.toList, u.oneCell' = true) :
    (Instr.storeAt t (.pointer (some ⟨b, off, none⟩)) v).run cx.P W = .ok () (W.setRow b (putVals cur off v.cells.toList)) := by
  obtain ⟨ti, k1, k2, _⟩ := (ty_of ht hc).ti
  have := run_storeCells_at cx.P b off T v.cells.toList 0 cur W hg (by simpa using hle) h1
  simp only [Nat.add_zero] at this
  have e : v.cells.size = ti.size := by rw [hw, k2]
  simp only [Instr.storeAt, Instr.sureAddr, storeVar, sizeOf, typeInfo, putVals, Sem.run_bind, Sem.run_pure, Result.andThen_ok, run_program, k1, e, ne_eq, not_true_eq_false, if_false, this]

theorem splice_some {cs new c : List Cell} {off : Nat} (hs : splice cs off new = some c) : off + new.length ≤ cs.length ∧ c = cs.take off ++ new ++ cs.drop (off + new.length) := by
  unfold splice at hs
  split at hs
  · injection hs with hs; exact ⟨by assumption, hs.symm⟩
  · cases hs

theorem splice_rd {P : Program} {cs new c : List Cell} {off : Nat} {vs us : List Value} (hs : splice cs off new = some c) (h1 : RdCells P W F E cs vs) (h2 : RdCells P W F E new us) :
    off + us.length ≤ vs.length ∧ RdCells P W F E c (vs.take off ++ us ++ vs.drop (off + us.length)) := by
  obtain ⟨k1, rfl⟩ := splice_some hs
  have e1 := h1.1
  have e2 := h2.1
  refine ⟨by omega, ?_⟩
  have := ((h1.take off).append h2).append (h1.drop (off + new.length))
  rw [e2] at this
  rw [e2]
  exact this

/-- a store -/
theorem op_store {o : Oper} {k : V → Ups → Option R} {r : R} {t : TypeId} {p x : Operand} {c : Ty} {pc : Cell} {ag : Bool} {new : List Cell} (cc : Ctx cx call W F E N h ρ a) (ho : o.op = .store t p x)
    (ht : cx.ty t = some c) (hp : ρ p = .v false [pc]) (hx : ρ x = .v ag new) (hw : new.length = width c)
    (hk : storeK cx call h pc new (fun u => k .undef u) = some r) : Sound cx W F E N h a o k r := by
  have hpv := cc.ρ p
  rw [hp] at hpv
  replace hpv := hpv.single.1
  have hxv := cc.ρ x
  rw [hx] at hxv
  have hsz : (a.eval x).cells.size = width c := by have := hxv.1.1; simp at this; omega
  have hone : ∀ u ∈ (a.eval x).cells.toList, u.oneCell' = true := by
    intro u hu
    obtain ⟨j, hj, e⟩ := List.mem_iff_getElem.1 hu
    have hj2 : j < new.length := by rw [hxv.1.1]; exact hj
    exact (hxv.1.2 j _ u (List.getElem?_eq_getElem hj2) (by rw [List.getElem?_eq_getElem hj, e])).2
  unfold storeK at hk
  split at hk
  case h_3 => cases hk
  · -- a box
    rename_i n ver off
    split at hk
    case h_2 => cases hk
    rename_i ver' bt cs hn
    split at hk
    case isFalse => cases hk
    rename_i e
    subst e
    split at hk
    case h_2 => cases hk
    rename_i c' hs
    obtain ⟨b, arr, T, k1, k2, k3, k4, k5, _⟩ := blk_box cc.hr hn
    have hptr : a.eval p = .pointer (some ⟨b, off, none⟩) := hpv.2.2 _ k1
    obtain ⟨m1, m2⟩ := splice_rd hs k3 hxv.1
    have hle : off + (a.eval x).cells.size ≤ arr.size := by simpa using m1
    have hrun := run_store_row (v := a.eval x) (off := off) cc.tab ht hsz k2 hle hone
    have hat : atName h E n b := ⟨ver, _, _, hn, k1, rfl⟩
    have hpost := OpPost.row (ns := []) (B := .box bt c' false) (cs' := putVals arr off (a.eval x).cells.toList) cc.hr cc.hF hn k1 rfl (k5 rfl) (by simp)
      (by
        rw [fzPlus_nil]
        refine ⟨b, _, T, rfl, setRow_heap W b arr _ T _ k2, ?_, ?_, fun _ => k5 rfl, fun e => by cases e⟩
        · have hl := later_row (ns := []) (cs' := putVals arr off (a.eval x).cells.toList) cc.hr hat (k5 rfl) (by simp)
          rw [fzPlus_nil] at hl
          have := m2.later hl (EnvLe.refl E)
          simpa [putVals] using this
        · obtain ⟨q1, q2⟩ := splice_some hs
          rw [← k4, q2]; simp; omega)
    exact ⟨_, _, hk, OpOk.skip (by simp [execOp, ho, hptr, hrun]) hpost⟩
  · -- an element
    rename_i n ver i off
    split at hk
    case h_2 => cases hk
    rename_i ver' e xs hn
    split at hk
    case isFalse => cases hk
    rename_i hver
    subst hver
    cases hi : xs[i]? with
    | none => rw [hi] at hk; cases hk
    | some y =>
      rw [hi] at hk
      simp only [Option.bind_some] at hk
      split at hk
      case h_2 => cases hk
      rename_i c' hs
      split at hk
      case h_2 => cases hk
      rename_i z lent hparse
      split at hk
      case isTrue => cases hk
      rename_i hnl
      have hlt : i < xs.length := by
        rcases Nat.lt_or_ge i xs.length with q | q
        · exact q
        · rw [List.getElem?_eq_none q] at hi; cases hi
      have hy : xs[i] = y := by rw [List.getElem?_eq_getElem hlt] at hi; injection hi
      rcases blk_arr cc.hr hn with ⟨_, rfl⟩ | ⟨b, cap, k1, ⟨cs, T, q1, q2, q3, q4, q5, q6⟩, k2, _⟩
      · simp at hlt
      · have hptr : a.eval p = .pointer (some ⟨b, i * width e + off, none⟩) := hpv.2.2 _ k1
        obtain ⟨vs, m1, m2, m3⟩ := cells_rd (E := E) e y _ (hy ▸ q6 i hlt)
        obtain ⟨m4, m5⟩ := splice_rd hs m3 hxv.1
        obtain ⟨m6, m7⟩ := parseAll_rd cc.hc cc.hr hparse m5
        have hin : i * width e + width e ≤ cs.size := by
          rw [q2, ← Nat.succ_mul]; exact Nat.mul_le_mul_right _ (by omega)
        have hlen : (a.eval x).cells.toList.length = (a.eval x).cells.size := by simp
        have hle : i * width e + off + (a.eval x).cells.size ≤ cs.size := by omega
        have hrun := run_store_row (v := a.eval x) (off := i * width e + off) cc.tab ht hsz q1 hle hone
        have hat : atName h E n b := ⟨ver, _, _, hn, k1, rfl⟩
        have hnl' : n ∉ (if shares e = true then lent else []) := by
          intro hm
          split at hm
          · exact hnl (hasN_iff.2 hm)
          · cases hm
        have hl := later_row (cs' := putVals cs (i * width e + off) (a.eval x).cells.toList) cc.hr hat (k2 rfl) hnl'
        have hpost := OpPost.row (B := .arr e (xs.set i z) false) (ns := if shares e = true then lent else []) (cs' := putVals cs (i * width e + off) (a.eval x).cells.toList) cc.hr cc.hF hn k1 rfl (k2 rfl) hnl'
          (by
            refine .inr ⟨b, cap, by rw [List.length_set], ⟨_, T, setRow_heap W b cs _ T _ q1, by rw [size_put (by rw [hlen]; exact hle)]; exact q2, by rw [List.length_set]; exact q3, q4, one_put q5 hone, fun j hj => ?_⟩, fun _ hf => ?_, fun e => by cases e⟩
            · rw [List.length_set] at hj
              by_cases hji : j = i
              · subst hji
                rw [List.getElem_set_self]
                refine Rd.later (Rd.congr e ?_ m6.lent) hl
                intro q hq
                rw [get_put (by rw [hlen]; exact hle), hlen]
                have h1 := m2 q hq
                rw [List.append_assoc, List.getElem?_append]
                have ht1 : (vs.take off).length = off := by rw [List.length_take]; omega
                rw [ht1]
                by_cases hq1 : q < off
                · rw [if_pos (by omega), if_pos hq1, List.getElem?_take, if_pos hq1]; exact h1
                · rw [if_neg (by omega), if_neg hq1, List.getElem?_append, hlen]
                  by_cases hq2 : q < off + (a.eval x).cells.size
                  · rw [if_pos (by omega), if_pos (by omega)]; congr 1; omega
                  · rw [if_neg (by omega), if_neg (by omega), List.getElem?_drop, h1]; congr 1; omega
              · rw [List.getElem_set_ne (fun q => hji q.symm)]
                have := (q6 j hj).later ((later_plus (h := h) (E := E) (if shares e = true then lent else [])).trans hl)
                refine Rd.congr e ?_ this
                intro q hq
                rw [get_put (by rw [hlen]; exact hle), hlen]
                rcases Nat.lt_or_ge j i with hlt2 | hge
                · have : j * width e + width e ≤ i * width e := by rw [← Nat.succ_mul]; exact Nat.mul_le_mul_right _ hlt2
                  rw [if_pos (by omega)]
                · have : i * width e + width e ≤ j * width e := by rw [← Nat.succ_mul]; exact Nat.mul_le_mul_right _ (by omega)
                  rw [if_neg (by omega), if_neg (by omega)]
            · rcases hf with hf | ⟨m, hm, hat'⟩
              · exact k2 rfl hf
              · exact hnl' (atName_fun cc.hr hat' hat ▸ hm))
        exact ⟨_, _, hk, OpOk.skip (by simp [execOp, ho, hptr, hrun]) hpost⟩

end
end Go.Flat
