/-
  Soundness of the flat reading, thirty-second part: states; operations one behind the other.
-/
import Derived.Test.YtmooabafkcfbhaaFlatTM
namespace Go.Flat
open Go.RowKit (Below)

/-- the slots of a function: how many, and those that are kept, with what they hold -/
structure Slots where
  nt : Nat
  K : List Nat
  kv : Nat → Value
def Slots.may (S : Slots) (d : Nat) : Prop := d < S.nt ∧ d ∉ S.K

section
variable {cx : Cx} {call : Oracle cx} {fx : Hints} {W0 W W' : World} {F0 F F' : Fz} {O0 : List Nat} {E E' : EnvM} {h : Heap} {ρ : Operand → V} {a : Act} {R : Type} {nt : Slots} {st : St}

/-- THE STATE OF THE INTERPRETER AGAINST THE MODEL's, in a call that began at W0, F0, with the blocks O0. -/
structure StRel (cx : Cx) (W0 : World) (F0 : Fz) (O0 : List Nat) (nt : Slots) (st : St) (a : Act) (W : World) (F : Fz) (E : EnvM) : Prop where
  hr : HR cx.P W F E (fun _ => True) st.h
  hF : ∀ b, F b → b < W.heap.size
  t : ∀ s, RdV cx.P W F E (getT st.t s) (a.tmps.getD s undef)
  later : Later W0 F0 W F
  frame : ∀ b, b < W0.heap.size → b ∉ O0 → W.heap[b]? = W0.heap[b]?
  own : ∀ b, liveAny st.h E b → b ∈ O0 ∨ W0.heap.size ≤ b
  fz : ∀ b, F b → F0 b ∨ b ∈ O0 ∨ W0.heap.size ≤ b
  size : a.tmps.size = nt.nt
  keep : ∀ i ∈ nt.K, a.tmps.getD i undef = nt.kv i
  defers : a.defers = []

theorem constCell_rd {P : Program} {N : World} (v : Value) (h1 : v.oneCell' = true) : RdCell P N F E (constCell v) v := by
  unfold constCell
  split
  · exact ⟨rfl, rfl, rfl⟩
  · exact ⟨rfl, rfl, rfl⟩
  · exact ⟨rfl, rfl, by simp [Rd, RdP]⟩
  · exact rfl
  · exact ⟨none, rfl⟩
  · exact rfl
  · trivial

theorem constV_rd {P : Program} (v : Value) : RdV P W F E (constV v) v := by
  unfold constV
  split
  · rename_i cs
    cases h' : cs.toList.all (·.oneCell') with
    | false => exact trivial
    | true =>
      refine ⟨⟨by simp [Value.cells], fun j c u hj hu => ?_⟩, fun _ => ⟨cs, rfl⟩, fun e => by cases e⟩
      simp only [Value.cells] at hu
      rw [List.getElem?_map, hu] at hj
      simp at hj
      subst hj
      have h1 : u.oneCell' = true := by
        rw [List.all_eq_true] at h'
        exact h' u (List.mem_of_getElem? hu)
      exact ⟨constCell_rd u h1, h1⟩
  · exact trivial
  · cases h' : v.oneCell' with
    | false => exact trivial
    | true => exact RdV.mk1 (constCell_rd v h') h'

theorem opnd_rd {P : Program} (ht : ∀ s, RdV P W F E (getT st.t s) (a.tmps.getD s undef)) (x : Operand) : RdV P W F E (opnd st x) (a.eval x) := by
  cases x with
  | tmp t => exact ht t
  | const v => exact constV_rd v
  | global g => exact trivial
  | func f => exact RdV.mk1 ⟨#[], rfl, rfl⟩ rfl

theorem StRel.ctx (hc : CallSound cx call) (tab : TabOk cx) (hs : StRel cx W0 F0 O0 nt st a W F E) : Ctx cx call W F E (fun _ => True) st.h (opnd st) a :=
  ⟨hc, tab, hs.hr, opnd_rd hs.t, hs.hF⟩

theorem put_getD {dst : Option Nat} {v : Value} (hd : ∀ d, dst = some d → d < a.tmps.size) (s : Nat) :
    (a.put dst v).tmps.getD s undef = if dst = some s then v else a.tmps.getD s undef := by
  cases dst with
  | none => simp [Act.put]
  | some d =>
    have := hd d rfl
    simp only [Act.put, Array.getD_eq_getD_getElem?, Array.getElem?_setIfInBounds, Option.some.injEq]
    by_cases e : d = s
    · subst e; simp [this]
    · simp [e]

theorem putV_get {t : List (Nat × V)} {dst : Option Nat} {x : V} (s : Nat) : getT (putV t dst x) s = if dst = some s then x else getT t s := by
  cases dst with
  | none => simp [putV]
  | some d =>
    simp only [putV, getT, Option.some.injEq]
    by_cases e : d = s
    · subst e; simp
    · have : Nat.beq d s = false := by
        cases hb : Nat.beq d s with
        | false => rfl
        | true => exact absurd (Nat.eq_of_beq_eq_true hb) e
      simp [this, e]

theorem put_size (dst : Option Nat) (v : Value) : (a.put dst v).tmps.size = a.tmps.size := by
  cases dst <;> simp [Act.put]
theorem put_defers (dst : Option Nat) (v : Value) : (a.put dst v).defers = a.defers := by
  cases dst <;> simp [Act.put]

theorem dst_may {o : Oper} (h : (match o.dst with | some d => Nat.blt d nt.nt && !hasN nt.K d | none => true) = true) (d : Nat) (e : o.dst = some d) : nt.may d := by
  rw [e] at h
  simp only [Bool.and_eq_true, Bool.not_eq_true'] at h
  refine ⟨by simpa [Nat.blt_eq] using h.1, fun k => ?_⟩
  rw [hasN_iff.2 k] at h
  exact absurd h.2 (by simp)

/-- a step of memory -/
theorem StRel.step {dst : Option Nat} {v : Value} {x : V} {u : Ups} (hs : StRel cx W0 F0 O0 nt st a W F E) (hd : ∀ d, dst = some d → nt.may d) (hp : OpPost cx.P W F E (fun _ => True) st.h W' F' E' u) (hv : RdV cx.P W' F' E' x v) :
    StRel cx W0 F0 O0 nt { t := putV st.t dst x, h := setUps st.h u } (a.put dst v) W' F' E' := by
  have old : ∀ m b, atName st.h E m b → b ∈ O0 ∨ W0.heap.size ≤ b := fun m b hat => hs.own b ⟨m, hat⟩
  have hsz : W0.heap.size ≤ W.heap.size := hs.later.size
  refine ⟨hp.hr, fun b hb => ?_, fun s => ?_, hs.later.trans hp.later, fun b hb hO => ?_, fun b hb => ?_, fun b hb => ?_, by rw [put_size]; exact hs.size, fun i hi => ?_, by rw [put_defers]; exact hs.defers⟩
  · rcases hp.fz b hb with k | ⟨n, _, k⟩ | k
    · exact Nat.lt_of_lt_of_le (hs.hF b k) hp.later.size
    · exact Nat.lt_of_lt_of_le (hs.hr.lt b ⟨n, k⟩) hp.later.size
    · exact k.2
  · rw [put_getD (fun d h => by rw [hs.size]; exact (hd d h).1), putV_get]
    split
    · exact hv
    · exact (hs.t s).later hp.later hp.env
  · rw [hp.frame b (by omega) (fun n _ hat => ?_)]
    · exact hs.frame b hb hO
    · rcases old n b hat with k | k
      · exact hO k
      · omega
  · obtain ⟨m, hat⟩ := hb
    by_cases hm : m ∈ upNames u
    · rcases hp.own m b hm hat with ⟨n, _, k⟩ | k
      · exact old n b k
      · exact .inr (by omega)
    · have : atName st.h E' m b := by
        obtain ⟨ver, B, L, h1, h2⟩ := hat
        exact ⟨ver, B, L, by rw [← setUps_get u st.h m hm]; exact h1, h2⟩
      exact old m b ((atName_env hp.env hs.hr).1 this)
  · rcases hp.fz b hb with k | ⟨n, _, k⟩ | k
    · exact hs.fz b k
    · exact .inr (old n b k)
    · exact .inr (.inr (by omega))
  · rw [put_getD (fun d h => by rw [hs.size]; exact (hd d h).1), if_neg (fun e => (hd i e).2 hi)]
    exact hs.keep i hi

theorem StRel.skip {dst : Option Nat} (hs : StRel cx W0 F0 O0 nt st a W F E) (hd : ∀ d, dst = some d → nt.may d) : StRel cx W0 F0 O0 nt { st with t := putV st.t dst .undef } (a.put dst undef) W F E :=
  hs.step (u := []) hd (OpPost.refl hs.hr) rfl

theorem undef_getD {g : Nat} {b : Bool} (h : a.tmps.getD g undef = .bool b) : a.tmps[g]? = some (.bool b) := by
  rw [Array.getD_eq_getD_getElem?] at h
  cases hg : a.tmps[g]? with
  | none => rw [hg] at h; cases h
  | some v => rw [hg] at h; simp at h; rw [h]

/-- what a guard says -/
theorem guard_rd {ops : List Oper} {o : Oper} {k : Bool → St → Option R} {r : R} (ht : ∀ s, RdV cx.P W F E (getT st.t s) (a.tmps.getD s undef)) (hk : guardK ops o st k = some r) :
    ∃ run st', k run st' = some r ∧ Region.wanted o (yielded ops.toArray a.tmps) = run ∧ st'.h = st.h ∧ ∀ s, getT st'.t s = getT st.t s := by
  unfold guardK at hk
  split at hk
  · rename_i hg
    exact ⟨true, st, hk, by simp [Region.wanted, hg], rfl, fun _ => rfl⟩
  · rename_i j want hg
    split at hk
    · cases hk
    rename_i g hj
    have hj' : ((ops.toArray)[j]?).bind (·.dst) = some g := by simpa using hj
    split at hk
    · rename_i b hb
      have hv := ht g
      rw [hb] at hv
      have hv := undef_getD (rd_bool hv)
      have same : ∀ s, getT ((g, V.v false [Cell.val .bool b]) :: st.t) s = getT st.t s := by
        intro s
        simp only [getT]
        cases hbe : Nat.beq g s with
        | false => rfl
        | true => rw [← Nat.eq_of_beq_eq_true hbe, hb]; rfl
      cases b with
      | true => exact ⟨want, _, hk, by simp only [Region.wanted, hg, yielded, hj', Option.bind_some, hv]; cases want <;> rfl, rfl, same⟩
      | false => exact ⟨!want, _, hk, by simp only [Region.wanted, hg, yielded, hj', Option.bind_some, hv]; cases want <;> rfl, rfl, same⟩
    · rename_i hb
      have hv := ht g
      rw [hb] at hv
      have hv : a.tmps.getD g undef = undef := hv
      refine ⟨false, st, hk, ?_, rfl, fun _ => rfl⟩
      simp only [Region.wanted, hg, yielded, hj', Option.bind_some]
      rw [Array.getD_eq_getD_getElem?] at hv
      cases hgt : a.tmps[g]? with
      | none => cases want <;> rfl
      | some v =>
        rw [hgt] at hv
        simp at hv
        subst hv
        cases want <;> rfl
    · cases hk

theorem StRel.guard {st' : St} (hs : StRel cx W0 F0 O0 nt st a W F E) (h1 : st'.h = st.h) (h2 : ∀ s, getT st'.t s = getT st.t s) : StRel cx W0 F0 O0 nt st' a W F E :=
  ⟨by rw [h1]; exact hs.hr, hs.hF, fun s => by rw [h2]; exact hs.t s, hs.later, hs.frame, by rw [h1]; exact hs.own, hs.fz, hs.size, hs.keep, hs.defers⟩

theorem all_iff {u : Ups} {n : Nat} (h : u.all (fun x => Nat.blt x.1 n) = true) : ∀ m ∈ upNames u, m < n := by
  intro m hm
  simp only [upNames, List.mem_map] at hm
  obtain ⟨x, hx, rfl⟩ := hm
  rw [List.all_eq_true] at h
  have := h x hx
  simpa [Nat.blt_eq] using this

/-- OPERATIONS IN THEIR ORDER -/
theorem evOps_sound (hc : CallSound cx call) (tab : TabOk cx) (hfn : FnOk cx call) (all : List Oper) (Q : Exit → Act → World → Prop) : ∀ (ops : List Oper) (i : Nat) (st : St) (a : Act) (W : World) (F : Fz) (E : EnvM) (k : St → Option R) (r : R),
    all.drop i = ops → dstsB nt.nt nt.K ops = true → StRel cx W0 F0 O0 nt st a W F E → evOps cx call fx all ops st k = some r →
    (∀ st' a' W' F' E', k st' = some r → StRel cx W0 F0 O0 nt st' a' W' F' E' → Q .normal a' W') → wpOps cx.P all.toArray Q (List.range' i ops.length) a W := by
  intro ops
  induction ops with
  | nil =>
    intro i st a W F E k r _ _ hs hk hQ
    exact hQ st a W F E hk hs
  | cons o rest ih =>
    intro i st a W F E k r hdrop hd hs hk hQ
    have hget : all[i]? = some o := by
      have : (all.drop i)[0]? = some o := by rw [hdrop]; rfl
      rw [List.getElem?_drop] at this
      simpa using this
    have hdrop' : all.drop (i + 1) = rest := by rw [← List.tail_drop, hdrop]; rfl
    simp only [dstsB, List.all_cons, Bool.and_eq_true] at hd
    obtain ⟨hd1, hd2⟩ := hd
    have hdst : ∀ d, o.dst = some d → nt.may d := fun d e => dst_may hd1 d e
    simp only [List.length_cons, List.range'_succ]
    simp only [evOps] at hk
    obtain ⟨run, st1, hk1, hwant, he1, he2⟩ := guard_rd hs.t hk
    have hs1 := hs.guard he1 he2
    have hg : (all.toArray)[i]? = some o := by simpa using hget
    simp only [wpOps, hg]
    cases run with
    | true =>
      simp only [hwant, if_true]
      left
      have hsound := evOp_sound (fx := fx) (hs1.ctx hc tab) hfn (o := o) (r := r) ?_ hk1
      · obtain ⟨x, u, hku, hok⟩ := hsound
        dsimp only at hku
        split at hku
        case h_2 => cases hku
        refine hok _ _ fun v W' F' E' hp hv => ?_
        exact ih (i + 1) _ _ W' F' E' k r hdrop' hd2 (hs1.step hdst hp hv) hku hQ
      · intro x u r' hku n hn
        dsimp only at hku
        split at hku
        case h_2 => cases hku
        rename_i hall
        exact ⟨trivial, all_iff hall n hn⟩
    | false =>
      simp only [hwant, Bool.false_eq_true, if_false]
      exact ih (i + 1) _ _ W F E k r hdrop' hd2 (hs1.skip hdst) hk1 hQ

end
end Go.Flat
