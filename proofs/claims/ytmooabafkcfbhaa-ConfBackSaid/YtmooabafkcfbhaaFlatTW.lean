/-
  The flat reading and the rows: arguments that are read; a law's call.
-/
import Derived.Test.YtmooabafkcfbhaaFlatTV
import Derived.ProofKit
import Derived.OpenShut
namespace Go.Flat
open Go.RowKit (Below)
open Go.ChangeShapes Go.WideShapes

/-- what every value of a row's argument keeps: numbers fit their kinds; lengths fit -/
def Wf : (t : Ty) → El t → Prop
  | .pair a b, x => Wf a x.1 ∧ Wf b x.2
  | .wrap e, x => Wf e x
  | .int k, x => k.min ≤ x ∧ x ≤ k.max
  | .str, x => x.length ≤ maxLen
  | .slice e, x => x.length ≤ maxLen ∧ ∀ y ∈ x, Wf e y
  | _, _ => True

def readFieldsB (P : Program) (self : TypeId → Ty → Bool) : List Field → Ty → Nat → Bool
  | [], .unit, _ => true
  | [f], e, off => Nat.beq f.offset off && (partB P f.type e && self f.type e)
  | f :: g :: r, .pair a b, off => Nat.beq f.offset off && (partB P f.type a && (self f.type a && readFieldsB P self (g :: r) b (off + width a)))
  | _, _, _ => false

/-- may a type be read as a code? -/
def readB (P : Program) : Nat → TypeId → Ty → Bool
  | 0, _, _ => false
  | d + 1, t, c =>
    match P.underlying t, c with
    | some .bool, .bool => true
    | some (.int k), .int k' => decide (k = k')
    | some .string, .str => true
    | some (.slice el), .slice e => partB P el e && (readB P d el e && !Nat.beq (width e) 0)
    | some (.struct fs), .wrap e => partB P t (.wrap e) && readFieldsB P (readB P d) fs.toList e 0
    | some (.array n el), .wrap e => partB P t (.wrap e) && eqItemsB P (readB P d) el n e
    | _, _ => false

section
variable {H : Type} {enc : TypeId × Value → H} {P : Program} {w : World} {held : Bool} {F : Fz}

theorem part_cells {t : TypeId} {e : Ty} (h : partB P t e = true) : P.cellsOf t = width e := by
  unfold partB at h
  split at h
  case h_2 => cases h
  rename_i ti hti
  simp only [Bool.and_eq_true] at h
  rw [show P.cellsOf t = ti.size by simp [Program.cellsOf, hti]]
  exact Nat.eq_of_beq_eq_true h.1

/-- how a reading of so deep goes -/
def ReadOk (enc : TypeId × Value → H) (P : Program) (w : World) (held : Bool) (F : Fz) (self : TypeId → Ty → Bool) : Prop :=
  ∀ t c, self t c = true → ∀ n (cs : List Value) (y : DataW H × List MemPlace), DataW.trod enc P w 0 (fun _ => true) held n t cs = some y → ∃ x : El c, cs.length = width c ∧ Rd P c x w F (fun j => cs[j]?) ∧ Wf c x

theorem mapM_get {α β : Type} {f : α → Option β} : ∀ {l : List α} {r : List β}, l.mapM f = some r → ∀ (i : Nat) (x : α), l[i]? = some x → f x = r[i]? := by
  intro l
  induction l with
  | nil => intro r _ i x h; simp at h
  | cons a l ih =>
    intro r h i x hx
    rw [List.mapM_cons] at h
    simp only [bind, Option.bind_eq_some_iff, pure, Option.some.injEq] at h
    obtain ⟨b, h1, r', h2, rfl⟩ := h
    cases i with
    | zero => simp at hx; subst hx; simpa using h1
    | succ i => simpa using ih h2 i x (by simpa using hx)

theorem mapM_size {α β : Type} {f : α → Option β} : ∀ {l : List α} {r : List β}, l.mapM f = some r → r.length = l.length := by
  intro l
  induction l with
  | nil => intro r h; simp at h; subst h; rfl
  | cons a l ih =>
    intro r h
    rw [List.mapM_cons] at h
    simp only [bind, Option.bind_eq_some_iff, pure, Option.some.injEq] at h
    obtain ⟨b, h1, r', h2, rfl⟩ := h
    simp [ih h2]

theorem cells_get {a : Addr} {n : Nat} {cs : List Value} (h : w.cells? 0 a n = some cs) : cs.length = n ∧ ∀ j, j < n → cs[j]? = w.cell? (a.add j) := by
  unfold World.cells? at h
  rw [if_pos (Nat.zero_le _)] at h
  have hl : cs.length = n := by have := mapM_size h; simpa using this
  refine ⟨hl, fun j hj => ?_⟩
  have hj' : (List.range n)[j]? = some j := List.getElem?_range hj
  exact (mapM_get h j j hj').symm

theorem fields_read {self : TypeId → Ty → Bool} (ih : ReadOk enc P w held F self) {n : Nat} : ∀ (fs : List Field) (e : Ty) (off : Nat) (cs : List Value),
    readFieldsB P self fs e off = true → off + width e ≤ cs.length → (∀ f ∈ fs, ∃ y, DataW.trod enc P w 0 (fun _ => true) held n f.type ((cs.drop f.offset).take (P.cellsOf f.type)) = some y) →
      ∃ x : El e, Rd P e x w F (fun j => cs[off + j]?) ∧ Wf e x := by
  intro fs
  induction fs with
  | nil =>
    intro e off cs h _ _
    cases e <;> (try (cases h))
    exact ⟨(), trivial, trivial⟩
  | cons f r ihf =>
    intro e off cs h hlen hf
    have step : ∀ (c : Ty), Nat.beq f.offset off = true → partB P f.type c = true → self f.type c = true → off + width c ≤ cs.length → ∃ x : El c, Rd P c x w F (fun j => cs[off + j]?) ∧ Wf c x := by
      intro c k1 k2 k3 k4
      have k1 := Nat.eq_of_beq_eq_true k1
      obtain ⟨y, hy⟩ := hf f (by simp)
      rw [k1, part_cells k2] at hy
      obtain ⟨x, _, h2, h3⟩ := ih _ _ k3 _ _ _ hy
      refine ⟨x, Rd.congr c (fun j hj => ?_) h2, h3⟩
      rw [List.getElem?_take, if_pos hj, List.getElem?_drop]
    cases r with
    | nil =>
      simp only [readFieldsB, Bool.and_eq_true] at h
      exact step e h.1 h.2.1 h.2.2 hlen
    | cons g r =>
      cases e with
      | pair a b =>
        simp only [readFieldsB, Bool.and_eq_true] at h
        simp only [width] at hlen
        obtain ⟨x, x1, x2⟩ := step a h.1 h.2.1 h.2.2.1 (by omega)
        obtain ⟨y, y1, y2⟩ := ihf b (off + width a) cs h.2.2.2 (by omega) (fun f' hf' => hf f' (by simp [hf']))
        exact ⟨(x, y), ⟨x1, Rd.congr b (fun j _ => by rw [Nat.add_assoc]) y1⟩, x2, y2⟩
      | _ => simp [readFieldsB] at h

theorem items_read {self : TypeId → Ty → Bool} (ih : ReadOk enc P w held F self) {el : TypeId} {m : Nat} : ∀ (n : Nat) (e : Ty) (i : Nat) (cs : List Value),
    eqItemsB P self el n e = true → i * P.cellsOf el + width e ≤ cs.length → (∀ j, i ≤ j → j < i + n → ∃ y, DataW.trod enc P w 0 (fun _ => true) held m el ((cs.drop (j * P.cellsOf el)).take (P.cellsOf el)) = some y) →
      ∃ x : El e, Rd P e x w F (fun j => cs[i * P.cellsOf el + j]?) ∧ Wf e x := by
  intro n
  induction n with
  | zero =>
    intro e i cs h _ _
    cases e <;> (try (cases h))
    exact ⟨(), trivial, trivial⟩
  | succ n ihn =>
    intro e i cs h hlen hf
    have step : ∀ (c : Ty), partB P el c = true → self el c = true → ∃ x : El c, Rd P c x w F (fun j => cs[i * P.cellsOf el + j]?) ∧ Wf c x := by
      intro c k2 k3
      obtain ⟨y, hy⟩ := hf i (Nat.le_refl _) (by omega)
      obtain ⟨x, _, h2, h3⟩ := ih _ _ k3 _ _ _ hy
      refine ⟨x, Rd.congr c (fun j hj => ?_) h2, h3⟩
      rw [List.getElem?_take, if_pos (by rw [part_cells k2]; exact hj), List.getElem?_drop]
    cases n with
    | zero =>
      simp only [eqItemsB, Bool.and_eq_true] at h
      exact step e h.1 h.2
    | succ n =>
      cases e with
      | pair a b =>
        simp only [eqItemsB, Bool.and_eq_true] at h
        have hc := part_cells h.1
        simp only [width] at hlen
        obtain ⟨x, x1, x2⟩ := step a h.1 h.2.1
        have e1 : (i + 1) * P.cellsOf el = i * P.cellsOf el + width a := by rw [Nat.succ_mul, hc]
        obtain ⟨y, y1, y2⟩ := ihn b (i + 1) cs h.2.2 (by omega) (fun j h1 h2 => hf j (by omega) (by omega))
        refine ⟨(x, y), ⟨x1, Rd.congr b (fun j _ => ?_) y1⟩, x2, y2⟩
        rw [e1, Nat.add_assoc]
      | _ => simp [eqItemsB] at h

theorem read_ok : ∀ (d : Nat), ReadOk enc P w held (fun b => b < w.heap.size) (readB P d) := by
  intro d
  induction d with
  | zero => intro t c h; cases h
  | succ d ih =>
    intro t c h n cs y hy
    unfold readB at h
    split at h
    · rename_i hu
      obtain ⟨b, rfl, _⟩ := DataW.trod_bool hu hy
      exact ⟨b, rfl, rfl, trivial⟩
    · rename_i k k' hu
      obtain ⟨m, rfl, _, hw⟩ := DataW.trod_int hu hy
      have : k = k' := by simpa using h
      subst this
      simp only [Lit.wf, Bool.and_eq_true, decide_eq_true_eq] at hw
      exact ⟨m, rfl, rfl, hw⟩
    · rename_i hu
      obtain ⟨s, rfl, _, hs⟩ := DataW.trod_string hu hy
      refine ⟨s.data.toList, rfl, ?_, ?_⟩
      · show some (Value.string s) = some (.string ⟨s.data.toList.toArray⟩)
        rw [Array.toArray_toList]
      show s.data.toList.length ≤ maxLen
      have : s.data.toList.length = s.size := rfl
      rw [this]; exact hs
    · rename_i el e hu
      simp only [Bool.and_eq_true, Bool.not_eq_true'] at h
      obtain ⟨h1, h2, h3⟩ := h
      have hce := part_cells h1
      have hpos : 0 < width e := by
        rcases Nat.eq_zero_or_pos (width e) with q | q
        · rw [q] at h3; cases h3
        · exact q
      rcases DataW.trod_slice hu hy with ⟨rfl, _⟩ | ⟨a, len, cap, elems, rest, m, rfl, rfl, _, _, hlc, hcm, hel, hget, hsp, _⟩
      · exact ⟨[], rfl, .inl ⟨rfl, _, rfl⟩, Nat.zero_le _, by simp⟩
      · obtain ⟨hr1, hr2⟩ := hsp rfl
        -- each element's cells
        have each : ∀ i, i < cap → ∃ cs : List Value, w.cells? 0 (a.add (i * P.cellsOf el)) (P.cellsOf el) = some cs ∧ ∃ y, DataW.trod enc P w 0 (fun _ => true) held m el cs = some y := by
          intro i hi
          have hs : ∃ y, (w.cells? 0 (a.add (i * P.cellsOf el)) (P.cellsOf el)).bind (DataW.trod enc P w 0 (fun _ => true) held m el) = some y := by
            by_cases hlt : i < len
            · rw [hget i hlt, List.getElem?_eq_getElem (by omega)]; exact ⟨_, rfl⟩
            · have := hr2 (i - len) (by omega)
              rw [show len + (i - len) = i by omega] at this
              rw [this, List.getElem?_eq_getElem (by omega)]; exact ⟨_, rfl⟩
          obtain ⟨y, hy⟩ := hs
          rw [Option.bind_eq_some_iff] at hy
          obtain ⟨cs, k1, k2⟩ := hy
          exact ⟨cs, k1, y, k2⟩
        have spot : 0 < cap → a.spot = none ∧ a.block < w.heap.size := by
          intro hc
          obtain ⟨cs, k1, _⟩ := each 0 hc
          obtain ⟨l1, l2⟩ := cells_get k1
          have := l2 0 (by omega)
          rw [List.getElem?_eq_getElem (by omega)] at this
          simp only [Nat.zero_mul, Addr.add, if_true] at this
          have hs := this.symm
          unfold World.cell? at hs
          split at hs
          · rename_i c t fr hb
            split at hs
            · cases hs
            · rename_i hspot
              refine ⟨by cases hsp : a.spot with | none => rfl | some z => rw [hsp] at hspot; exact absurd rfl hspot, lt_of_getElem? hb⟩
          · cases hs
        have elem : ∀ i, i < len → ∃ x : El e, Rd P e x w (fun b => b < w.heap.size) (mem w a.block (a.off + i * width e)) ∧ Wf e x := by
          intro i hi
          obtain ⟨cs, k1, y, k2⟩ := each i (by omega)
          obtain ⟨l1, l2⟩ := cells_get k1
          obtain ⟨x, x1, x2, x3⟩ := ih _ _ h2 _ _ _ k2
          refine ⟨x, Rd.congr e (fun j hj => ?_) x2, x3⟩
          rw [l2 j (by omega)]
          obtain ⟨hs, _⟩ := spot (by omega)
          have ha : a = ⟨a.block, a.off, none⟩ := by cases a; simp at hs; subst hs; rfl
          rw [ha, addr_add, addr_add, hce]
          rfl
        rcases Nat.eq_zero_or_pos cap with hc0 | hc0
        · subst hc0
          have : len = 0 := by omega
          subst this
          exact ⟨[], rfl, .inl ⟨rfl, _, rfl⟩, Nat.zero_le _, by simp⟩
        · obtain ⟨hs, hb⟩ := spot hc0
          have ha : a = ⟨a.block, a.off, none⟩ := by cases a; simp at hs; subst hs; rfl
          -- all elements
          have all : ∀ k, k ≤ len → ∃ xs : List (El e), xs.length = k ∧ (∀ i (h : i < xs.length), Rd P e xs[i] w (fun b => b < w.heap.size) (mem w a.block (a.off + i * width e))) ∧ ∀ y ∈ xs, Wf e y := by
            intro k
            induction k with
            | zero => intro _; exact ⟨[], rfl, fun i hi => by simp at hi, by simp⟩
            | succ k ihk =>
              intro hk
              obtain ⟨xs, l1, l2, l3⟩ := ihk (by omega)
              obtain ⟨x, x1, x2⟩ := elem k (by omega)
              refine ⟨xs ++ [x], by simp [l1], fun i hi => ?_, fun y hy => ?_⟩
              · simp at hi
                by_cases hlt : i < xs.length
                · rw [List.getElem_append_left hlt]; exact l2 i hlt
                · have : i = k := by omega
                  subst this
                  rw [List.getElem_append_right (by omega)]
                  simp [l1, x1]
              · rcases List.mem_append.1 hy with hy | hy
                · exact l3 y hy
                · simp at hy; subst hy; exact x2
          obtain ⟨xs, l1, l2, l3⟩ := all len (Nat.le_refl _)
          refine ⟨xs, rfl, .inr ⟨a.block, a.off, cap, ?_, hb, by omega, l2⟩, by omega, l3⟩
          show some (Value.slice (some a) len cap) = some (Value.slice (some ⟨a.block, a.off, none⟩) xs.length cap)
          rw [l1, ← ha]
    · rename_i fs e hu
      simp only [Bool.and_eq_true] at h
      obtain ⟨xs, m, rfl, _, hl, hxs, hget⟩ := DataW.trod_struct hu hy
      have hcl : cs.length = width e := by rw [hl, part_cells h.1]; rfl
      obtain ⟨x, x1, x2⟩ := fields_read (F := fun b => b < w.heap.size) ih (n := m) fs.toList e 0 cs h.2 (by omega) (fun f hf => by
        obtain ⟨i, hi⟩ := List.getElem?_of_mem hf
        have hi' : fs[i]? = some f := by simpa using hi
        have := hget i f hi'
        have hlt : i < xs.length := by
          rw [hxs]
          rcases Nat.lt_or_ge i fs.size with q | q
          · exact q
          · rw [Array.getElem?_eq_none q] at hi'; cases hi'
        rw [List.getElem?_eq_getElem hlt] at this
        exact ⟨_, this⟩)
      exact ⟨x, hcl, Rd.congr e (fun j _ => by rw [Nat.zero_add]) x1, x2⟩
    · rename_i m el e hu
      simp only [Bool.and_eq_true] at h
      obtain ⟨xs, q, rfl, _, hl, hxs, hget⟩ := DataW.trod_array hu hy
      have hcl : cs.length = width e := by rw [hl, part_cells h.1]; rfl
      obtain ⟨x, x1, x2⟩ := items_read (F := fun b => b < w.heap.size) ih (m := q) m e 0 cs h.2 (by omega) (fun j _ hj => by
        have := hget j (by omega)
        rw [List.getElem?_eq_getElem (by omega)] at this
        exact ⟨_, this⟩)
      exact ⟨x, hcl, Rd.congr e (fun j _ => by rw [Nat.zero_mul, Nat.zero_add]) x1, x2⟩
    · cases h

/-- one argument of a row, read -/
theorem open_arg {t : TypeId} {c : Ty} {d : Nat} {base : Nat} {v : Value} {dd : DataW H} {p : List MemPlace} (hB : readB P d t c = true) (ha : aggB P t = agg c) (hok : Value.okWide P w .any base t v)
    (h : DataW.Trod enc P w 0 (fun _ => true) held t v dd p) : ∃ x : El c, formed c v ∧ Rd P c x w (fun b => b < w.heap.size) (one v) ∧ Wf c x := by
  obtain ⟨n, hn⟩ := h
  obtain ⟨x, x1, x2, x3⟩ := read_ok d t c hB n _ _ hn
  refine ⟨x, ⟨fun e => ?_, fun e => ?_, by rw [← x1]; simp⟩, Rd.congr c (fun j _ => by simp [one]) x2, x3⟩
  · rw [e] at ha
    unfold aggB at ha
    unfold Value.okWide at hok
    split at ha
    · rename_i hu; rw [hu] at hok; obtain ⟨cs, h1, _⟩ := hok; exact ⟨cs, h1⟩
    · rename_i hu; rw [hu] at hok; obtain ⟨cs, h1, _⟩ := hok; exact ⟨cs, h1⟩
    · cases ha
  · rw [e] at ha
    cases v with
    | agg cs =>
      exfalso
      unfold Value.okWide at hok
      unfold aggB at ha
      cases hu : P.underlying t with
      | none => rw [hu] at hok; simp [Cell.okWide, hu, Cell.ok] at hok
      | some u =>
        rw [hu] at hok ha
        cases u <;> simp_all [Cell.okWide, Cell.ok]
    | tuple cs =>
      exfalso
      unfold Value.okWide at hok
      unfold aggB at ha
      cases hu : P.underlying t with
      | none => rw [hu] at hok; simp [Cell.okWide, hu, Cell.ok] at hok
      | some u =>
        rw [hu] at hok ha
        cases u <;> simp_all [Cell.okWide, Cell.ok]
    | _ => rfl

end

/-- A LAW's CALL: what the flat reading answers is what the call returns, and nothing that was there has turned. -/
theorem law_calls {cx : Cx} (tab : TabOk cx) (hp : ∀ f s, cx.sig f = some s → Plain cx.P f) (hm : cx.P.follows .mixedOrders = true) {n K : Nat} {s : Sig} (hs : cx.sig K = some s) (hrs : s.rs = [.bool]) (hback : s.back = [])
    {x : El (cx.arg K)} {y : El (cx.out K)} (hx : evF cx n K x = some y) (ho : cx.out K = .bool) (hy : (ho ▸ y : El .bool) = true) {W : World} {vs : List Value} (hf : FormedL s.ps vs) (hrd : RdB cx.P (cx.arg K) x W (fun b => b < W.heap.size) [] (cat vs)) :
    Calls cx.P K vs.toArray W fun e W' => e = .returned (.bool true) ∧ Below W.heap.size W W' := by
  refine (evF_ok tab hp hm n K s hs x y hx W (fun b => b < W.heap.size) [] vs (fun _ h => h) hf hrd List.nodup_nil (by simp)).mono fun e W' h => ?_
  obtain ⟨v, F', rfl, hmove, ws, O', h1, rfl, h2, _, _, _⟩ := h
  refine ⟨?_, hmove.later.os, hmove.later.tape, hmove.later.output, hmove.later.size, fun b hb => hmove.frame b hb (by simp)⟩
  rw [hrs] at h1
  match ws, h1 with
  | [w], h1 =>
    have h3 := RdB.cast ho h2
    rw [hy] at h3
    obtain ⟨_, h4⟩ := h3
    rw [hback] at h4
    have h5 : cat ([w] ++ ([] : List Nat).filterMap (vs[·]?)) 0 = some (.bool true) := h4
    have hc := oneCell_cells (h1.1.2.1 rfl)
    rw [show ([w] ++ ([] : List Nat).filterMap (vs[·]?)) = [w] from rfl, cat_head (t := .bool) (by rw [hc]; rfl) 0 (by simp [width]), one, hc] at h5
    simp at h5
    subst h5
    rfl

/-! ### the tables' facts -/
def plainB (P : Program) (f : FuncId) : Bool := match P.funcs[f]? with | some fn => !(fn.name == "runtime.NumGoroutine") && !fn.body.isNone | none => false
theorem plainB_ok {P : Program} {f : FuncId} (h : plainB P f = true) : Plain P f := by
  unfold plainB at h
  split at h
  · rename_i fn hf
    simp only [Bool.and_eq_true, Bool.not_eq_true'] at h
    exact ⟨fn, hf, h.1, h.2⟩
  · cases h
theorem tab_ok {cx : Cx} {T : BT TI} (hT : ∀ t, cx.info t = T.get t) (h : T.allB (fun n i => infoB cx.P n i) id = true) : TabOk cx := fun t i hi => infoB_ok (BT.get_all T id h t i (by rw [← hT]; exact hi))
theorem plain_ok {cx : Cx} {T : BT Sig} (hT : ∀ f, cx.sig f = T.get f) (h : T.allB (fun n _ => plainB cx.P n) id = true) : ∀ f s, cx.sig f = some s → Plain cx.P f :=
  fun f s hs => plainB_ok (BT.get_all (p := fun n _ => plainB cx.P n) T id h f s (by rw [← hT]; exact hs))

end Go.Flat
