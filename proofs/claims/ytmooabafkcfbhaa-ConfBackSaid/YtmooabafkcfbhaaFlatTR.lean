/-
  Soundness of the flat reading, thirty-sixth part: regions whose order is open.
-/
import Derived.Test.YtmooabafkcfbhaaFlatTQ
namespace Go.Flat
open Go.RowKit (Below)

/-- what is known of an operation once the region was gone through: its answer, and what it looks at and turns; none: it was not wanted -/
abbrev Ent := Option (V × Ups × List Nat × List Nat)
def Ent.val : Ent → V
  | none => .undef
  | some x => x.1
def Ent.ups : Ent → Ups
  | none => []
  | some x => x.2.1

def opndT (T : Nat → V) : Operand → V
  | .tmp t => T t
  | .const v => constV v
  | .global _ => .lost
  | .func f => .v false [.clo f .unit ()]

/-- what a guard comes to -/
def guardT (ops : List Oper) (o : Oper) (T : Nat → V) : Option Bool :=
  match o.guard with
  | none => some true
  | some (j, want) =>
    match (ops[j]?).bind (·.dst) with
    | none => none
    | some g =>
      match T g with
      | .v false [.val .bool b] => some (bif b then want else !want)
      | .undef => some false
      | _ => none

def putT (T : Nat → V) (dst : Option Nat) (x : V) : Nat → V := fun s => if dst = some s then x else T s

section
variable {cx : Cx} {call : Oracle cx} {fx : Hints} {R : Type}

/-- the region, gone through in its text's order -/
def Trace (cx : Cx) (call : Oracle cx) (fx : Hints) (all : List Oper) : List Oper → (Nat → V) → Heap → List Ent → (Nat → V) → Heap → Prop
  | [], T, h, L, T', h' => L = [] ∧ T' = T ∧ h' = h
  | o :: r, T, h, L, T', h' => ∃ e L', L = e :: L' ∧
      (match e with
       | none => guardT all o T = some false
       | some (x, u, s1, s2) => guardT all o T = some true ∧ evOp cx call fx o (opndT T) (restrict h (s1 ++ s2)) (fun x u => some (x, u)) = some (x, u) ∧ (∀ n ∈ upNames u, n ∈ s2 ∧ n < h.length)) ∧
      Trace cx call fx all r (putT T o.dst e.val) (setUps h e.ups) L' T' h'

theorem guardK_T {ops : List Oper} {o : Oper} {st : St} {k : Bool → St → Option R} {r : R} (hk : guardK ops o st k = some r) :
    ∃ run st', k run st' = some r ∧ guardT ops o (getT st.t) = some run ∧ st'.h = st.h ∧ getT st'.t = getT st.t := by
  unfold guardK at hk
  unfold guardT
  cases hg : o.guard with
  | none => rw [hg] at hk; exact ⟨true, st, hk, rfl, rfl, rfl⟩
  | some jw =>
    obtain ⟨j, want⟩ := jw
    rw [hg] at hk
    dsimp only at hk ⊢
    cases hj : (ops[j]?).bind (·.dst) with
    | none => rw [hj] at hk; cases hk
    | some g =>
      rw [hj] at hk
      dsimp only at hk ⊢
      split at hk
      · rename_i b hb
        have same : getT ((g, V.v false [Cell.val .bool b]) :: st.t) = getT st.t := by
          funext s
          simp only [getT]
          cases hbe : Nat.beq g s with
          | false => rfl
          | true => rw [← Nat.eq_of_beq_eq_true hbe, hb]; rfl
        simp only [hb]
        cases b with
        | true => exact ⟨want, _, hk, rfl, rfl, same⟩
        | false => exact ⟨!want, _, hk, rfl, rfl, same⟩
      · rename_i hb
        simp only [hb]
        exact ⟨false, st, hk, rfl, rfl, rfl⟩
      · cases hk

theorem opnd_T (st : St) : opnd st = opndT (getT st.t) := by
  funext x
  cases x <;> rfl

def trOf : List Ent → Nat → Tr → Tr
  | [], _, tr => tr
  | none :: L, i, tr => trOf L (i + 1) tr
  | some (_, _, s1, s2) :: L, i, tr => trOf L (i + 1) (noteTr i s1 s2 tr)

theorem touchK_nat (o : Oper) (ρ : Operand → V) (h : Heap) {k : List Nat → List Nat → Option R} {r : R} (hk : touchK cx fx o ρ h k = some r) : ∃ s1 s2, k s1 s2 = some r := by
  have force : ∀ (ns : List Nat) {kk : List Nat → Option R}, forceL ns kk = some r → ∃ ms, kk ms = some r := by
    intro ns
    induction ns with
    | nil => intro kk h; exact ⟨_, h⟩
    | cons n rest ih => intro kk h; obtain ⟨ms, h⟩ := ih h; exact ⟨_, h⟩
  have close : ∀ (d : Nat) (ns : List Nat) {kk : List Nat → Option R}, closeK h d ns kk = some r → ∃ ms, kk ms = some r := by
    intro d
    induction d with
    | zero => intro ns kk hh; exact force ns hh
    | succ d ih =>
      intro ns kk hh
      obtain ⟨ms, hh⟩ := force ns hh
      obtain ⟨ms', hh⟩ := ih _ hh
      exact ⟨_, hh⟩
  have wr : ∀ ns, closeK h 4 ns (fun ns => forceL (fresh cx fx o) fun fr => k [] (ns ++ fr)) = some r → ∃ s1 s2, k s1 s2 = some r := by
    intro ns hh
    obtain ⟨ms, hh⟩ := close 4 ns hh
    obtain ⟨fr, hh⟩ := force _ hh
    exact ⟨_, _, hh⟩
  have rd : ∀ ns, closeK h 4 ns (fun ns => k ns []) = some r → ∃ s1 s2, k s1 s2 = some r := by
    intro ns hh
    obtain ⟨ms, hh⟩ := close 4 ns hh
    exact ⟨_, _, hh⟩
  unfold touchK at hk
  dsimp only at hk
  split at hk
  all_goals (try exact ⟨_, _, hk⟩)
  all_goals (try exact rd _ hk)
  all_goals (try exact wr _ hk)
  all_goals (try (obtain ⟨fr, hk⟩ := force _ hk; exact ⟨_, _, hk⟩))
  · split at hk
    · split at hk
      · obtain ⟨ms, hk⟩ := close 4 _ hk
        obtain ⟨fr, hk⟩ := force _ hk
        exact ⟨_, _, hk⟩
      · exact wr _ hk
    · exact wr _ hk

theorem evOpsT_trace (all : List Oper) : ∀ (ops : List Oper) (i : Nat) (st : St) (tr : Tr) (k : St → Tr → Option R) (r : R), evOpsT cx call fx all ops i st tr k = some r →
    ∃ L st', k st' (trOf L i tr) = some r ∧ Trace cx call fx all ops (getT st.t) st.h L (getT st'.t) st'.h := by
  intro ops
  induction ops with
  | nil => intro i st tr k r hk; exact ⟨[], st, hk, rfl, rfl, rfl⟩
  | cons o rest ih =>
    intro i st tr k r hk
    simp only [evOpsT] at hk
    obtain ⟨run, st1, hk, hg, hh, ht⟩ := guardK_T hk
    cases run with
    | true =>
      dsimp only at hk
      obtain ⟨s1, s2, hk⟩ := touchK_nat _ _ _ hk
      rw [evOp_nat] at hk
      cases hev : evOp cx call fx o (opnd st1) (restrict st1.h (s1 ++ s2)) (fun x u => some (x, u)) with
      | none => rw [hev] at hk; cases hk
      | some p =>
        obtain ⟨x, u⟩ := p
        rw [hev] at hk
        simp only [Option.bind_some] at hk
        split at hk
        case h_2 => cases hk
        rename_i hall
        obtain ⟨L, st', h1, h2⟩ := ih _ _ _ _ r hk
        refine ⟨some (x, u, s1, s2) :: L, st', h1, some (x, u, s1, s2), L, rfl, ⟨hg, ?_, fun n hn => ?_⟩, ?_⟩
        · rw [← ht, ← hh, ← opnd_T]; exact hev
        · simp only [upNames, List.mem_map] at hn
          obtain ⟨y, hy, rfl⟩ := hn
          rw [List.all_eq_true] at hall
          have := hall y hy
          simp only [Bool.and_eq_true] at this
          exact ⟨hasN_iff.1 this.1, by rw [← hh]; simpa [Nat.blt_eq] using this.2⟩
        · have : putT (getT st.t) o.dst (Ent.val (some (x, u, s1, s2))) = getT (putV st1.t o.dst x) := by
            funext s; rw [putV_get, ht]; rfl
          rw [this, ← hh]
          exact h2
    | false =>
      dsimp only at hk
      obtain ⟨L, st', h1, h2⟩ := ih _ _ _ _ r hk
      refine ⟨none :: L, st', h1, none, L, rfl, hg, ?_⟩
      have : putT (getT st.t) o.dst (Ent.val none) = getT (putV st1.t o.dst .undef) := by
        funext s; rw [putV_get, ht]; rfl
      rw [this, ← hh]
      exact h2

/-! ### what was noted -/

theorem trOf_eq : ∀ (L : List Ent) (i : Nat) (tr : Tr), trOf L i tr = trOf L i [] ++ tr := by
  intro L
  induction L with
  | nil => intro i tr; rfl
  | cons e L ih =>
    intro i tr
    cases e with
    | none => exact ih _ _
    | some x =>
      obtain ⟨x, u, s1, s2⟩ := x
      simp only [trOf]
      rw [ih, ih (i + 1) (noteTr i s1 s2 [])]
      rw [List.append_assoc]
      congr 1
      unfold noteTr
      split <;> simp

theorem trOf_mem : ∀ (L : List Ent) (i j : Nat) (x : V) (u : Ups) (s1 s2 : List Nat), L[j]? = some (some (x, u, s1, s2)) → ¬ (s1 = [] ∧ s2 = []) → (i + j, s1, s2) ∈ trOf L i [] := by
  intro L
  induction L with
  | nil => intro i j x u s1 s2 h; simp at h
  | cons e L ih =>
    intro i j x u s1 s2 h hne
    cases j with
    | zero =>
      simp at h
      subst h
      simp only [trOf]
      rw [trOf_eq]
      have : noteTr i s1 s2 [] = [(i, s1, s2)] := by
        unfold noteTr
        split
        · exact absurd ⟨rfl, rfl⟩ hne
        · rfl
      rw [this]
      simp
    | succ j =>
      simp only [List.getElem?_cons_succ] at h
      have := ih (i + 1) j x u s1 s2 h hne
      cases e with
      | none => simp only [trOf]; rw [show i + (j + 1) = i + 1 + j by omega]; exact this
      | some y =>
        obtain ⟨y, v, t1, t2⟩ := y
        simp only [trOf]
        rw [trOf_eq, show i + (j + 1) = i + 1 + j by omega]
        exact List.mem_append_left _ this

theorem clash_nil (b : List Nat × List Nat) : clash ([], []) b = false ∧ clash b ([], []) = false := by
  have h1 : ∀ l : List Nat, meet [] l = false := fun l => rfl
  have h2 : ∀ l : List Nat, meet l [] = false := by
    intro l
    induction l with
    | nil => rfl
    | cons n r ih => simp [meet, hasN]
  simp [clash, h1, h2]

theorem apart_all {bs : List Nat} : ∀ {tr : Tr}, apartTr bs tr = true → ∀ (pre post : Tr) (x y : Nat × List Nat × List Nat), tr = pre ++ x :: post → y ∈ post → clash x.2 y.2 = true → ordered bs x.1 y.1 = true := by
  intro tr
  induction tr with
  | nil => intro _ pre post x y h; simp at h
  | cons z r ih =>
    intro h pre post x y he hy hc
    obtain ⟨zi, zs⟩ := z
    simp only [apartTr, Bool.and_eq_true] at h
    cases pre with
    | nil =>
      simp at he
      obtain ⟨rfl, rfl⟩ := he
      have := h.1
      rw [List.all_eq_true] at this
      have := this y hy
      simp only [Bool.or_eq_true, Bool.not_eq_true'] at this
      rcases this with q | q
      · simp only at hc; rw [hc] at q; cases q
      · exact q
    | cons w pre =>
      simp at he
      exact ih h.2 pre post x y he.2 hy hc

/-- the notes stand in their order -/
theorem trOf_split : ∀ (L : List Ent) (b i j : Nat) (x y : V) (u v : Ups) (s1 s2 t1 t2 : List Nat), i < j → L[i]? = some (some (x, u, s1, s2)) → L[j]? = some (some (y, v, t1, t2)) → ¬ (s1 = [] ∧ s2 = []) → ¬ (t1 = [] ∧ t2 = []) →
    ∃ pre post, (trOf L b []).reverse = pre ++ (b + i, s1, s2) :: post ∧ (b + j, t1, t2) ∈ post := by
  intro L
  induction L with
  | nil => intro b i j x y u v s1 s2 t1 t2 _ h; simp at h
  | cons e L ih =>
    intro b i j x y u v s1 s2 t1 t2 hij h1 h2 hs ht
    obtain ⟨j, rfl⟩ : ∃ j', j = j' + 1 := ⟨j - 1, by omega⟩
    simp only [List.getElem?_cons_succ] at h2
    cases i with
    | zero =>
      simp at h1
      subst h1
      simp only [trOf]
      rw [trOf_eq]
      have : noteTr b s1 s2 [] = [(b, s1, s2)] := by
        unfold noteTr
        split
        · exact absurd ⟨rfl, rfl⟩ hs
        · rfl
      rw [this, List.reverse_append]
      refine ⟨[], (trOf L (b + 1) []).reverse, rfl, ?_⟩
      rw [List.mem_reverse, show b + (j + 1) = b + 1 + j by omega]
      exact trOf_mem L (b + 1) j y v t1 t2 h2 ht
    | succ i =>
      simp only [List.getElem?_cons_succ] at h1
      obtain ⟨pre, post, k1, k2⟩ := ih (b + 1) i j x y u v s1 s2 t1 t2 (by omega) h1 h2 hs ht
      have e1 : b + (i + 1) = b + 1 + i := by omega
      have e2 : b + (j + 1) = b + 1 + j := by omega
      rw [e1, e2]
      cases e with
      | none => exact ⟨pre, post, k1, k2⟩
      | some z =>
        obtain ⟨z, w, r1, r2⟩ := z
        simp only [trOf]
        rw [trOf_eq, List.reverse_append, k1]
        exact ⟨(noteTr b r1 r2 []).reverse ++ pre, post, by rw [List.append_assoc], k2⟩

theorem apart_of {bs : List Nat} {L : List Ent} (h : apartTr bs (trOf L 0 []).reverse = true) {i j : Nat} (hij : i < j) {x y : V} {u v : Ups} {s1 s2 t1 t2 : List Nat} (h1 : L[i]? = some (some (x, u, s1, s2))) (h2 : L[j]? = some (some (y, v, t1, t2)))
    (hc : clash (s1, s2) (t1, t2) = true) : ordered bs i j = true := by
  by_cases hs : s1 = [] ∧ s2 = []
  · obtain ⟨rfl, rfl⟩ := hs; rw [(clash_nil _).1] at hc; cases hc
  by_cases ht : t1 = [] ∧ t2 = []
  · obtain ⟨rfl, rfl⟩ := ht; rw [(clash_nil _).2] at hc; cases hc
  obtain ⟨pre, post, k1, k2⟩ := trOf_split L 0 i j x y u v s1 s2 t1 t2 hij h1 h2 hs ht
  simp only [Nat.zero_add] at k1 k2
  exact apart_all h pre post _ _ k1 k2 hc

theorem meet_iff {a b : List Nat} : meet a b = true ↔ ∃ n, n ∈ a ∧ n ∈ b := by
  simp only [meet, List.any_eq_true, hasN_iff]
theorem clash_iff {s1 s2 t1 t2 : List Nat} : clash (s1, s2) (t1, t2) = true ↔ (∃ n, n ∈ s2 ∧ n ∈ t1 ++ t2) ∨ ∃ n, n ∈ t2 ∧ n ∈ s1 := by
  simp only [clash, Bool.or_eq_true, meet_iff]

end
end Go.Flat
