/-
  Soundness of the flat reading, thirty-seventh part: regions whose order is open, carried out.
-/
import Derived.Test.YtmooabafkcfbhaaFlatTR
namespace Go.Flat
open Go.RowKit (Below)

def ent (L : List Ent) (i : Nat) : Ent := (L[i]?).getD none

/-- the table where some have been carried out -/
def TD (ops : List Oper) (L : List Ent) (T0 : Nat → V) (D : Nat → Bool) : Nat → V := fun s =>
  match writerOf ops s 0 with
  | some i => if D i = true then (ent L i).val else T0 s
  | none => T0 s
/-- memory where some have been carried out -/
def HD (L : List Ent) (h0 : Heap) (D : Nat → Bool) : Nat → Heap
  | 0 => h0
  | n + 1 => if D n = true then setUps (HD L h0 D n) (ent L n).ups else HD L h0 D n

theorem HD_length (L : List Ent) (h0 : Heap) (D : Nat → Bool) : ∀ n, (HD L h0 D n).length = h0.length := by
  intro n
  induction n with
  | zero => rfl
  | succ n ih => simp only [HD]; split <;> simp [setUps_length, ih]

theorem HD_get {L : List Ent} {h0 : Heap} {D D' : Nat → Bool} {m : Nat} : ∀ n, (∀ i, i < n → m ∈ upNames (ent L i).ups → D i = D' i) → (HD L h0 D n)[m]? = (HD L h0 D' n)[m]? := by
  intro n
  induction n with
  | zero => intro _; rfl
  | succ n ih =>
    intro h
    have ih := ih fun i hi => h i (by omega)
    simp only [HD]
    by_cases hm : m ∈ upNames (ent L n).ups
    · have e := h n (by omega) hm
      rw [← e]
      split
      · exact setUps_over _ _ _ m hm (by rw [HD_length, HD_length])
      · exact ih
    · have k : ∀ (E : Nat → Bool), (if E n = true then setUps (HD L h0 E n) (ent L n).ups else HD L h0 E n)[m]? = (HD L h0 E n)[m]? := by
        intro E
        split
        · exact setUps_get _ _ m hm
        · rfl
      rw [k D, k D']
      exact ih

theorem HD_congr {L : List Ent} {h0 : Heap} {D D' : Nat → Bool} : ∀ n, (∀ i, i < n → D i = D' i) → HD L h0 D n = HD L h0 D' n := by
  intro n h
  apply List.ext_getElem?
  intro m
  exact HD_get n fun i hi _ => h i hi

theorem setUps_comm (h : Heap) (u v : Ups) (hd : ∀ n, n ∈ upNames u → n ∉ upNames v) : setUps (setUps h u) v = setUps (setUps h v) u := by
  apply List.ext_getElem?
  intro n
  by_cases h1 : n ∈ upNames u
  · rw [setUps_get v _ n (hd n h1)]
    exact setUps_over u _ _ n h1 (by rw [setUps_length])
  · rw [setUps_get u (setUps h v) n h1]
    by_cases h2 : n ∈ upNames v
    · exact setUps_over v _ _ n h2 (by rw [setUps_length])
    · rw [setUps_get v _ n h2, setUps_get v _ n h2, setUps_get u _ n h1]

def addD (D : Nat → Bool) (j : Nat) : Nat → Bool := fun i => D i || Nat.beq i j

theorem addD_self (D : Nat → Bool) (j : Nat) : addD D j j = true := by simp [addD]
theorem addD_other (D : Nat → Bool) (j i : Nat) (h : i ≠ j) : addD D j i = D i := by
  have : Nat.beq i j = false := by
    cases hb : Nat.beq i j with
    | false => rfl
    | true => exact absurd (Nat.eq_of_beq_eq_true hb) h
  simp [addD, this]

theorem HD_put {L : List Ent} {h0 : Heap} {D : Nat → Bool} {j : Nat} (hj : D j = false) : ∀ n, j < n → (∀ i, j < i → i < n → D i = true → ∀ m, m ∈ upNames (ent L j).ups → m ∉ upNames (ent L i).ups) →
    HD L h0 (addD D j) n = setUps (HD L h0 D n) (ent L j).ups := by
  intro n
  induction n with
  | zero => intro h; omega
  | succ n ih =>
    intro hlt hd
    simp only [HD]
    by_cases e : j = n
    · subst e
      rw [addD_self, if_pos rfl, hj, if_neg (by simp), HD_congr (D := addD D j) (D' := D) j fun i hi => addD_other D j i (by omega)]
    · have hjn : j < n := by omega
      rw [addD_other D j n (fun q => e q.symm), ih hjn fun i h1 h2 => hd i h1 (by omega)]
      split
      · rename_i hDn
        exact setUps_comm _ _ _ (hd n hjn (by omega) hDn)
      · rfl

theorem TD_put {ops : List Oper} {L : List Ent} {T0 : Nat → V} {D : Nat → Bool} {j : Nat} {o : Oper} (hn : (ops.filterMap (·.dst)).Nodup) (ho : ops[j]? = some o) (hj : D j = false) :
    TD ops L T0 (addD D j) = putT (TD ops L T0 D) o.dst (ent L j).val := by
  funext s
  unfold putT
  by_cases hd : o.dst = some s
  · have hw := writer_of ops s 0 j o hn ho hd
    rw [Nat.zero_add] at hw
    rw [if_pos hd]
    simp only [TD, hw, addD_self, if_true]
  · rw [if_neg hd]
    unfold TD
    cases hw : writerOf ops s 0 with
    | none => rfl
    | some i =>
      obtain ⟨_, o', k1, k2⟩ := writer_some ops s 0 i hw
      rw [Nat.sub_zero] at k1
      have hne : i ≠ j := fun e => by
        subst e
        rw [ho] at k1
        injection k1 with k1
        subst k1
        exact hd k2
      simp only [addD_other D j i hne]

def upto (j : Nat) : Nat → Bool := fun i => Nat.blt i j
theorem upto_succ (j : Nat) : upto (j + 1) = addD (upto j) j := by
  funext i
  simp only [upto, addD]
  rw [Bool.eq_iff_iff]
  simp [Nat.blt_eq, Nat.beq_eq]
  omega
theorem upto_self (j : Nat) : upto j j = false := by
  cases h : upto j j with
  | false => rfl
  | true => simp [upto, Nat.blt_eq] at h
theorem upto_iff {j i : Nat} : upto j i = true ↔ i < j := by simp [upto, Nat.blt_eq]

section
variable {cx : Cx} {call : Oracle cx} {fx : Hints} {R : Type}

/-- what is known of the operation at a place -/
def EntOk (cx : Cx) (call : Oracle cx) (fx : Hints) (all : List Oper) (T0 : Nat → V) (h0 : Heap) (L : List Ent) (j : Nat) (o : Oper) : Prop :=
  match ent L j with
  | none => guardT all o (TD all L T0 (upto j)) = some false
  | some (x, u, s1, s2) => guardT all o (TD all L T0 (upto j)) = some true ∧ evOp cx call fx o (opndT (TD all L T0 (upto j))) (restrict (HD L h0 (upto j) all.length) (s1 ++ s2)) (fun x u => some (x, u)) = some (x, u) ∧
      (∀ n ∈ upNames u, n ∈ s2 ∧ n < h0.length)

theorem trace_ents {all : List Oper} {T0 : Nat → V} {h0 : Heap} {L : List Ent} {T' : Nat → V} {h' : Heap} (hn : (all.filterMap (·.dst)).Nodup) : ∀ (r : List Oper) (j : Nat) (L' : List Ent) (T : Nat → V) (h : Heap),
    all.drop j = r → L.drop j = L' → T = TD all L T0 (upto j) → h = HD L h0 (upto j) all.length → Trace cx call fx all r T h L' T' h' →
      (∀ i o, j ≤ i → all[i]? = some o → EntOk cx call fx all T0 h0 L i o) ∧ T' = TD all L T0 (upto all.length) ∧ h' = HD L h0 (upto all.length) all.length := by
  intro r
  induction r with
  | nil =>
    intro j L' T h hr hL hT hh htr
    obtain ⟨_, rfl, rfl⟩ := htr
    have hlen : all.length ≤ j := by
      have := congrArg List.length hr
      simp at this
      omega
    have e : ∀ i, i < all.length → upto j i = upto all.length i := by
      intro i hi
      rw [upto_iff.2 hi, upto_iff.2 (by omega)]
    refine ⟨fun i o hi ho => ?_, ?_, ?_⟩
    · rw [List.getElem?_eq_none (by omega)] at ho; cases ho
    · rw [hT]
      funext s
      unfold TD
      cases hw : writerOf all s 0 with
      | none => rfl
      | some i =>
        obtain ⟨_, o', k1, _⟩ := writer_some all s 0 i hw
        rw [Nat.sub_zero] at k1
        have hi : i < all.length := by
          rcases Nat.lt_or_ge i all.length with q | q
          · exact q
          · rw [List.getElem?_eq_none q] at k1; cases k1
        simp only [e i hi]
    · rw [hh]; exact HD_congr _ e
  | cons o r ih =>
    intro j L' T h hr hL hT hh htr
    obtain ⟨e, L2, rfl, he, htr⟩ := htr
    have ho : all[j]? = some o := by
      have : (all.drop j)[0]? = some o := by rw [hr]; rfl
      rw [List.getElem?_drop] at this
      simpa using this
    have hjl : j < all.length := by
      rcases Nat.lt_or_ge j all.length with q | q
      · exact q
      · rw [List.getElem?_eq_none q] at ho; cases ho
    have hent : ent L j = e := by
      have : (L.drop j)[0]? = some e := by rw [hL]; rfl
      rw [List.getElem?_drop] at this
      unfold ent
      rw [show j = j + 0 from rfl, this]
      rfl
    have hr' : all.drop (j + 1) = r := by rw [← List.tail_drop, hr]; rfl
    have hL' : L.drop (j + 1) = L2 := by rw [← List.tail_drop, hL]; rfl
    obtain ⟨k1, k2, k3⟩ := ih (j + 1) L2 _ _ hr' hL'
      (by rw [hT, upto_succ, TD_put hn ho (upto_self j), hent])
      (by rw [hh, upto_succ, HD_put (upto_self j) all.length hjl (fun i h1 _ h3 => by rw [upto_iff] at h3; omega), hent]) htr
    refine ⟨fun i o' hi ho' => ?_, k2, k3⟩
    by_cases hij : i = j
    · subst hij
      rw [ho] at ho'
      injection ho' with ho'
      subst ho'
      unfold EntOk
      rw [hent]
      cases e with
      | none => rw [← hT]; exact he
      | some x =>
        obtain ⟨x, u, s1, s2⟩ := x
        rw [← hT, ← hh]
        exact ⟨he.1, he.2.1, fun n hn => ⟨(he.2.2 n hn).1, by have := (he.2.2 n hn).2; rw [hh, HD_length] at this; exact this⟩⟩
    · exact k1 i o' (by omega) ho'

end

section
variable {cx : Cx} {call : Oracle cx} {fx : Hints} {W0 W W' : World} {F0 F F' : Fz} {O0 : List Nat} {E E' : EnvM} {h : Heap} {a : Act} {nt : Slots} {st : St}

theorem guardT_wanted {ops : List Oper} {o : Oper} {T : Nat → V} {run : Bool} (ht : ∀ s, RdV cx.P W F E (T s) (a.tmps.getD s undef)) (hg : guardT ops o T = some run) : Region.wanted o (yielded ops.toArray a.tmps) = run := by
  unfold guardT at hg
  cases hgu : o.guard with
  | none => rw [hgu] at hg; injection hg with hg; subst hg; simp [Region.wanted, hgu]
  | some jw =>
    obtain ⟨j, want⟩ := jw
    rw [hgu] at hg
    dsimp only at hg
    cases hj : (ops[j]?).bind (·.dst) with
    | none => rw [hj] at hg; cases hg
    | some g =>
      rw [hj] at hg
      dsimp only at hg
      have hj' : ((ops.toArray)[j]?).bind (·.dst) = some g := by simpa using hj
      have hv := ht g
      split at hg
      · rename_i b hb
        injection hg with hg
        rw [hb] at hv
        have hv := undef_getD (rd_bool hv)
        simp only [Region.wanted, hgu, yielded, hj', Option.bind_some, hv]
        subst hg
        cases b <;> cases want <;> rfl
      · rename_i hb
        injection hg with hg
        subst hg
        rw [hb] at hv
        have hv : a.tmps.getD g undef = undef := hv
        simp only [Region.wanted, hgu, yielded, hj', Option.bind_some]
        rw [Array.getD_eq_getD_getElem?] at hv
        cases hgt : a.tmps[g]? with
        | none => cases want <;> rfl
        | some v =>
          rw [hgt] at hv
          simp at hv
          subst hv
          cases want <;> rfl
      · cases hg

def RelT (cx : Cx) (W0 : World) (F0 : Fz) (O0 : List Nat) (nt : Slots) (T : Nat → V) (h : Heap) (a : Act) (W : World) (F : Fz) (E : EnvM) : Prop :=
  ∃ st : St, st.h = h ∧ getT st.t = T ∧ StRel cx W0 F0 O0 nt st a W F E

theorem StRel.drew (hs : StRel cx W0 F0 O0 nt st a W F E) {st' : St} (h1 : st'.h = st.h) (h2 : getT st'.t = getT st.t) : StRel cx W0 F0 O0 nt st' a { W with drawn := W.drawn + 1 } F E := by
  have hl : Later W F { W with drawn := W.drawn + 1 } F := ⟨rfl, rfl, rfl, Nat.le_refl _, fun _ _ => rfl, fun _ hb => hb⟩
  refine ⟨by rw [h1]; exact hs.hr.world hl (fun b _ => ⟨rfl, fun h => h⟩), hs.hF, fun s => by rw [h2]; exact (hs.t s).later hl (EnvLe.refl E), hs.later.trans hl, hs.frame, by rw [h1]; exact hs.own, hs.fz, hs.size, hs.keep, hs.defers⟩

def namesIn (s2 : List Nat) (len : Nat) (u : Ups) : Bool := u.all fun y => hasN s2 y.1 && Nat.blt y.1 len
theorem namesIn_iff {s2 : List Nat} {len : Nat} {u : Ups} : namesIn s2 len u = true ↔ ∀ n ∈ upNames u, n ∈ s2 ∧ n < len := by
  unfold namesIn
  rw [List.all_eq_true]
  constructor
  · intro h n hn
    simp only [upNames, List.mem_map] at hn
    obtain ⟨y, hy, rfl⟩ := hn
    have := h y hy
    simp only [Bool.and_eq_true] at this
    exact ⟨hasN_iff.1 this.1, by simpa [Nat.blt_eq] using this.2⟩
  · intro h y hy
    obtain ⟨k1, k2⟩ := h y.1 (by simp only [upNames, List.mem_map]; exact ⟨y, hy, rfl⟩)
    simp only [Bool.and_eq_true]
    exact ⟨hasN_iff.2 k1, by simpa [Nat.blt_eq] using k2⟩

/-- what is asked of a region whose order is open -/
structure Open (cx : Cx) (call : Oracle cx) (fx : Hints) (ops : List Oper) (T0 : Nat → V) (h0 : Heap) (L : List Ent) : Prop where
  nodup : (ops.filterMap (·.dst)).Nodup
  look : lookAll ops (befs ops []) ops 0 = true
  back : backB ops 0 = true
  ents : ∀ i o, ops[i]? = some o → EntOk cx call fx ops T0 h0 L i o
  apart : apartTr (befs ops []) (trOf L 0 []).reverse = true

theorem drawn_sound {ops : List Oper} {T0 : Nat → V} {h0 : Heap} {L : List Ent} {Q : Exit → Act → World → Prop} (hc : CallSound cx call) (tab : TabOk cx) (hfn : FnOk cx call) (ho : Open cx call fx ops T0 h0 L) (hd : dstsB nt.nt nt.K ops = true)
    (hQ : ∀ a W F E, RelT cx W0 F0 O0 nt (TD ops L T0 (upto ops.length)) (HD L h0 (upto ops.length) ops.length) a W F E → Q .normal a W) :
    ∀ (fuel : Nat) (listed : Array Bool) (a : Act) (W : World) (F : Fz) (E : EnvM), listed.size = ops.length → ((List.range ops.length).filter fun i => !listed.getD i true).length ≤ fuel →
      (∀ j o, ops[j]? = some o → listed.getD j true = true → ∀ m, asks o m → listed.getD m true = true) →
      RelT cx W0 F0 O0 nt (TD ops L T0 (fun i => listed.getD i true)) (HD L h0 (fun i => listed.getD i true) ops.length) a W F E → wpAny cx.P .any ops.toArray Q fuel listed a W := by
  -- where nothing is ready, all has been carried out
  have done : ∀ (listed : Array Bool) (a : Act) (W : World) (F : Fz) (E : EnvM), listed.size = ops.length → (∀ i, i < ops.length → listed.getD i true = true) →
      RelT cx W0 F0 O0 nt (TD ops L T0 (fun i => listed.getD i true)) (HD L h0 (fun i => listed.getD i true) ops.length) a W F E → Q .normal a W := by
    intro listed a W F E _ hall hrel
    have e1 : HD L h0 (fun i => listed.getD i true) ops.length = HD L h0 (upto ops.length) ops.length := HD_congr _ fun i hi => by rw [hall i hi, upto_iff.2 hi]
    have e2 : TD ops L T0 (fun i => listed.getD i true) = TD ops L T0 (upto ops.length) := by
      funext s
      unfold TD
      cases hw : writerOf ops s 0 with
      | none => rfl
      | some i =>
        obtain ⟨_, o', k1, _⟩ := writer_some ops s 0 i hw
        rw [Nat.sub_zero] at k1
        have hi : i < ops.length := by
          rcases Nat.lt_or_ge i ops.length with q | q
          · exact q
          · rw [List.getElem?_eq_none q] at k1; cases k1
        simp only [hall i hi, upto_iff.2 hi]
    rw [e1, e2] at hrel
    exact hQ a W F E hrel
  have readyNil : ∀ (listed : Array Bool), listed.size = ops.length → Region.ready .any ops.toArray listed = [] → ∀ i, i < ops.length → listed.getD i true = true := by
    intro listed hsz hr i
    induction i using Nat.strongRecOn with
    | _ i ih =>
      intro hi
      cases hl : listed.getD i true with
      | true => rfl
      | false =>
        exfalso
        have hmem : i ∈ Region.ready .any ops.toArray listed := by
          rw [mem_ready]
          have hoi : ops[i]? = some ops[i] := List.getElem?_eq_getElem hi
          refine ⟨hl, ops[i], by simp [hi], fun e he hbind => ?_⟩
          have hlt := back_asks ops 0 i _ ho.back hoi e.on ⟨e, Array.mem_toList_iff.2 he, hbind, rfl⟩
          have := ih e.on (by omega) (by omega)
          have hes : e.on < listed.size := by omega
          simp only [Array.getD_eq_getD_getElem?, Array.getElem?_eq_getElem hes, Option.getD_some] at this ⊢
          exact this
        rw [hr] at hmem
        cases hmem
  intro fuel
  induction fuel with
  | zero =>
    intro listed a W F E hsz hcnt hclosed hrel
    have hall : ∀ i, i < ops.length → listed.getD i true = true := by
      intro i hi
      cases hl : listed.getD i true with
      | true => rfl
      | false =>
        have : i ∈ (List.range ops.length).filter fun i => !listed.getD i true := by
          rw [List.mem_filter, List.mem_range, hl]; exact ⟨hi, rfl⟩
        have h0 : ((List.range ops.length).filter fun i => !listed.getD i true) = [] := List.eq_nil_of_length_eq_zero (by omega)
        rw [h0] at this
        cases this
    refine ⟨?_, done listed a W F E hsz hall hrel⟩
    cases hr : Region.ready .any ops.toArray listed with
    | nil => rfl
    | cons i r =>
      exfalso
      have hmem : i ∈ Region.ready .any ops.toArray listed := by rw [hr]; simp
      rw [mem_ready] at hmem
      obtain ⟨h2, o, h1, _⟩ := hmem
      have h1 : i < ops.length := by
        have : ops[i]? = some o := by simpa using h1
        rcases Nat.lt_or_ge i ops.length with q | q
        · exact q
        · rw [List.getElem?_eq_none q] at this; cases this
      rw [hall i h1] at h2
      cases h2
  | succ fuel ih =>
    intro listed a W F E hsz hcnt hclosed hrel
    refine ⟨fun hr => done listed a W F E hsz (readyNil listed hsz hr) hrel, fun j hj => ?_⟩
    rw [mem_ready] at hj
    obtain ⟨hnl, o, hoj, hready⟩ := hj
    have hoj : ops[j]? = some o := by simpa using hoj
    have hjl : j < ops.length := by
      rcases Nat.lt_or_ge j ops.length with q | q
      · exact q
      · rw [List.getElem?_eq_none q] at hoj; cases hoj
    generalize hDe : (fun i => listed.getD i true) = D at hrel
    have hDi : ∀ i, listed.getD i true = D i := fun i => by rw [← hDe]
    have hDj : D j = false := by rw [← hDi]; exact hnl
    have hreadyD : ∀ m, asks o m → D m = true := by
      rintro m ⟨e, he, hbind, rfl⟩
      have := hready e (Array.mem_toList_iff.1 he) hbind
      have hlt := back_asks ops 0 j o ho.back hoj e.on ⟨e, he, hbind, rfl⟩
      have hes : e.on < listed.size := by omega
      rw [← hDi]
      simp only [Array.getD_eq_getD_getElem?, Array.getElem?_eq_getElem hes, Option.getD_some] at this ⊢
      exact this
    have hclosedD : ∀ j o, ops[j]? = some o → D j = true → ∀ m, asks o m → D m = true := fun j o h1 h2 m h3 => by
      rw [← hDi] at h2 ⊢; exact hclosed j o h1 h2 m h3
    have before : ∀ i, ordered (befs ops []) i j = true → i < j ∧ D i = true := ordered_in ho.back (D := fun i => D i = true) hclosedD j o hoj hreadyD
    have behind : ∀ i, i < ops.length → ordered (befs ops []) j i = true → j < i ∧ D i = false := by
      intro i hi hord
      have hoi : ops[i]? = some ops[i] := List.getElem?_eq_getElem hi
      have h1 := (ordered_in ho.back (D := fun _ => True) (fun _ _ _ _ _ _ => trivial) i _ hoi (fun _ _ => trivial) j hord).1
      refine ⟨h1, ?_⟩
      cases hDi' : D i with
      | false => rfl
      | true =>
        have := (ordered_in ho.back (D := fun i => D i = true) hclosedD i _ hoi (hclosedD i _ hoi hDi') j hord).2
        rw [hDj] at this
        cases this
    -- what it looks at stands as it stood in the text's order
    have agree : ∀ s ∈ looks ops o, TD ops L T0 D s = TD ops L T0 (upto j) s := by
      intro s hs
      have hlk := look_all ops 0 j o ho.look hoj s hs
      rw [Nat.zero_add] at hlk
      unfold TD
      cases hw : writerOf ops s 0 with
      | none => rfl
      | some i =>
        obtain ⟨_, o', k1, _⟩ := writer_some ops s 0 i hw
        rw [Nat.sub_zero] at k1
        have hi : i < ops.length := by
          rcases Nat.lt_or_ge i ops.length with q | q
          · exact q
          · rw [List.getElem?_eq_none q] at k1; cases k1
        rcases look_ok hlk hw with rfl | h1 | h1
        · simp only [hDj, upto_self]
        · obtain ⟨q1, q2⟩ := before i h1
          simp only [q2, upto_iff.2 q1]
        · obtain ⟨q1, q2⟩ := behind i hi h1
          have : upto j i = false := by
            cases hu : upto j i with
            | false => rfl
            | true => rw [upto_iff] at hu; omega
          simp only [q2, this]
    have hents := ho.ents j o hoj
    have entLt : ∀ i x, ent L i = some x → L[i]? = some (some x) := by
      intro i x hx
      unfold ent at hx
      cases hLi : L[i]? with
      | none => rw [hLi] at hx; cases hx
      | some e => rw [hLi] at hx; simp at hx; rw [hx]
    -- names that are turned lie among those that may be
    have upsIn : ∀ i, i < ops.length → ∀ m, m ∈ upNames (ent L i).ups → ∃ x u s1 s2, ent L i = some (x, u, s1, s2) ∧ m ∈ s2 := by
      intro i hi m hm
      have he := ho.ents i _ (List.getElem?_eq_getElem hi)
      unfold EntOk at he
      cases hx : ent L i with
      | none => rw [hx] at hm; cases hm
      | some x =>
        obtain ⟨x, u, s1, s2⟩ := x
        rw [hx] at he hm
        exact ⟨x, u, s1, s2, rfl, (he.2.2 m hm).1⟩
    obtain ⟨st, hst1, hst2, hs⟩ := hrel
    have hdst : ∀ d, o.dst = some d → nt.may d := fun d e => dst_may (List.all_eq_true.1 hd o (List.mem_of_getElem? hoj)) d e
    have hsize' : (listed.setIfInBounds j true).size = ops.length := by simp [hsz]
    have hDnew : (fun i => (listed.setIfInBounds j true).getD i true) = addD D j := by
      funext i
      by_cases e : i = j
      · subst e
        rw [addD_self]
        have : i < listed.size := by omega
        simp [Array.getD_eq_getD_getElem?, this]
      · rw [addD_other D j i e, ← hDi]
        exact getD_set_ne true (fun q => e q.symm)
    have hcnt' : ((List.range ops.length).filter fun i => !(listed.setIfInBounds j true).getD i true).length ≤ fuel := by
      have e1 : ((List.range ops.length).filter fun i => !(listed.setIfInBounds j true).getD i true) = ((List.range ops.length).filter fun i => !listed.getD i true).filter fun i => !Nat.beq i j := by
        rw [List.filter_filter]
        apply List.filter_congr
        intro i _
        have : (listed.setIfInBounds j true).getD i true = addD D j i := congrFun hDnew i
        rw [this, hDi]
        simp only [addD, Bool.not_or]
        rw [Bool.and_comm]
      rw [e1]
      have hlt : (((List.range ops.length).filter fun i => !listed.getD i true).filter fun i => !Nat.beq i j).length < ((List.range ops.length).filter fun i => !listed.getD i true).length := by
        rw [List.length_filter_lt_length_iff_exists]
        exact ⟨j, by rw [List.mem_filter, List.mem_range, hnl]; exact ⟨hjl, rfl⟩, by simp⟩
      omega
    have hclosed' : ∀ i o', ops[i]? = some o' → (listed.setIfInBounds j true).getD i true = true → ∀ m, asks o' m → (listed.setIfInBounds j true).getD m true = true := by
      intro i o' h1 h2 m h3
      have g : ∀ i, (listed.setIfInBounds j true).getD i true = addD D j i := fun i => congrFun hDnew i
      rw [g] at h2 ⊢
      by_cases e : i = j
      · subst e
        rw [hoj] at h1
        injection h1 with h1
        subst h1
        simp [addD, hreadyD m h3]
      · rw [addD_other D j i e] at h2
        simp [addD, hclosedD i o' h1 h2 m h3]
    have next : ∀ (a' : Act) (W' : World) (F' : Fz) (E' : EnvM), RelT cx W0 F0 O0 nt (putT (TD ops L T0 D) o.dst (ent L j).val) (setUps (HD L h0 D ops.length) (ent L j).ups) a' W' F' E' →
        wpAny cx.P .any ops.toArray Q fuel (listed.setIfInBounds j true) a' W' := by
      intro a' W' F' E' hr
      refine ih _ a' W' F' E' hsize' hcnt' hclosed' ?_
      rw [hDnew, TD_put ho.nodup hoj hDj, HD_put hDj ops.length hjl ?_]
      · exact hr
      · intro i h1 h2 h3 m hm hm'
        obtain ⟨x, u, s1, s2, e1, m1⟩ := upsIn j hjl m hm
        obtain ⟨y, v, t1, t2, e2, m2⟩ := upsIn i h2 m hm'
        have hcl : clash (s1, s2) (t1, t2) = true := clash_iff.2 (.inl ⟨m, m1, by simp [m2]⟩)
        have := (behind i h2 (apart_of ho.apart h1 (entLt _ _ e1) (entLt _ _ e2) hcl)).2
        rw [h3] at this
        cases this
    have hoja : (ops.toArray)[j]? = some o := by simpa using hoj
    have guardEq : guardT ops o (TD ops L T0 D) = guardT ops o (TD ops L T0 (upto j)) := by
      unfold guardT
      cases hgu : o.guard with
      | none => rfl
      | some jw =>
        obtain ⟨g, want⟩ := jw
        dsimp only
        cases hgj : (ops[g]?).bind (·.dst) with
        | none => rfl
        | some s =>
          dsimp only
          rw [agree s (by simp [looks, hgu, hgj])]
    have ht : ∀ s, RdV cx.P W F E (TD ops L T0 D s) (a.tmps.getD s undef) := fun s => by rw [← hst2]; exact hs.t s
    unfold wpOp
    rw [hoja]
    dsimp only
    unfold EntOk at hents
    cases hej : ent L j with
    | none =>
      rw [hej] at hents next
      have hw := guardT_wanted (cx := cx) ht (by rw [guardEq]; exact hents)
      rw [hw]
      simp only [Bool.false_eq_true, if_false]
      refine next _ W F E ⟨{ st with t := putV st.t o.dst .undef }, by simp [hst1, Ent.ups, setUps], ?_, hs.skip hdst⟩
      funext s
      rw [putV_get, hst2]
      rfl
    | some x =>
      obtain ⟨x, u, s1, s2⟩ := x
      rw [hej] at hents next
      obtain ⟨hg, hev, hnm⟩ := hents
      have hw := guardT_wanted (cx := cx) ht (by rw [guardEq]; exact hg)
      rw [hw]
      simp only [if_true]
      left
      have hres : restrict (HD L h0 D ops.length) (s1 ++ s2) = restrict (HD L h0 (upto j) ops.length) (s1 ++ s2) := by
        apply List.ext_getElem?
        intro m
        rw [restrict_get, restrict_get]
        by_cases hm : m ∈ s1 ++ s2
        · rw [HD_get (D := D) (D' := upto j) ops.length fun i hi hmi => ?_]
          obtain ⟨y, v, t1, t2, e2, m2⟩ := upsIn i hi m hmi
          rcases Nat.lt_trichotomy i j with hij | hij | hij
          · have hcl : clash (t1, t2) (s1, s2) = true := clash_iff.2 (.inl ⟨m, m2, hm⟩)
            rw [(before i (apart_of ho.apart hij (entLt _ _ e2) (entLt _ _ hej) hcl)).2, upto_iff.2 hij]
          · subst hij; rw [hDj, upto_self]
          · have hcl : clash (s1, s2) (t1, t2) = true := by
              rw [clash_iff]
              rcases List.mem_append.1 hm with q | q
              · exact .inr ⟨m, m2, q⟩
              · exact .inl ⟨m, q, by simp [m2]⟩
            rw [(behind i hi (apart_of ho.apart hij (entLt _ _ hej) (entLt _ _ e2) hcl)).2]
            cases hu : upto j i with
            | false => rfl
            | true => rw [upto_iff] at hu; omega
        · have : hasN (s1 ++ s2) m = false := by
            cases hh : hasN (s1 ++ s2) m with
            | false => rfl
            | true => exact absurd (hasN_iff.1 hh) hm
          rw [this]
          have key : ∀ (k : Heap), k.length = h0.length → (k[m]?).map (fun e => if false = true then e else ((0, none) : Nat × Option Blk)) = if m < h0.length then some (0, none) else none := by
            intro k hk
            by_cases hlt : m < h0.length
            · rw [List.getElem?_eq_getElem (by omega), if_pos hlt]; rfl
            · rw [List.getElem?_eq_none (by omega), if_neg hlt]; rfl
          rw [key _ (HD_length _ _ _ _), key _ (HD_length _ _ _ _)]
      have hρ : ∀ y ∈ o.op.operands.toList, opndT (TD ops L T0 D) y = opndT (TD ops L T0 (upto j)) y := by
        intro y hy
        cases y with
        | tmp t =>
          exact agree t (by
            unfold looks
            apply List.mem_append_left
            rw [List.mem_filterMap]
            exact ⟨.tmp t, hy, rfl⟩)
        | _ => rfl
      have hev2 : evOp cx call fx o (opndT (TD ops L T0 D)) (restrict (HD L h0 D ops.length) (s1 ++ s2)) (fun x u => some (x, u)) = some (x, u) := by
        rw [hres, evOp_congr o _ hρ]; exact hev
      have hev3 : evOp cx call fx o (opndT (TD ops L T0 D)) (restrict (HD L h0 D ops.length) (s1 ++ s2)) (fun x u => if namesIn s2 h0.length u = true then some (x, u) else none) = some (x, u) := by
        rw [evOp_nat, hev2]
        simp only [Option.bind_some]
        rw [if_pos (namesIn_iff.2 hnm)]
      have hctx : Ctx cx call W F E (· ∈ s1 ++ s2) (restrict (HD L h0 D ops.length) (s1 ++ s2)) (opndT (TD ops L T0 D)) a := by
        refine ⟨hc, tab, ?_, fun y => ?_, hs.hF⟩
        · rw [← hst1]; exact hs.hr.restrict
        · rw [← hst2, ← opnd_T]; exact opnd_rd hs.t y
      obtain ⟨x', u', hk', hok⟩ := evOp_sound (fx := fx) hctx hfn (k := fun x u => if namesIn s2 h0.length u = true then some (x, u) else none) (by
        intro x' u' r' hk n hn
        dsimp only at hk
        split at hk
        case isFalse => cases hk
        rename_i hin
        obtain ⟨q1, q2⟩ := namesIn_iff.1 hin n hn
        exact ⟨by simp [q1], by rw [restrict_length, HD_length]; exact q2⟩) hev3
      dsimp only at hk'
      split at hk'
      case isFalse => cases hk'
      simp only [Option.some.injEq, Prod.mk.injEq] at hk'
      obtain ⟨rfl, rfl⟩ := hk'
      refine hok _ _ fun v W' F' E' hp hv => ?_
      have hpw := OpPost.widen (by rw [← hst1]; exact hs.hr) hp (fun n hn => by simp [(hnm n hn).1])
      rw [← hst1] at hpw
      refine next _ W' F' E' ⟨_, ?_, ?_, hs.step hdst hpw hv⟩
      · rw [hst1]; rfl
      · funext s
        rw [putV_get, hst2]
        rfl

end
end Go.Flat
