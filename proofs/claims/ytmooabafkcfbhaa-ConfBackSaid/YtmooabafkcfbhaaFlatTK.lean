/-
  Soundness of the flat reading, twenty-ninth part: calls as operations.
-/
import Derived.Test.YtmooabafkcfbhaaFlatTJ
namespace Go.Flat
open Go.RowKit (Below)

theorem nodupB_iff : ∀ {l : List Nat}, nodupB l = true ↔ l.Nodup := by
  intro l
  induction l with
  | nil => simp [nodupB]
  | cons n r ih =>
    simp only [nodupB, Bool.and_eq_true, Bool.not_eq_true', ih, List.nodup_cons]
    refine and_congr_left fun _ => ?_
    cases hh : hasN r n with
    | true => simp [hasN_iff.1 hh]
    | false => simp; exact fun k => by rw [hasN_iff.2 k] at hh; cases hh

section
variable {cx : Cx} {call : Oracle cx} {fx : Hints} {W W' : World} {F F' : Fz} {E E' : EnvM} {h : Heap} {N : Nat → Prop} {ρ : Operand → V} {a : Act} {R : Type}

theorem RdV1.formed {P : Program} {t : Ty} {ag : Bool} {cs : List Cell} {v : Value} (hv : RdV1 P W F E ag cs v) (ha : ag = agg t) (hw : v.cells.size = width t) : formed t v := by
  subst ha
  exact ⟨hv.2.1, hv.2.2, hw⟩

/-- the cell that stands for what an argument points to -/
def HeadOk (P : Program) (W : World) (F : Fz) (E : EnvM) (h : Heap) (p : Ty) (c : Cell) (v : Value) : Prop :=
  ∀ e n ver o, p = .ref e → c = .loc n ver o → v.cells = #[v] ∧ RdCell P W F E c v ∧ verOf h n = ver

def HeadsOk (P : Program) (W : World) (F : Fz) (E : EnvM) (h : Heap) : List Ty → List Cell → List Value → Prop
  | [], [], [] => True
  | p :: ps, c :: cs, v :: vs => HeadOk P W F E h p c v ∧ HeadsOk P W F E h ps cs vs
  | _, _, _ => False

theorem HeadsOk.later {P : Program} (hl : Later W F W' F') : ∀ {ps : List Ty} {heads : List Cell} {vs : List Value}, HeadsOk P W F E h ps heads vs → HeadsOk P W' F' E h ps heads vs := by
  intro ps
  induction ps with
  | nil => intro heads vs hh; match heads, vs, hh with
    | [], [], _ => exact trivial
  | cons p ps ih =>
    intro heads vs hh
    match heads, vs, hh with
    | c :: cs, v :: vs, hh =>
      refine ⟨fun e n ver o hp hc => ?_, ih hh.2⟩
      obtain ⟨q1, q2, q3⟩ := hh.1 e n ver o hp hc
      exact ⟨q1, q2.later hl (EnvLe.refl E), q3⟩

theorem argsB_rd (hc : CallSound cx call) (hr : HR cx.P W F E N h) (hρ : ∀ x, RdV cx.P W F E (ρ x) (a.eval x)) : ∀ (ps : List Ty) (xs : List Operand) (x : El (tupU ps)) (taken lent : List Nat) (heads : List Cell),
    argsB cx call h ps (xs.map ρ) = some (x, taken, lent, heads) → ∃ O, FormedL ps (xs.map a.eval) ∧ RdB cx.P (tupU ps) x W (FzPlus F h E lent) O (cat (xs.map a.eval)) ∧ Takes F h E taken O ∧ HeadsOk cx.P W F E h ps heads (xs.map a.eval) := by
  intro ps
  induction ps with
  | nil =>
    intro xs x taken lent heads hk
    cases xs with
    | nil =>
      simp only [List.map_nil, argsB, Option.some.injEq] at hk
      obtain ⟨rfl, rfl, rfl, rfl⟩ := hk
      exact ⟨[], trivial, rfl, Takes.nil, trivial⟩
    | cons y ys => simp [argsB] at hk
  | cons p ps ih =>
    intro xs x taken lent heads hk
    cases xs with
    | nil => simp [argsB] at hk
    | cons y ys =>
      have hv := hρ y
      simp only [List.map_cons] at hk ⊢
      cases hy : ρ y with
      | tup l => rw [hy] at hk; simp [argsB] at hk
      | undef => rw [hy] at hk; simp [argsB] at hk
      | lost => rw [hy] at hk; simp [argsB] at hk
      | v ag cs =>
        rw [hy] at hk hv
        simp only [argsB] at hk
        split at hk
        case isFalse => cases hk
        rename_i hag
        cases h1 : packAll cx call h p cs with
        | none => rw [h1] at hk; cases hk
        | some z =>
          rw [h1] at hk
          simp only [Option.bind_some] at hk
          cases h2 : argsB cx call h ps (ys.map ρ) with
          | none => rw [h2] at hk; cases hk
          | some q =>
            rw [h2] at hk
            simp only [Option.map_some, Option.some.injEq] at hk
            obtain ⟨rfl, rfl, rfl, rfl⟩ := hk
            obtain ⟨O1, k1, k2, k3⟩ := packAll_rd hc hr (x := z.1) (taken := z.2.1) (lent := z.2.2) h1 hv.1
            obtain ⟨O2, m1, m2, m3, m4⟩ := ih ys q.1 q.2.1 q.2.2.1 q.2.2.2 h2
            have hw : (a.eval y).cells.size = width p := by simpa using k3
            refine ⟨O1 ++ O2, ⟨RdV1.formed hv hag hw, m1⟩, ⟨O1, O2, rfl, RdB.congr p (fun j hj => ?_) (k1.later p (Later.same FzPlus.left) (fun _ _ => rfl)), ?_⟩, k2.append hr m3, ?_, m4⟩
            · rw [cat_head hw j hj, one, Array.getElem?_toList]
            · rw [cat_tail hw]; exact m2.later (tupU ps) (Later.same FzPlus.right) (fun _ _ => rfl)
            · intro e n ver o hp hcell
              subst hp
              have ha : ag = false := hag
              have hone := hv.2.2 ha
              have hcells := oneCell_cells hone
              cases cs with
              | nil => cases hcell
              | cons c r =>
                simp only [List.headD_cons] at hcell
                subst hcell
                have hrd := hv.1
                rw [hcells] at hrd
                obtain ⟨u, us, hu, q1, q2, q3⟩ := hrd.uncons
                simp only [List.cons.injEq] at hu
                obtain ⟨rfl, _⟩ := hu
                refine ⟨hcells, q1, ?_⟩
                -- the version is the one that stands
                unfold packAll at h1
                simp only [packB] at h1
                split at h1
                · rename_i ver' bt bs hn
                  split at h1
                  · rename_i hver
                    rw [verOf_eq hn, ← hver.1]
                  · simp at h1
                · simp at h1

theorem backAll_rs {P : Program} {h0 : Heap} {bt : List (Ty × Option Cell)} {vs : List Value} (hb : BackAll P W F E h0 bt (cat vs)) : ∀ (rs : List Ty) (ws : List Value), FormedL rs ws →
    BackAll P W F E h0 (rs.map (·, none) ++ bt) (cat (ws ++ vs)) := by
  intro rs
  induction rs with
  | nil => intro ws h; cases ws with
    | nil => exact hb
    | cons => exact h.elim
  | cons t rs ih =>
    intro ws h
    cases ws with
    | nil => exact h.elim
    | cons w ws =>
      show BackAll P W F E h0 (rs.map (·, none) ++ bt) (fun j => cat ((w :: ws) ++ vs) (width t + j))
      rw [List.cons_append, cat_tail h.1.2.2]
      exact ih ws h.2

theorem outV_rs {P : Program} : ∀ (rs : List Ty) (ws : List Value) (bt : List (Ty × Option Cell)) (us : List Value) (vs : List (Bool × List Cell)), FormedL rs ws → (∀ x ∈ bt, x.2 ≠ none) → OutV P W F E (rs.map (·, none) ++ bt) vs (cat (ws ++ us)) →
    vs.length = ws.length ∧ ∀ (j : Nat) p u, vs[j]? = some p → ws[j]? = some u → RdV1 P W F E p.1 p.2 u := by
  intro rs
  induction rs with
  | nil =>
    intro ws bt us vs h hbt ho
    cases ws with
    | cons => exact h.elim
    | nil =>
      have : vs = [] := by
        simp only [List.map_nil, List.nil_append] at ho
        generalize cat us = g at ho
        induction bt generalizing g with
        | nil => exact ho
        | cons e r ih =>
          obtain ⟨t, oc⟩ := e
          cases oc with
          | none => exact absurd rfl (hbt (t, none) (by simp))
          | some c => exact ih (fun x hx => hbt x (by simp [hx])) _ ho
      subst this
      exact ⟨rfl, fun j p u hp => by simp at hp⟩
  | cons t rs ih =>
    intro ws bt us vs h hbt ho
    cases ws with
    | nil => exact h.elim
    | cons w ws =>
      obtain ⟨cs, vs', rfl, ⟨u, u1, u2, u3⟩, h3⟩ := ho
      rw [List.cons_append, cat_tail h.1.2.2] at h3
      obtain ⟨k1, k2⟩ := ih ws bt us vs' h.2 hbt h3
      have hu : u = w.cells.toList := by
        apply List.ext_getElem?
        intro j
        by_cases hj : j < width t
        · rw [← u2 j hj, List.cons_append, cat_head h.1.2.2 j hj, one, Array.getElem?_toList]
        · have hw := h.1.2.2
          rw [List.getElem?_eq_none (by omega), List.getElem?_eq_none (by simp; omega)]
      subst hu
      refine ⟨by simp [k1], fun j p q hp hq => ?_⟩
      cases j with
      | zero =>
        simp at hp hq
        subst hp; subst hq
        exact ⟨u3, h.1.1, h.1.2.1⟩
      | succ j => exact k2 j p q (by simpa using hp) (by simpa using hq)

theorem resV_rd {P : Program} {vs : List (Bool × List Cell)} {ws : List Value} (hl : vs.length = ws.length) (h : ∀ (j : Nat) p u, vs[j]? = some p → ws[j]? = some u → RdV1 P W F E p.1 p.2 u) : RdV P W F E (resV vs) (retVal ws) := by
  unfold resV
  split
  · rename_i ag cs
    match ws, hl with
    | [w], _ => exact h 0 (ag, cs) w rfl rfl
  · rename_i hne
    have : ws.length ≠ 1 := fun e => by
      rw [e] at hl
      match vs, hl with
      | [(ag, cs)], _ => exact hne ag cs rfl
    unfold retVal
    rw [if_neg this]
    exact ⟨ws, rfl, hl.symm, h⟩

/-- what is handed back, by the arguments -/
theorem backs_rd {P : Program} {ps : List Ty} {heads : List Cell} {vs : List Value} (hh : HeadsOk P W F E h ps heads vs) (hf : FormedL ps vs) : ∀ (back : List Nat),
    BackAll P W F E h (back.filterMap fun i => match ps[i]?, heads[i]? with | some p, some c => some (p, some c) | _, _ => none) (cat (back.filterMap (vs[·]?))) := by
  have at_ : ∀ (ps : List Ty) (heads : List Cell) (vs : List Value), HeadsOk P W F E h ps heads vs → FormedL ps vs → ∀ i : Nat, (ps[i]? = none ∧ heads[i]? = none ∧ vs[i]? = none) ∨ ∃ p c v, ps[i]? = some p ∧ heads[i]? = some c ∧ vs[i]? = some v ∧ HeadOk P W F E h p c v ∧ formed p v := by
    intro ps
    induction ps with
    | nil =>
      intro heads vs hh hf i
      match heads, vs, hh with
      | [], [], _ => exact .inl ⟨rfl, rfl, rfl⟩
    | cons p ps ih =>
      intro heads vs hh hf i
      match heads, vs, hh, hf with
      | c :: heads, v :: vs, hh, hf =>
        cases i with
        | zero => exact .inr ⟨p, c, v, rfl, rfl, rfl, hh.1, hf.1⟩
        | succ i => simpa using ih heads vs hh.2 hf.2 i
  intro back
  induction back with
  | nil => exact trivial
  | cons i r ih =>
    rcases at_ ps heads vs hh hf i with ⟨h1, h2, h3⟩ | ⟨p, c, v, h1, h2, h3, h4, h5⟩
    · simpa [List.filterMap_cons, h1, h2, h3] using ih
    · simp only [List.filterMap_cons, h1, h2, h3]
      refine ⟨fun e n ver o hp hc => ?_, ?_⟩
      · obtain ⟨k1, k2, k3⟩ := h4 e n ver o hp hc
        refine ⟨v, ?_, k2, k3⟩
        rw [cat_head h5.2.2 0 (by rw [hp]; simp [width]), one, k1]
        rfl
      · rw [cat_tail h5.2.2]; exact ih

theorem op_call {o : Oper} {cl : Go.Call} {k : V → Ups → Option R} {r : R} {f : FuncId} (cc : Ctx cx call W F E N h ρ a) (hfn : FnOk cx call) (hK : KOk N h k) (ho : o.op = .call cl) (hcal : cl.callee = .value (.func f))
    (hk : callK cx call fx h o f (cl.args.toList.map ρ) k = some r) : Sound cx W F E N h a o k r := by
  unfold callK at hk
  split at hk
  · cases hk
  rename_i s hs
  split at hk
  · cases hk
  rename_i x taken lent heads hargs
  split at hk
  case isFalse => cases hk
  rename_i hnd
  simp only at hk
  split at hk
  · cases hk
  rename_i x' hx'
  cases hy : call f x' with
  | none => rw [hy] at hk; cases hk
  | some y =>
    rw [hy] at hk
    simp only [Option.bind_some] at hk
    split at hk
    · cases hk
    rename_i y' hy'
    obtain ⟨ex, rfl⟩ := castEl_some hx'
    obtain ⟨ey, rfl⟩ := castEl_some hy'
    obtain ⟨O, a1, a2, a3, a4⟩ := argsB_rd cc.hc cc.hr cc.ρ s.ps cl.args.toList x taken lent heads hargs
    have hnd' := nodupB_iff.1 hnd
    rw [List.nodup_append] at hnd'
    have hOnd := a3.nodup hnd'.1
    have hOF : ∀ b ∈ O, ¬ FzPlus F h E lent b := by
      rintro b hb (hf | ⟨n, hn, hat⟩)
      · exact a3.free b hb hf
      · obtain ⟨m, hm, hat'⟩ := a3.at_ b hb
        exact hnd'.2.2 m hm n hn (atName_fun cc.hr hat' hat)
    have hFp : ∀ b, FzPlus F h E lent b → b < W.heap.size := fun b hb => FzPlus.lt cc.hr cc.hF hb
    have hcalls := hfn f s hs (ex ▸ x) y hy W (FzPlus F h E lent) O (cl.args.toList.map a.eval) hFp a1 (RdB.cast ex a2) hOnd hOF
    obtain ⟨vs, u, hku, hout⟩ := outs_rd (P := cx.P) h _ _ _ _ _ hk
    obtain ⟨hck, hku⟩ := must_some hku
    simp only [Bool.and_eq_true, List.all_eq_true] at hck
    obtain ⟨hundup, hstay⟩ := hck
    have hundup : (upNames u).Nodup := nodupB_iff.1 hundup
    obtain ⟨fn, hf1, hf2, hf3⟩ := cc.hc.plain f s hs
    generalize hstayE : (s.back.filterMap fun i => (heads[i]?).bind fun c => (nameOf c)[0]?) = stay at hku hstay
    generalize htk : (taken.filter fun n => !hasN stay n) = takes at hku
    have hKu := hK _ _ _ hku
    have hsub : ∀ n ∈ takes, n ∈ taken := fun n hn => by rw [← htk, List.mem_filter] at hn; exact hn.1
    have hall : ∀ n ∈ taken, n ∈ takes ∨ n ∈ upNames u := by
      intro n hn
      by_cases hst : n ∈ stay
      · exact .inr (hasN_iff.1 (hstay n hst))
      · left
        rw [← htk, List.mem_filter]
        refine ⟨hn, ?_⟩
        cases hh : hasN stay n with
        | false => rfl
        | true => exact absurd (hasN_iff.1 hh) hst
    refine ⟨_, _, hku, ?_⟩
    intro next Q hnext
    have hrun : (execOp a.eval o).run cx.P W = .ok (.enter f (cl.args.toList.map a.eval).toArray) W := by
      have e1 : (cl.args.toList.map a.eval).toArray = cl.args.map a.eval := by
        apply Array.ext'; simp
      rw [e1]
      have hf3' : fn.body ≠ none := fun e => by rw [e] at hf3; cases hf3
      have hf2' : ¬ fn.name = "runtime.NumGoroutine" := by simpa using hf2
      simp [execOp, ho, resolve, hcal, Deferred.ofValue, Act.eval, invoke, callFunc, hf1, hf2', hf3']
    unfold Oper.wp
    rw [hrun, Oper.upon_enter]
    refine Calls.mono hcalls fun e W' hpost => ?_
    obtain ⟨v, F', rfl, hmove, ws, O', hws, rfl, hrd, hO'nd, hO'F, hO'⟩ := hpost
    -- of one choice of what stays frozen
    have core : ∀ (ls : List Nat) (F2 : Fz), (∀ n ∈ ls, n ∉ taken) → (∀ n ∈ upNames (takeUps h takes ++ freezeUps h ls ++ u), N n ∧ n < h.length) → Later W (FzPlus F h E ls) W' F2 →
        (∀ b, F2 b → FzPlus F h E ls b ∨ b ∈ O ∨ (W.heap.size ≤ b ∧ b < W'.heap.size)) → RdB cx.P (cx.out f) y W' F2 O' (cat (ws ++ s.back.filterMap ((cl.args.toList.map a.eval)[·]?))) → (∀ b ∈ O', ¬ F2 b) →
        ∃ E', OpPost cx.P W F E N h W' F2 E' (takeUps h takes ++ freezeUps h ls ++ u) ∧ RdV cx.P W' F2 E' (resV vs) (retVal ws) := by
      intro ls F2 hls hN hl hfz hrd hOF2
      have hnames : ∀ n, n ∈ upNames (takeUps h takes ++ freezeUps h ls ++ u) ↔ n ∈ takes ∨ n ∈ upNames (freezeUps h ls) ∨ n ∈ upNames u := by
        intro n; simp [upNames, takeUps]
      have hNt : ∀ n ∈ taken, N n ∧ n < h.length := fun n hn => by
        rcases hall n hn with k | k
        · exact hN n ((hnames n).2 (.inl k))
        · exact hN n ((hnames n).2 (.inr (.inr k)))
      obtain ⟨m1, m2, _⟩ := call_mid (P := cx.P) (O' := O') cc.hr a3 hNt hl hmove.frame hfz hO'
      have hl1 : Later W F W' F2 := (later_plus ls).trans hl
      have heads' : HeadsOk cx.P W' F2 E h s.ps heads (cl.args.toList.map a.eval) := a4.later hl1
      have hback := backAll_rs (bt := s.back.filterMap fun i => match s.ps[i]?, heads[i]? with | some p, some c => some (p, some c) | _, _ => none) (backs_rd heads' a1 s.back) s.rs ws hws
      obtain ⟨E1, c1, c2⟩ := hout m1 (RdB.cast ey hrd) hO'nd hOF2 m2 hback
        (fun n hn => by
          obtain ⟨q1, q2⟩ := hN n ((hnames n).2 (.inr (.inr hn)))
          exact ⟨q1, by rw [setUps_length, setUps_length]; exact q2, verOf_top cc.hr q1 q2⟩) hundup
      obtain ⟨E2, e1, hop⟩ := call_core cc.hr a3 hsub (by rw [← htk]; exact hnd'.1.filter _) hall hls hl hmove.frame hfz hO' (fun b hb => RdB.lt _ hrd b hb) hN c1
      obtain ⟨z1, z2⟩ := outV_rs s.rs ws _ _ vs hws (fun x hx => by
        rw [List.mem_filterMap] at hx
        obtain ⟨i, _, hi⟩ := hx
        split at hi
        · injection hi with hi; subst hi; simp
        · cases hi) (c2.mono e1)
      exact ⟨E2, hop, resV_rd z1 z2⟩
    cases hsh : shares (cx.out f) with
    | true =>
      rw [hsh] at hku hKu hnext
      simp only [if_true] at hKu hnext
      obtain ⟨E', hop, hv⟩ := core lent F' (fun n hn hn' => hnd'.2.2 n hn' n hn rfl) hKu hmove.later hmove.fz hrd hO'F
      exact hnext _ _ _ _ hop hv
    | false =>
      rw [hsh] at hku hKu hnext
      simp only [Bool.false_eq_true, if_false] at hKu hnext
      obtain ⟨E', hop, hv⟩ := core [] F (by simp) hKu (by rw [fzPlus_nil]; exact ⟨hmove.later.os, hmove.later.tape, hmove.later.output, hmove.later.size, fun b hb => hmove.later.keep b (.inl hb), fun _ hb => hb⟩)
        (fun b hb => .inl (by rw [fzPlus_nil]; exact hb)) (hrd.noshare _ hsh) (fun b hb hf => hO'F b hb (hmove.later.more b (.inl hf)))
      exact hnext _ _ _ _ hop hv

end
end Go.Flat
