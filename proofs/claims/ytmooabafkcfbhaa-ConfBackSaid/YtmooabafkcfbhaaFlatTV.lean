/-
  Soundness of the flat reading, fortieth part: functions.
-/
import Derived.Test.YtmooabafkcfbhaaFlatTU
namespace Go.Flat
open Go.RowKit (Below)

theorem FormedL.get : ∀ {ts : List Ty} {vs : List Value}, FormedL ts vs → ∀ {i : Nat} {t : Ty}, ts[i]? = some t → ∃ v, vs[i]? = some v ∧ formed t v := by
  intro ts
  induction ts with
  | nil => intro vs _ i t h; simp at h
  | cons t ts ih =>
    intro vs h i u hu
    cases vs with
    | nil => exact h.elim
    | cons v vs =>
      cases i with
      | zero => simp at hu; subst hu; exact ⟨v, rfl, h.1⟩
      | succ i => simpa using ih h.2 (by simpa using hu)

section
variable {cx : Cx} {call : Oracle cx} {fx : Hints} {W0 W W' : World} {F0 F F' : Fz} {O0 : List Nat} {E E' : EnvM} {h : Heap} {a : Act} {R : Type} {nt : Slots} {st : St}

/-- a result, as the model reads it -/
def resF (tmps : Array Value) : ResultVar → Sem Value := fun r => match r with
    | .tmp t => pure (tmps.getD t undef)
    | .cell a t => do loadVar t (← asAddr (tmps.getD a undef))

theorem results_rd (tab : TabOk cx) (hr : HR cx.P W F E (fun _ => True) h) {t : List (Nat × V)} (ht : ∀ s, RdV cx.P W F E (getT t s) (a.tmps.getD s undef)) : ∀ (rvs : List ResultVar) (ts : List Ty) (cs : List Cell), resultCells cx h t rvs ts = some cs →
    ∃ ws, FormedL ts ws ∧ RdCells cx.P W F E cs (ws.flatMap fun v => v.cells.toList) ∧ (rvs.mapM (resF a.tmps)).run cx.P W = .ok ws W := by
  intro rvs
  induction rvs with
  | nil =>
    intro ts cs hk
    cases ts with
    | nil =>
      simp only [resultCells, Option.some.injEq] at hk
      subst hk
      exact ⟨[], trivial, RdCells.nil, rfl⟩
    | cons t ts => simp [resultCells] at hk
  | cons rv rvs ih =>
    intro ts cs hk
    cases ts with
    | nil => cases rv <;> simp [resultCells] at hk
    | cons ty ts =>
      cases rv with
      | tmp s =>
        simp only [resultCells] at hk
        split at hk
        case h_2 => cases hk
        rename_i ag cs1 hg
        split at hk
        case isFalse => cases hk
        rename_i hag
        simp only [Option.map_eq_some_iff] at hk
        obtain ⟨cs2, h2, rfl⟩ := hk
        have hv := ht s
        rw [hg] at hv
        obtain ⟨ws, k1, k2, k3⟩ := ih ts cs2 h2
        have hw : (a.tmps.getD s undef).cells.size = width ty := by
          have h1 : cs1.length = (a.tmps.getD s undef).cells.toList.length := hv.1.1
          rw [Array.length_toList] at h1
          exact h1.symm.trans hag.2
        refine ⟨a.tmps.getD s undef :: ws, ⟨RdV1.formed hv hag.1 hw, k1⟩, ?_, ?_⟩
        · rw [List.flatMap_cons]; exact hv.1.append k2
        · rw [List.mapM_cons]
          simp [resF, k3]
      | cell s ct =>
        simp only [resultCells] at hk
        split at hk
        case h_2 => cases hk
        rename_i ac c hg hc
        split at hk
        case isFalse => cases hk
        rename_i hag
        have hv := ht s
        rw [hg] at hv
        obtain ⟨cs1, h1, h2, b, o, vs, h3, h4, h5⟩ := loadK_rd hr hk hv.single.1
        simp only [Option.map_eq_some_iff] at h1
        obtain ⟨cs2, q2, rfl⟩ := h1
        obtain ⟨ws, k1, k2, k3⟩ := ih ts cs2 q2
        obtain ⟨⟨ti, t1, t2, _⟩, t3, t4, t5, t6⟩ := ty_of tab hc
        have hl : vs.length = ti.size := by rw [← h4.1, h2, t2]
        have hrun := run_loadVar_cells (P := cx.P) (W := W) (b := b) (o := o) t1 t6 hl h5 (fun e => by rw [hl, t2]; exact t5 (t3.trans e))
        have hV := h4.mkV (ag := agg c) (fun e => by rw [h2]; exact t5 e)
        rw [← t3] at hrun
        generalize (if agg c = true then Value.agg vs.toArray else vs.headD .nilFunc) = w at hrun hV
        have hw : w.cells.size = width ty := by
          have h1' : cs1.length = w.cells.toList.length := hV.1.1
          rw [Array.length_toList] at h1'
          exact h1'.symm.trans (h2.trans hag.2)
        refine ⟨w :: ws, ⟨RdV1.formed hV hag.1 hw, k1⟩, ?_, ?_⟩
        · rw [List.flatMap_cons]; exact hV.1.append k2
        · rw [List.mapM_cons]
          simp [resF, h3, asAddr, hrun, k3]

theorem results_run {fn : Func} {ws : List Value} {P : Program} (h : (fn.results.toList.mapM (resF a.tmps)).run P W = .ok ws W) : (results fn a.tmps).run P W = .ok (retVal ws) W := by
  have e : results fn a.tmps = (do let vs ← fn.results.mapM (resF a.tmps); pure (if h : vs.size = 1 then vs[0] else .tuple vs)) := rfl
  rw [e, Array.mapM_eq_mapM_toList]
  simp only [Sem.run_bind, map_eq_pure_bind, h, Result.andThen_ok, Sem.run_pure]
  congr 1
  unfold retVal
  match ws with
  | [] => rfl
  | [w] => rfl
  | w :: w2 :: r => simp

theorem backs_cells {P : Program} {ps : List Ty} {args : List Value} (hf : FormedL ps args) {t : List (Nat × V)} : ∀ (back : List Nat), (back.all fun i => isRef ps[i]?) = true → (∀ i ∈ back, ∀ v, args[i]? = some v → RdV P W F E (getT t i) v) →
    RdCells P W F E (back.map fun i => headCell (getT t i)) ((back.filterMap (args[·]?)).flatMap fun v => v.cells.toList) := by
  intro back
  induction back with
  | nil => intro _ _; exact RdCells.nil
  | cons i r ih =>
    intro hall hv
    simp only [List.all_cons, Bool.and_eq_true] at hall
    have ih := ih hall.2 fun j hj => hv j (by simp [hj])
    have hp : ∃ e, ps[i]? = some (.ref e) := by
      have := hall.1
      unfold isRef at this
      split at this
      · rename_i e he; exact ⟨e, he⟩
      · cases this
    obtain ⟨e, hp⟩ := hp
    obtain ⟨v, h1, h2⟩ := hf.get hp
    have hone := h2.2.1 rfl
    have hcells := oneCell_cells hone
    have hrd := hv i (by simp) v h1
    simp only [List.map_cons, List.filterMap_cons, h1, List.flatMap_cons]
    rw [hcells]
    show RdCells P W F E (headCell (getT t i) :: _) (v :: _)
    refine RdCells.cons.2 ⟨⟨?_, hone⟩, ih⟩
    unfold headCell
    split
    · rename_i ag c cs hg
      rw [hg] at hrd
      have := hrd.1
      rw [hcells] at this
      obtain ⟨u, us, hu, q1, _⟩ := this.uncons
      simp only [List.cons.injEq] at hu
      rw [hu.1]; exact q1
    · trivial

theorem retK_rd (hc : CallSound cx call) (tab : TabOk cx) {fn : Func} {s : Sig} {args : List Value} (hf : FormedL s.ps args) (hback : (s.back.all fun i => isRef s.ps[i]?) = true) (hs : StRel cx W0 F0 O0 nt st a W F E) (hK : nt.K = s.back)
    (hkv : ∀ i v, args[i]? = some v → nt.kv i = v) {y : El (tup (s.rs ++ s.back.filterMap (s.ps[·]?)))} (hk : retK cx call fn s st = some y) :
    ∃ v F', (results fn a.tmps).run cx.P W = .ok v W ∧ Move W0 F0 O0 W F' ∧ Ret cx.P W0 O0 s args (tup (s.rs ++ s.back.filterMap (s.ps[·]?))) y W F' v := by
  unfold retK at hk
  split at hk
  case h_2 => cases hk
  rename_i cs hcs
  split at hk
  case h_2 => cases hk
  rename_i z taken lent hp
  split at hk
  case isFalse => cases hk
  rename_i hnd
  injection hk with hk
  subst hk
  obtain ⟨ws, k1, k2, k3⟩ := results_rd tab hs.hr hs.t fn.results.toList s.rs cs hcs
  have hb := backs_cells (P := cx.P) (W := W) (F := F) (E := E) (t := st.t) hf s.back hback (fun i hi v hv => by
    have := hs.t i
    rw [hs.keep i (by rw [hK]; exact hi), hkv i v hv] at this
    exact this)
  obtain ⟨O, m1, m2, m3⟩ := packAll_rd hc hs.hr hp (k2.append hb)
  rw [← List.flatMap_append] at m1
  have hnd' := nodupB_iff.1 hnd
  rw [List.nodup_append] at hnd'
  have own : ∀ n b, atName st.h E n b → b ∈ O0 ∨ W0.heap.size ≤ b := fun n b hat => hs.own b ⟨n, hat⟩
  refine ⟨retVal ws, FzPlus F st.h E lent, results_run k3, ⟨hs.later.trans (later_plus lent), hs.frame, fun b hb => ?_⟩, ws, O, k1, rfl, m1, m2.nodup hnd'.1, ?_, fun b hb => ?_⟩
  · have hlt := FzPlus.lt hs.hr hs.hF hb
    rcases hb with hb | ⟨n, _, hat⟩
    · rcases hs.fz b hb with q | q | q
      · exact .inl q
      · exact .inr (.inl q)
      · exact .inr (.inr ⟨q, hlt⟩)
    · rcases own n b hat with q | q
      · exact .inr (.inl q)
      · exact .inr (.inr ⟨q, hlt⟩)
  · rintro b hb (hf | ⟨n, hn, hat⟩)
    · exact m2.free b hb hf
    · obtain ⟨m, hm, hat'⟩ := m2.at_ b hb
      exact hnd'.2.2 m hm n hn (atName_fun hs.hr hat' hat)
  · obtain ⟨n, _, hat⟩ := m2.at_ b hb
    exact own n b hat

/-- arguments, in a memory of their own -/
theorem enterK_rd {P : Program} : ∀ (ps : List Ty) (x : El (tupU ps)) (vs : List Value) (h : Heap) (nm : Nat) (k : List V → Heap → Nat → Option R) (r : R), enterK ps x h nm k = some r →
    ∀ {E : EnvM} {O : List Nat}, HR P W F E (fun _ => True) h → FormedL ps vs → RdB P (tupU ps) x W F O (cat vs) → O.Nodup → (∀ b ∈ O, ¬ F b) → (∀ b ∈ O, ¬ liveAny h E b) →
      ∃ us h' nm' E', k us h' nm' = some r ∧ EnvLe E E' ∧ HR P W F E' (fun _ => True) h' ∧ us.length = vs.length ∧ (∀ (i : Nat) p u, us[i]? = some p → vs[i]? = some u → RdV P W F E' p u) ∧ (∀ b, liveAny h' E' b → liveAny h E b ∨ b ∈ O) := by
  intro ps
  induction ps with
  | nil =>
    intro x vs h nm k r hk E O hr hf _ _ _ _
    have : vs = [] := List.eq_nil_of_length_eq_zero hf.length
    subst this
    exact ⟨[], h, nm, E, hk, EnvLe.refl E, hr, rfl, fun i p u hp => by simp at hp, fun b hb => .inl hb⟩
  | cons p ps ih =>
    intro x vs h nm k r hk E O hr hf hx hO hF hL
    cases vs with
    | nil => exact hf.elim
    | cons v vs =>
      simp only [enterK, unpackK_eq] at hk
      obtain ⟨hfr, hk⟩ := must_some hk
      obtain ⟨f1, f2⟩ := freshB_iff hfr
      obtain ⟨O1, O2, rfl, x1, x2⟩ := hx
      rw [List.nodup_append] at hO
      obtain ⟨E1, c1, cc1⟩ := unpackP_rd h p x.1 [] nm hr x1 hO.1 (fun b hb => hF b (by simp [hb])) (fun b hb => hL b (by simp [hb])) (fun n hn => ⟨trivial, f1 n hn, verOf_top hr trivial (f1 n hn)⟩) f2
      have hlive : ∀ b ∈ O2, ¬ liveAny (setBlks h (unpackP h p x.1 [] nm).2.1) E1 b := by
        rintro b hb ⟨m, hat⟩
        rcases c1.at_ m b hat with ⟨_, k⟩ | ⟨_, k⟩
        · exact hO.2.2 b k b hb rfl
        · exact hL b (by simp [hb]) ⟨m, k⟩
      rw [cat_tail hf.1.2.2] at x2
      obtain ⟨us, h', nm', E2, m0, m1, m2, m3, m4, m5⟩ := ih x.2 vs _ _ _ r hk c1.hr hf.2 x2 hO.2.1 (fun b hb => hF b (by simp [hb])) hlive
      refine ⟨_, h', nm', E2, m0, c1.env.trans m1, m2, by simp [m3], fun i q u hq hu => ?_, fun b hb => ?_⟩
      · cases i with
        | zero =>
          simp at hq hu
          subst hq; subst hu
          exact (came_V hf.1 cc1 (cat_head hf.1.2.2)).later (Later.refl W F) m1
        | succ i => exact m4 i q u (by simpa using hq) (by simpa using hu)
      · rcases m5 b hb with ⟨m, hat⟩ | q
        · rcases c1.at_ m b hat with ⟨_, k⟩ | ⟨_, k⟩
          · exact .inr (by simp [k])
          · exact .inl ⟨m, k⟩
        · exact .inr (by simp [q])

theorem numbered_get : ∀ (us : List V) (b s : Nat), getT (numbered b us) s = if b ≤ s then (us[s - b]?).getD .lost else .lost := by
  intro us
  induction us with
  | nil => intro b s; simp [numbered, getT]
  | cons u us ih =>
    intro b s
    simp only [numbered, getT]
    cases hb : Nat.beq b s with
    | true =>
      have := Nat.eq_of_beq_eq_true hb
      subst this
      simp
    | false =>
      simp only [cond_false]
      rw [ih]
      have hne : b ≠ s := fun e => by subst e; simp at hb
      by_cases hle : b ≤ s
      · rw [if_pos hle, if_pos (by omega), show s - b = (s - (b + 1)) + 1 by omega]
        simp
      · rw [if_neg hle, if_neg (by omega)]

theorem FnOk.body (hc : CallSound cx call) (tab : TabOk cx) (hfn : FnOk cx call) (hm : cx.P.follows .mixedOrders = true) : FnOk cx (Flat.body cx call) := by
  intro f s hs x y hy W F O vs hF hforms hrd hnd hfree
  unfold Flat.body at hy
  rw [hs] at hy
  dsimp only at hy
  cases hfun : cx.P.funcs[f]? with
  | none => rw [hfun] at hy; cases hy
  | some fn =>
    rw [hfun] at hy
    dsimp only at hy
    split at hy
    case h_2 => cases hy
    rename_i c x' hb hx'
    obtain ⟨hok, hy⟩ := must_some hy
    obtain ⟨ex, rfl⟩ := castEl_some hx'
    simp only [okBody, Bool.and_eq_true] at hok
    obtain ⟨hbelow, hps, hback⟩ := hok
    have hps : s.ps.length ≤ fn.ntmps := by simpa [Nat.ble_eq] using hps
    have hlen := hforms.length
    obtain ⟨us, h', nm', E, hk, _, hr, hul, hus, hlive⟩ := enterK_rd (P := cx.P) (W := W) (F := F) s.ps (ex ▸ x) vs (newHeap (cx.hints f)) 0 _ y hy (newHeap_HR _) hforms (RdB.cast ex hrd) hnd hfree (fun b _ => newHeap_live _)
    clear hy
    have hget : ∀ s, ({ tmps := vs.toArray ++ Array.replicate (fn.ntmps - vs.toArray.size) undef, defers := [] } : Act).tmps.getD s undef = (vs[s]?).getD undef := by
      intro s
      simp only [Array.getD_eq_getD_getElem?, Array.getElem?_append, List.size_toArray, List.getElem?_toArray]
      by_cases hlt : s < vs.length
      · rw [if_pos hlt]
      · rw [if_neg hlt, List.getElem?_eq_none (by omega), Array.getElem?_replicate]
        split <;> rfl
    let nt : Slots := ⟨fn.ntmps, s.back, fun i => (vs[i]?).getD undef⟩
    have hstart : StRel cx W F O nt ⟨numbered 0 us, h'⟩ { tmps := vs.toArray ++ Array.replicate (fn.ntmps - vs.toArray.size) undef, defers := [] } W F E := by
      refine ⟨hr, hF, fun s => ?_, Later.refl W F, fun _ _ _ => rfl, fun b hb => ?_, fun _ hb => .inl hb, ?_, fun i _ => hget i, rfl⟩
      · rw [hget, numbered_get, if_pos (Nat.zero_le _), Nat.sub_zero]
        by_cases hlt : s < vs.length
        · have hlt' : s < us.length := by omega
          rw [List.getElem?_eq_getElem hlt', List.getElem?_eq_getElem hlt]
          exact hus s _ _ (List.getElem?_eq_getElem hlt') (List.getElem?_eq_getElem hlt)
        · rw [List.getElem?_eq_none (l := us) (by omega)]
          exact trivial
      · rcases hlive b hb with q | q
        · exact (newHeap_live _ q).elim
        · exact .inl q
      · simp
        show vs.length + (fn.ntmps - vs.length) = fn.ntmps
        omega
    refine calls_of_wp hfun hb ?_
    have fin : ∀ (z : El (tup (s.rs ++ s.back.filterMap (s.ps[·]?)))) st' a' W' F' E', castEl (a := tup (s.rs ++ s.back.filterMap (s.ps[·]?))) (b := cx.out f) z = some y → retK cx call fn s st' = some z → StRel cx W F O nt st' a' W' F' E' →
        a'.defers = [] ∧ ∃ v, (results fn a'.tmps).run cx.P W' = .ok v W' ∧ ∃ v' F', Ending.returned v = .returned v' ∧ Move W F O W' F' ∧ Ret cx.P W O s vs (cx.out f) y W' F' v' := by
      intro z st' a' W' F' E' h1 h2 h3
      obtain ⟨ez, rfl⟩ := castEl_some h1
      obtain ⟨v, F2, k1, k2, ws, O', k3, k4, k5, k6⟩ := retK_rd hc tab hforms hback h3 rfl (fun i v hv => by show (vs[i]?).getD undef = v; rw [hv]; rfl) h2
      exact ⟨h3.defers, v, k1, v, F2, rfl, k2, ws, O', k3, k4, RdB.cast ez k5, k6⟩
    refine evC_sound (W0 := W) (F0 := F) (O0 := O) (nt := nt) hc tab hfn hm c _ _ _ _ y _ W F E _ hbelow hstart hk (fun e st' a' W' F' E' h1 h2 => ?_) (fun z st' a' W' F' E' h1 h2 h3 => fin z st' a' W' F' E' h1 h2 h3)
    cases e with
    | normal =>
      dsimp only at h1
      cases hz : retK cx call fn s st' with
      | none => rw [hz] at h1; cases h1
      | some z => rw [hz] at h1; exact fin z st' a' W' F' E' h1 hz h2
    | ret =>
      dsimp only at h1
      cases hz : retK cx call fn s st' with
      | none => rw [hz] at h1; cases h1
      | some z => rw [hz] at h1; exact fin z st' a' W' F' E' h1 hz h2
    | exit id => cases h1
    | goto l => cases h1
    | panic ch => cases h1
    | outgrown => cases h1

/-- THE FLAT READING IS SOUND. -/
theorem evF_ok (tab : TabOk cx) (hp : ∀ f s, cx.sig f = some s → Plain cx.P f) (hm : cx.P.follows .mixedOrders = true) : ∀ n, FnOk cx (evF cx n) := by
  intro n
  induction n with
  | zero => intro f s _ x y hy; cases hy
  | succ n ih => exact FnOk.body (FnOk.closed hp ih) tab ih hm

end
end Go.Flat
