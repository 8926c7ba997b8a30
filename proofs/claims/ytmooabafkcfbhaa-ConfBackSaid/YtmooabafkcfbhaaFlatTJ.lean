/-
  Soundness of the flat reading, twenty-eighth part: functions, and calls of them.
-/
import Derived.Test.YtmooabafkcfbhaaFlatTI
namespace Go.Flat
open Go.RowKit (Below)

/-- values' cells in a row -/
def cat (vs : List Value) : Get := fun j => (vs.flatMap fun v => v.cells.toList)[j]?

/-- values of the forms of codes -/
def FormedL : List Ty → List Value → Prop
  | [], [] => True
  | t :: ts, v :: vs => formed t v ∧ FormedL ts vs
  | _, _ => False

theorem FormedL.length : ∀ {ts : List Ty} {vs : List Value}, FormedL ts vs → vs.length = ts.length := by
  intro ts
  induction ts with
  | nil => intro vs h; cases vs with
    | nil => rfl
    | cons => exact h.elim
  | cons t ts ih => intro vs h; cases vs with
    | nil => exact h.elim
    | cons v vs => simp [ih h.2]

theorem cat_head {t : Ty} {v : Value} {vs : List Value} (h : v.cells.size = width t) : ∀ j, j < width t → cat (v :: vs) j = one v j := by
  intro j hj
  simp only [cat, one, List.flatMap_cons]
  rw [List.getElem?_append_left (by simp; omega), Array.getElem?_toList]
theorem cat_tail {t : Ty} {v : Value} {vs : List Value} (h : v.cells.size = width t) : (fun j => cat (v :: vs) (width t + j)) = cat vs := by
  funext j
  simp only [cat, List.flatMap_cons]
  rw [List.getElem?_append_right (by simp; omega)]
  congr 1
  simp; omega

/-- what a call makes of the world -/
structure Move (W : World) (F : Fz) (O : List Nat) (W' : World) (F' : Fz) : Prop where
  later : Later W F W' F'
  frame : ∀ b, b < W.heap.size → b ∉ O → W'.heap[b]? = W.heap[b]?
  fz : ∀ b, F' b → F b ∨ b ∈ O ∨ (W.heap.size ≤ b ∧ b < W'.heap.size)

/-- several results as one value -/
def retVal (ws : List Value) : Value := if ws.length = 1 then ws.headD .nilFunc else .tuple ws.toArray

/-- what a call answers -/
def Ret (P : Program) (W : World) (O : List Nat) (s : Sig) (args : List Value) (t : Ty) (y : El t) (W' : World) (F' : Fz) (v : Value) : Prop :=
  ∃ ws O', FormedL s.rs ws ∧ v = retVal ws ∧ RdB P t y W' F' O' (cat (ws ++ s.back.filterMap (args[·]?))) ∧ O'.Nodup ∧ (∀ b ∈ O', ¬ F' b) ∧ (∀ b ∈ O', b ∈ O ∨ W.heap.size ≤ b)

/-- HOW CALLS ARE ANSWERED SOUNDLY. -/
def FnOk (cx : Cx) (call : Oracle cx) : Prop :=
  ∀ f s, cx.sig f = some s → ∀ (x : El (cx.arg f)) (y : El (cx.out f)), call f x = some y → ∀ W F O vs, (∀ b, F b → b < W.heap.size) → FormedL s.ps vs → RdB cx.P (cx.arg f) x W F O (cat vs) →
    O.Nodup → (∀ b ∈ O, ¬ F b) → Calls cx.P f vs.toArray W fun e W' => ∃ v F', e = .returned v ∧ Move W F O W' F' ∧ Ret cx.P W O s vs (cx.out f) y W' F' v

theorem arg_of {cx : Cx} {f : FuncId} {s : Sig} (hs : cx.sig f = some s) : cx.arg f = tupU s.ps := by unfold Cx.arg; rw [hs]
theorem out_of {cx : Cx} {f : FuncId} {s : Sig} (hs : cx.sig f = some s) : cx.out f = s.out := by unfold Cx.out; rw [hs]

section
variable {P : Program} {W W' : World} {F F' : Fz}

theorem RdArgs.toB : ∀ (ps : List Ty) {x : El (tupU ps)} {vs : List Value}, RdArgs P (tupU ps) x W F vs → FormedL ps vs ∧ RdB P (tupU ps) x W F [] (cat vs) := by
  intro ps
  induction ps with
  | nil => intro x vs h; have : vs = [] := h; subst this; exact ⟨trivial, rfl⟩
  | cons p ps ih =>
    intro x vs h
    obtain ⟨v, r, rfl, h1, h2, h3⟩ := h
    obtain ⟨k1, k2⟩ := ih h3
    refine ⟨⟨h1, k1⟩, [], [], rfl, RdB.congr p (cat_head h1.2.2) (Rd.toB p h2), ?_⟩
    rw [cat_tail h1.2.2]; exact k2

theorem RdB.cast {a b : Ty} (e : a = b) {x : El a} {O : List Nat} {g : Get} (h : RdB P a x W F O g) : RdB P b (e ▸ x) W F O g := by subst e; exact h

theorem FnOk.closed {cx : Cx} {call : Oracle cx} (hp : ∀ f s, cx.sig f = some s → Plain cx.P f) (hf : FnOk cx call) : CallSound cx call := by
  refine ⟨hp, fun f s hs hb r hr hcl hone ho x y hy W F vs hF hargs => ?_⟩
  have hx : FormedL s.ps vs ∧ RdB cx.P (cx.arg f) x W F [] (cat vs) := by
    have e := arg_of hs
    have h2 := RdArgs.cast e hargs
    obtain ⟨k1, k2⟩ := RdArgs.toB s.ps h2
    refine ⟨k1, ?_⟩
    have k3 := RdB.cast e.symm k2
    have : ∀ {t u : Ty} (e : t = u) (x : El t), (e.symm ▸ (e ▸ x : El u) : El t) = x := by
      intro t u e x; subst e; rfl
    rwa [this] at k3
  refine (hf f s hs x y hy W F [] vs hF hx.1 hx.2 List.nodup_nil (by simp)).mono fun e W' h => ?_
  obtain ⟨v, F', rfl, hm, ws, O', h1, rfl, h2, _, _, _⟩ := h
  rw [hr] at h1
  match ws, h1 with
  | [w], h1 =>
    have hg : RdB cx.P r (ho ▸ y) W' F' O' (cat ([w] ++ s.back.filterMap (vs[·]?))) := RdB.cast ho h2
    obtain ⟨_, h3⟩ := RdB.toRd r hcl hg
    refine ⟨w, F', rfl, ⟨⟨hm.later.os, hm.later.tape, hm.later.output, hm.later.size, fun b hb => hm.frame b hb (by simp)⟩, hm.later.more, fun b hb => ?_⟩, h1.1, Rd.congr r (fun j hj => ?_) h3⟩
    · rcases hm.fz b hb with k | k | k
      · exact .inl k
      · cases k
      · exact .inr k
    · exact (cat_head h1.1.2.2 j hj).symm

end

section
variable {P : Program} {W W' : World} {F F' F2 : Fz} {E E' : EnvM} {h : Heap} {N : Nat → Prop}

def killUps (E : EnvM) (ns : List Nat) : Ups := ns.map fun n => (n, E.top n, none)
def bumpUps (E : EnvM) (ns : List Nat) : Ups := ns.map fun n => (n, E.top n + 1, none)
theorem killNames (E : EnvM) (ns : List Nat) : upNames (killUps E ns) = ns := by
  simp only [upNames, killUps, List.map_map]; exact List.map_id _
theorem bumpNames (E : EnvM) (ns : List Nat) : upNames (bumpUps E ns) = ns := by
  simp only [upNames, bumpUps, List.map_map]; exact List.map_id _

theorem HR.kill : ∀ (ns : List Nat) {h : Heap}, HR P W F E N h → (∀ n ∈ ns, N n ∧ n < h.length) →
    HR P W F E N (setUps h (killUps E ns)) ∧ ∀ m b, atName (setUps h (killUps E ns)) E m b → m ∉ ns ∧ atName h E m b := by
  intro ns
  induction ns with
  | nil => intro h hr _; exact ⟨hr, fun m b hm => ⟨by simp, hm⟩⟩
  | cons n r ih =>
    intro h hr hN
    obtain ⟨k1, k2⟩ := hN n (by simp)
    have h1 : HR P W F E N (h.set n (E.top n, none)) :=
      hr.put k1 (EnvLe.refl E) rfl (fun _ _ => rfl) (Later.refl W F) (fun b _ => ⟨rfl, fun h => h⟩) (fun B hB => by cases hB)
    obtain ⟨m1, m2⟩ := ih h1 (fun m hm => by obtain ⟨a, b⟩ := hN m (by simp [hm]); exact ⟨a, by simpa using b⟩)
    refine ⟨m1, fun m b hat => ?_⟩
    obtain ⟨q1, v, B, L, q2, q3⟩ := m2 m b hat
    by_cases e : m = n
    · subst e
      rw [List.getElem?_set] at q2
      simp [k2] at q2
    · rw [List.getElem?_set_ne (fun q => e q.symm)] at q2
      exact ⟨by simp [e, q1], v, B, L, q2, q3⟩

theorem HR.bumps : ∀ (ns : List Nat) {h : Heap} {E : EnvM}, HR P W F E N h → (∀ n ∈ ns, N n ∧ n < h.length) → ns.Nodup →
    ∃ E', EnvLe E E' ∧ HR P W F E' N (setUps h (bumpUps E ns)) ∧ (∀ m, m ∉ ns → E'.top m = E.top m) ∧ ∀ m b, atName (setUps h (bumpUps E ns)) E' m b → m ∉ ns ∧ atName h E m b := by
  intro ns
  induction ns with
  | nil => intro h E hr _ _; exact ⟨E, EnvLe.refl E, hr, fun _ _ => rfl, fun m b hm => ⟨by simp, hm⟩⟩
  | cons n r ih =>
    intro h E hr hN hnd
    rw [List.nodup_cons] at hnd
    obtain ⟨k1, k2⟩ := hN n (by simp)
    have h1 : HR P W F (E.next n none) N (h.set n (E.top n + 1, none)) :=
      hr.put k1 (EnvM.next_le E n none) (EnvM.next_top _ _ _) (fun m hm => EnvM.next_other _ _ _ m hm) (Later.refl W F) (fun b _ => ⟨rfl, fun h => h⟩) (fun B hB => by cases hB)
    obtain ⟨E', m0, m1, m2, m3⟩ := ih h1 (fun m hm => by obtain ⟨a, b⟩ := hN m (by simp [hm]); exact ⟨a, by simpa using b⟩) hnd.2
    have hb : bumpUps (E.next n none) r = bumpUps E r := by
      simp only [bumpUps]
      refine List.map_congr_left fun m hm => ?_
      rw [EnvM.next_other _ _ _ m (fun e => by subst e; exact hnd.1 hm)]
    rw [hb] at m1 m3
    refine ⟨E', (EnvM.next_le E n none).trans m0, m1, fun m hm => ?_, fun m b hat => ?_⟩
    · simp only [List.mem_cons, not_or] at hm
      rw [m2 m hm.2, EnvM.next_other _ _ _ m hm.1]
    · obtain ⟨q1, v, B, L, q2, q3, q4⟩ := m3 m b hat
      by_cases e : m = n
      · subst e
        rw [List.getElem?_set] at q2
        simp [k2] at q2
      · rw [List.getElem?_set_ne (fun q => e q.symm)] at q2
        have : atName h (E.next n none) m b := ⟨v, B, L, q2, q3, q4⟩
        exact ⟨by simp [e, q1], (atName_env (EnvM.next_le E n none) hr).1 this⟩

theorem freeze_names {h : Heap} {ns : List Nat} {n : Nat} (hn : n ∈ upNames (freezeUps h ns)) : n ∈ ns := by
  induction ns with
  | nil => cases hn
  | cons m r ih =>
    rw [freezeUps_cons] at hn
    simp only [upNames, List.map_append, List.mem_append] at hn
    rcases hn with hn | hn
    · split at hn
      · simp at hn; simp [hn]
      · simp at hn
    · exact List.mem_cons_of_mem _ (ih hn)

/-- behind a call, ahead of what comes back: what was taken is dead -/
theorem call_mid {taken ls O O' : List Nat} (hr : HR P W F E N h) (hT : Takes F h E taken O) (hN : ∀ n ∈ taken, N n ∧ n < h.length)
    (hl : Later W (FzPlus F h E ls) W' F2) (hframe : ∀ b, b < W.heap.size → b ∉ O → W'.heap[b]? = W.heap[b]?) (hfz : ∀ b, F2 b → FzPlus F h E ls b ∨ b ∈ O ∨ (W.heap.size ≤ b ∧ b < W'.heap.size))
    (hO' : ∀ b ∈ O', b ∈ O ∨ W.heap.size ≤ b) :
    HR P W' F2 E N (setUps (setUps h (freezeUps h ls)) (killUps E taken)) ∧ (∀ b ∈ O', ¬ liveAny (setUps (setUps h (freezeUps h ls)) (killUps E taken)) E b) ∧
      ∀ m b, atName (setUps (setUps h (freezeUps h ls)) (killUps E taken)) E m b → m ∉ taken ∧ atName h E m b := by
  obtain ⟨h1, hfr⟩ := HR.freeze ls hr (Frozer.refl h)
  obtain ⟨h2, h3⟩ := HR.kill taken h1 (fun n hn => ⟨(hN n hn).1, by rw [setUps_length]; exact (hN n hn).2⟩)
  have hat : ∀ m b, atName (setUps (setUps h (freezeUps h ls)) (killUps E taken)) E m b → m ∉ taken ∧ atName h E m b := fun m b k => ⟨(h3 m b k).1, (hfr.atName m b).1 (h3 m b k).2⟩
  have hnot : ∀ b, liveAny (setUps (setUps h (freezeUps h ls)) (killUps E taken)) E b → b < W.heap.size ∧ b ∉ O := by
    rintro b ⟨m, k⟩
    obtain ⟨k1, k2⟩ := hat m b k
    refine ⟨hr.lt b ⟨m, k2⟩, fun hb => ?_⟩
    obtain ⟨n, hn, k3⟩ := hT.at_ b hb
    exact k1 (atName_fun hr k3 k2 ▸ hn)
  refine ⟨h2.world hl (fun b hb => ?_), fun b hb hlive => ?_, hat⟩
  · obtain ⟨k1, k2⟩ := hnot b hb
    refine ⟨hframe b k1 k2, fun hn hf => ?_⟩
    rcases hfz b hf with q | q | q
    · exact hn q
    · exact k2 q
    · omega
  · obtain ⟨k1, k2⟩ := hnot b hlive
    rcases hO' b hb with q | q
    · exact k2 q
    · omega

theorem call_core {taken takes ls O O' : List Nat} {u : Ups} {E1 : EnvM} (hr : HR P W F E N h) (hT : Takes F h E taken O)
    (hsub : ∀ n ∈ takes, n ∈ taken) (hnd2 : takes.Nodup) (hall : ∀ n ∈ taken, n ∈ takes ∨ n ∈ upNames u) (hls : ∀ n ∈ ls, n ∉ taken)
    (hl : Later W (FzPlus F h E ls) W' F2) (hframe : ∀ b, b < W.heap.size → b ∉ O → W'.heap[b]? = W.heap[b]?) (hfz : ∀ b, F2 b → FzPlus F h E ls b ∨ b ∈ O ∨ (W.heap.size ≤ b ∧ b < W'.heap.size))
    (hO' : ∀ b ∈ O', b ∈ O ∨ W.heap.size ≤ b) (hlt : ∀ b ∈ O', b < W'.heap.size)
    (hN : ∀ n ∈ upNames (takeUps h takes ++ freezeUps h ls ++ u), N n ∧ n < h.length)
    (hc : CameU P W' F2 E N (setUps (setUps h (freezeUps h ls)) (killUps E taken)) O' u E1) :
    ∃ E', EnvLe E1 E' ∧ OpPost P W F E N h W' F2 E' (takeUps h takes ++ freezeUps h ls ++ u) := by
  have hnames : ∀ n, n ∈ upNames (takeUps h takes ++ freezeUps h ls ++ u) ↔ n ∈ takes ∨ n ∈ upNames (freezeUps h ls) ∨ n ∈ upNames u := by
    intro n; simp [upNames, takeUps]
  have hNt : ∀ n ∈ taken, N n ∧ n < h.length := fun n hn => by
    rcases hall n hn with k | k
    · exact hN n ((hnames n).2 (.inl k))
    · exact hN n ((hnames n).2 (.inr (.inr k)))
  obtain ⟨hmid, hdead, hat⟩ := call_mid hr hT hNt hl hframe hfz hO'
  -- what was taken, and does not come back, is of a new version
  have hbn : ∀ n ∈ takes.filter (fun n => !hasN (upNames u) n), n ∈ takes ∧ n ∉ upNames u := by
    intro n hn
    rw [List.mem_filter] at hn
    refine ⟨hn.1, fun k => ?_⟩
    have := hasN_iff.2 k
    rw [this] at hn
    exact absurd hn.2 (by simp)
  obtain ⟨E2, e1, e2, e3, e4⟩ := HR.bumps (takes.filter (fun n => !hasN (upNames u) n)) hc.hr
    (fun n hn => by
      obtain ⟨k1, k2⟩ := hbn n hn
      obtain ⟨m1, m2⟩ := hNt n (hsub n k1)
      exact ⟨m1, by rw [setUps_length, setUps_length, setUps_length]; exact m2⟩) (hnd2.filter _)
  generalize hG : takes.filter (fun n => !hasN (upNames u) n) = G at hbn e2 e3 e4
  have hGmem : ∀ n, n ∈ takes → n ∉ upNames u → n ∈ G := by
    intro n h1 h2
    rw [← hG, List.mem_filter]
    refine ⟨h1, ?_⟩
    cases hh : hasN (upNames u) n with
    | false => rfl
    | true => exact absurd (hasN_iff.1 hh) h2
  -- memory, entry by entry
  have hext : ∀ n : Nat, (setUps h (takeUps h takes ++ freezeUps h ls ++ u))[n]? = (setUps (setUps (setUps (setUps h (freezeUps h ls)) (killUps E taken)) u) (bumpUps E1 G))[n]? := by
    intro n
    rw [setUps_append, setUps_append]
    by_cases hu : n ∈ upNames u
    · rw [setUps_get (bumpUps E1 G) _ n (by rw [bumpNames]; exact fun k => (hbn n k).2 hu)]
      exact setUps_over u _ _ n hu (by simp [setUps_length])
    · rw [setUps_get u _ n hu]
      by_cases ht : n ∈ takes
      · have hG' := hGmem n ht hu
        have hfr : n ∉ upNames (freezeUps h ls) := fun k => hls n (freeze_names k) (hsub n ht)
        rw [setUps_get (freezeUps h ls) _ n hfr]
        have htop : E1.top n = verOf h n := by
          obtain ⟨k1, k2⟩ := hNt n (hsub n ht)
          rw [hc.tops n hu, verOf_top hr k1 k2]
        have hlt' := (hNt n (hsub n ht)).2
        have key : ∀ (f : Nat → Nat) (ns : List Nat) (k : Heap), n ∈ ns → n < k.length → (setUps k (ns.map fun m => (m, f m, none)))[n]? = some (f n, none) := by
          intro f ns
          induction ns with
          | nil => intro k hn; cases hn
          | cons m r ih =>
            intro k hn hk
            simp only [List.map_cons, setUps]
            by_cases hr' : n ∈ r
            · exact ih _ hr' (by simpa using hk)
            · have : n = m := (List.mem_cons.1 hn).resolve_right hr'
              subst this
              rw [setUps_get _ _ n (by simpa [upNames] using hr'), List.getElem?_set]
              simp [hk]
        rw [show takeUps h takes = takes.map fun m => (m, (fun m => verOf h m + 1) m, none) from rfl, key (fun m => verOf h m + 1) takes h ht hlt']
        rw [show bumpUps E1 G = G.map fun m => (m, (fun m => E1.top m + 1) m, none) from rfl, key (fun m => E1.top m + 1) G _ hG' (by rw [setUps_length, setUps_length, setUps_length]; exact hlt')]
        simp [htop]
      · have hnt : n ∉ taken := fun k => (hall n k).elim ht hu
        rw [setUps_get (bumpUps E1 G) _ n (by rw [bumpNames]; exact fun k => ht (hbn n k).1), setUps_get u _ n hu, setUps_get (killUps E taken) _ n (by rw [killNames]; exact hnt)]
        by_cases hfr : n ∈ upNames (freezeUps h ls)
        · exact setUps_over _ _ _ n hfr (setUps_length _ _)
        · rw [setUps_get _ _ n hfr, setUps_get _ _ n hfr, setUps_get _ _ n (by simpa [upNames, takeUps] using ht)]
  refine ⟨E2, e1, HR.ext e2 hext, (later_plus ls).trans hl, hc.env.trans e1, fun b hb hnot => ?_, fun b hb => ?_, fun m b hm hat' => ?_, fun m hm => ?_⟩
  · refine hframe b hb (fun hbO => ?_)
    obtain ⟨n, hn, k⟩ := hT.at_ b hbO
    exact hnot n ((hnames n).2 (by rcases hall n hn with q | q; exact .inl q; exact .inr (.inr q))) k
  · rcases hfz b hb with (k | ⟨n, hn, k⟩) | k | k
    · exact .inl k
    · exact .inr (.inl ⟨n, (hnames n).2 (.inr (.inl (mem_freeze hn k))), k⟩)
    · obtain ⟨n, hn, k⟩ := hT.at_ b k
      exact .inr (.inl ⟨n, (hnames n).2 (by rcases hall n hn with q | q; exact .inl q; exact .inr (.inr q)), k⟩)
    · exact .inr (.inr k)
  · have hat2 : atName (setUps (setUps (setUps (setUps h (freezeUps h ls)) (killUps E taken)) u) (bumpUps E1 G)) E2 m b := by
      obtain ⟨v, B, L, q1, q2⟩ := hat'
      exact ⟨v, B, L, by rw [← hext]; exact q1, q2⟩
    obtain ⟨_, hat3⟩ := e4 m b hat2
    rcases hc.at_ m b hat3 with ⟨k1, k2⟩ | ⟨k1, k2⟩
    · rcases hO' b k2 with q | q
      · obtain ⟨n, hn, k⟩ := hT.at_ b q
        exact .inl ⟨n, (hnames n).2 (by rcases hall n hn with q | q; exact .inl q; exact .inr (.inr q)), k⟩
      · exact .inr ⟨q, hlt b k2⟩
    · exact .inl ⟨m, hm, (hat m b k2).2⟩
  · rw [hnames] at hm
    simp only [not_or] at hm
    rw [e3 m (fun k => hm.1 (hbn m k).1), hc.tops m hm.2.2]

end
end Go.Flat
