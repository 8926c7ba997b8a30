/-
  Soundness of the flat reading, thirty-eighth part: regions; slots over a bound.
-/
import Derived.Test.YtmooabafkcfbhaaFlatTS
import Derived.LoopN
namespace Go.Flat
open Go.RowKit (Below)

section
variable {cx : Cx} {call : Oracle cx} {fx : Hints} {W0 W W' : World} {F0 F F' : Fz} {O0 : List Nat} {E E' : EnvM} {h : Heap} {a : Act} {R : Type} {nt : Slots} {st : St}

theorem evRegion_sound {id : Nat} {ops : Array Oper} {draw : Bool} {Q : Exit → Act → World → Prop} {k : St → Option R} {r : R} (hc : CallSound cx call) (tab : TabOk cx) (hfn : FnOk cx call) (hm : cx.P.follows .mixedOrders = true)
    (hd : dstsB nt.nt nt.K ops.toList = true) (hs : StRel cx W0 F0 O0 nt st a W F E) (hk : evRegion cx call fx ops.toList draw st k = some r)
    (hQ : ∀ st' a' W' F' E', k st' = some r → StRel cx W0 F0 O0 nt st' a' W' F' E' → Q .normal a' W') : (Code.region id ops draw).wp cx.P Q a W := by
  unfold evRegion at hk
  cases draw with
  | false =>
    dsimp only at hk
    apply wp_region
    have := evOps_sound (W0 := W0) (F0 := F0) (O0 := O0) (nt := nt) hc tab hfn ops.toList Q ops.toList 0 st a W F E k r (by simp) hd hs hk hQ
    rw [List.range_eq_range']
    simpa using this
  | true =>
    dsimp only at hk
    split at hk
    case isFalse => cases hk
    rename_i hap
    simp only [dstsApart, Bool.and_eq_true] at hap
    obtain ⟨h1, h2, h3⟩ := hap
    obtain ⟨L, st', hk', htr⟩ := evOpsT_trace ops.toList ops.toList 0 st [] _ r hk
    split at hk'
    case isFalse => cases hk'
    rename_i hapt
    have hnd := nodupB_iff.1 h1
    have hz : ∀ i, upto 0 i = false := fun i => by
      cases hu : upto 0 i with
      | false => rfl
      | true => rw [upto_iff] at hu; omega
    have hT0 : TD ops.toList L (getT st.t) (upto 0) = getT st.t := by
      funext s
      unfold TD
      cases writerOf ops.toList s 0 with
      | none => rfl
      | some i => simp only [hz i]; rfl
    have hH0 : ∀ (D : Nat → Bool) (n : Nat), (∀ i, i < n → D i = false) → HD L st.h D n = st.h := by
      intro D n
      induction n with
      | zero => intro _; rfl
      | succ n ih =>
        intro hD
        simp only [HD, hD n (by omega), Bool.false_eq_true, if_false]
        exact ih fun i hi => hD i (by omega)
    obtain ⟨k1, k2, k3⟩ := trace_ents (L := L) (T0 := getT st.t) (h0 := st.h) hnd ops.toList 0 L _ _ (by simp) (by simp) hT0.symm (hH0 _ _ fun i _ => hz i).symm htr
    apply wp_region_any hm
    refine drawn_sound (W0 := W0) (F0 := F0) (O0 := O0) (nt := nt) (L := L) (T0 := getT st.t) (h0 := st.h) hc tab hfn ⟨hnd, h2, h3, fun i o ho => k1 i o (Nat.zero_le _) ho, hapt⟩ hd (fun a' W' F' E' hr => ?_)
      ops.size _ a _ F E (by simp) ?_ ?_ ?_
    · obtain ⟨st2, e1, e2, hs2⟩ := hr
      rw [← k3] at e1
      rw [← k2] at e2
      exact hQ st' a' W' F' E' hk' (hs2.guard e1.symm (fun s => by rw [e2]))
    · have : ((List.range ops.toList.length).filter fun i => !(Array.replicate ops.size false).getD i true).length ≤ (List.range ops.toList.length).length := List.length_filter_le _ _
      simpa using this
    · intro j o hj hl
      exfalso
      have hlt : j < ops.size := by
        rcases Nat.lt_or_ge j ops.size with q | q
        · exact q
        · rw [List.getElem?_eq_none (by simpa using q)] at hj; cases hj
      simp [Array.getD_eq_getD_getElem?, hlt] at hl
    · have hf : ∀ i, i < ops.toList.length → (Array.replicate ops.size false).getD i true = false := by
        intro i hi
        have : i < ops.size := by simpa using hi
        simp [Array.getD_eq_getD_getElem?, this]
      refine ⟨st, (hH0 _ _ hf).symm, ?_, hs.drew rfl rfl⟩
      funext s
      unfold TD
      cases hw : writerOf ops.toList s 0 with
      | none => rfl
      | some i =>
        obtain ⟨_, o', q1, _⟩ := writer_some ops.toList s 0 i hw
        rw [Nat.sub_zero] at q1
        have hi : i < ops.toList.length := by
          rcases Nat.lt_or_ge i ops.toList.length with q | q
          · exact q
          · rw [List.getElem?_eq_none q] at q1; cases q1
        simp only [hf i hi]
        rfl

/-! ### slots over a bound -/

def slotVals (l : List (Nat × Ty)) (a : Act) : List Value := l.map fun p => a.tmps.getD p.1 undef

/-- slots that are kept, over a bound -/
structure KeepRel (cx : Cx) (W0 : World) (F0 : Fz) (O0 : List Nat) (nt : Slots) (l : List (Nat × Ty)) (x : El (slotsTy l)) (a : Act) (W : World) (F : Fz) (O : List Nat) : Prop where
  hF : ∀ b, F b → b < W.heap.size
  later : Later W0 F0 W F
  frame : ∀ b, b < W0.heap.size → b ∉ O0 → W.heap[b]? = W0.heap[b]?
  own : ∀ b ∈ O, b ∈ O0 ∨ W0.heap.size ≤ b
  fz : ∀ b, F b → F0 b ∨ b ∈ O0 ∨ W0.heap.size ≤ b
  size : a.tmps.size = nt.nt
  keep : ∀ i ∈ nt.K, a.tmps.getD i undef = nt.kv i
  defers : a.defers = []
  forms : FormedL (l.map (·.2)) (slotVals l a)
  rd : RdB cx.P (slotsTy l) x W F O (cat (slotVals l a))
  nodup : O.Nodup
  free : ∀ b ∈ O, ¬ F b

theorem packSlots_rd (hc : CallSound cx call) (hr : HR cx.P W F E (fun _ => True) st.h) (ht : ∀ s, RdV cx.P W F E (getT st.t s) (a.tmps.getD s undef)) : ∀ (l : List (Nat × Ty)) (x : El (slotsTy l)) (ns : List Nat),
    packSlots cx call st l = some (x, ns) → ∃ taken lent O, ns.Perm (taken ++ lent) ∧ FormedL (l.map (·.2)) (slotVals l a) ∧ RdB cx.P (slotsTy l) x W (FzPlus F st.h E lent) O (cat (slotVals l a)) ∧ Takes F st.h E taken O := by
  intro l
  induction l with
  | nil =>
    intro x ns hk
    simp only [packSlots, Option.some.injEq] at hk
    obtain ⟨_, rfl⟩ := hk
    exact ⟨[], [], [], List.Perm.refl _, trivial, rfl, Takes.nil⟩
  | cons p l ih =>
    obtain ⟨s, t⟩ := p
    intro x ns hk
    simp only [packSlots] at hk
    split at hk
    case h_2 => cases hk
    rename_i ag cs hg
    split at hk
    case isFalse => cases hk
    rename_i hag
    have hv := ht s
    rw [hg] at hv
    cases h1 : packAll cx call st.h t cs with
    | none => rw [h1] at hk; cases hk
    | some z =>
      rw [h1] at hk
      simp only [Option.bind_some] at hk
      cases h2 : packSlots cx call st l with
      | none => rw [h2] at hk; cases hk
      | some q =>
        rw [h2] at hk
        simp only [Option.map_some, Option.some.injEq] at hk
        obtain ⟨rfl, rfl⟩ := hk
        obtain ⟨O1, k1, k2, k3⟩ := packAll_rd hc hr (x := z.1) (taken := z.2.1) (lent := z.2.2) h1 hv.1
        obtain ⟨t2, l2, O2, m0, m1, m2, m3⟩ := ih q.1 q.2 h2
        have hw : (a.tmps.getD s undef).cells.size = width t := by simpa using k3
        refine ⟨z.2.1 ++ t2, z.2.2 ++ l2, O1 ++ O2, ?_, ⟨RdV1.formed hv hag hw, m1⟩, ⟨O1, O2, rfl, RdB.congr t (fun j hj => ?_) (k1.later t (Later.same FzPlus.left) (fun _ _ => rfl)), ?_⟩, k2.append hr m3⟩
        · rw [List.append_assoc, List.append_assoc]
          exact List.Perm.append_left _ ((List.Perm.append_left _ m0).trans (List.perm_append_comm_assoc _ _ _))
        · show cat (a.tmps.getD s undef :: slotVals l a) j = _
          rw [cat_head hw j hj, one, Array.getElem?_toList]
        · show RdB cx.P (slotsTy l) q.1 W _ O2 (fun j => cat (a.tmps.getD s undef :: slotVals l a) (width t + j))
          rw [cat_tail hw]; exact m2.later (slotsTy l) (Later.same FzPlus.right) (fun _ _ => rfl)

theorem packSt_rd (hc : CallSound cx call) (hs : StRel cx W0 F0 O0 nt st a W F E) {l : List (Nat × Ty)} {x : El (slotsTy l)} (hk : packSt cx call st l = some x) : ∃ F' O, KeepRel cx W0 F0 O0 nt l x a W F' O := by
  unfold packSt at hk
  split at hk
  case h_2 => cases hk
  rename_i x' ns hp
  split at hk
  case isFalse => cases hk
  rename_i hnd
  injection hk with hk
  subst hk
  obtain ⟨taken, lent, O, k0, k1, k2, k3⟩ := packSlots_rd hc hs.hr hs.t l x' ns hp
  have hnd' : (taken ++ lent).Nodup := (k0.nodup_iff).1 (nodupB_iff.1 hnd)
  rw [List.nodup_append] at hnd'
  refine ⟨FzPlus F st.h E lent, O, fun b hb => FzPlus.lt hs.hr hs.hF hb, hs.later.trans (later_plus lent), hs.frame, fun b hb => ?_, fun b hb => ?_, hs.size, hs.keep, hs.defers, k1, k2, k3.nodup hnd'.1, ?_⟩
  · obtain ⟨n, _, hat⟩ := k3.at_ b hb
    exact hs.own b ⟨n, hat⟩
  · rcases hb with hb | ⟨n, _, hat⟩
    · exact hs.fz b hb
    · exact .inr (hs.own b ⟨n, hat⟩)
  · rintro b hb (hf | ⟨n, hn, hat⟩)
    · exact k3.free b hb hf
    · obtain ⟨m, hm, hat'⟩ := k3.at_ b hb
      exact hnd'.2.2 m hm n hn (atName_fun hs.hr hat' hat)

theorem freshB_iff {bs : List (Nat × Nat × Blk)} (hf : freshB h bs = true) : (∀ n ∈ bsNames bs, n < h.length) ∧ (bsNames bs).Nodup := by
  simp only [freshB, Bool.and_eq_true] at hf
  refine ⟨fun n hn => ?_, nodupB_iff.1 hf.2⟩
  simp only [bsNames, List.mem_map] at hn
  obtain ⟨b, hb, rfl⟩ := hn
  have := List.all_eq_true.1 hf.1 b hb
  simpa [Nat.blt_eq] using this

theorem came_V {P : Program} {t : Ty} {cs : List Cell} {v : Value} {g : Get} (hf : formed t v) (hc : CameCells P W F E t cs g) (hg : ∀ j, j < width t → g j = one v j) : RdV P W F E (.v (agg t) cs) v := by
  obtain ⟨vs, v1, v2, v3⟩ := hc
  have hvs : vs = v.cells.toList := by
    apply List.ext_getElem?
    intro j
    by_cases hj : j < width t
    · rw [← v2 j hj, hg j hj, one, Array.getElem?_toList]
    · have := hf.2.2
      rw [List.getElem?_eq_none (by omega), List.getElem?_eq_none (by simp; omega)]
  subst hvs
  exact ⟨v3, hf.1, hf.2.1⟩

theorem unpackSlots_rd {P : Program} : ∀ (l : List (Nat × Ty)) (x : El (slotsTy l)) (t : List (Nat × V)) (h : Heap) (nm : Nat) (k : St → Option R) (r : R), unpackSlots l x t h nm k = some r →
    ∀ {E : EnvM} {O : List Nat}, HR P W F E (fun _ => True) h → FormedL (l.map (·.2)) (slotVals l a) → RdB P (slotsTy l) x W F O (cat (slotVals l a)) → O.Nodup → (∀ b ∈ O, ¬ F b) → (∀ b ∈ O, ¬ liveAny h E b) →
      (∀ s, RdV P W F E (getT t s) (a.tmps.getD s undef)) →
      ∃ st' E', k st' = some r ∧ HR P W F E' (fun _ => True) st'.h ∧ (∀ s, RdV P W F E' (getT st'.t s) (a.tmps.getD s undef)) ∧ (∀ b, liveAny st'.h E' b → liveAny h E b ∨ b ∈ O) := by
  intro l
  induction l with
  | nil => intro x t h nm k r hk E O hr _ _ _ _ _ ht; exact ⟨⟨t, h⟩, E, hk, hr, ht, fun b hb => .inl hb⟩
  | cons p l ih =>
    obtain ⟨s, ty⟩ := p
    intro x t h nm k r hk E O hr hf hx hO hF hL ht
    simp only [unpackSlots, unpackK_eq] at hk
    obtain ⟨hfr, hk⟩ := must_some hk
    obtain ⟨f1, f2⟩ := freshB_iff hfr
    obtain ⟨O1, O2, rfl, x1, x2⟩ := hx
    rw [List.nodup_append] at hO
    have hf' : formed ty (a.tmps.getD s undef) ∧ FormedL (l.map (·.2)) (slotVals l a) := hf
    obtain ⟨E1, c1, cc1⟩ := unpackP_rd h ty x.1 [] nm hr x1 hO.1 (fun b hb => hF b (by simp [hb])) (fun b hb => hL b (by simp [hb])) (fun n hn => ⟨trivial, f1 n hn, verOf_top hr trivial (f1 n hn)⟩) f2
    have hlive : ∀ b ∈ O2, ¬ liveAny (setBlks h (unpackP h ty x.1 [] nm).2.1) E1 b := by
      rintro b hb ⟨m, hat⟩
      rcases c1.at_ m b hat with ⟨_, k⟩ | ⟨_, k⟩
      · exact hO.2.2 b k b hb rfl
      · exact hL b (by simp [hb]) ⟨m, k⟩
    have hg : (fun j => cat (slotVals ((s, ty) :: l) a) (width ty + j)) = cat (slotVals l a) := cat_tail (vs := slotVals l a) hf'.1.2.2
    have x2' : RdB P (slotsTy l) x.2 W F O2 (fun j => cat (slotVals ((s, ty) :: l) a) (width ty + j)) := x2
    rw [hg] at x2'
    obtain ⟨st', E2, m1, m2, m3, m4⟩ := ih x.2 _ _ _ k r hk c1.hr hf'.2 x2' hO.2.1 (fun b hb => hF b (by simp [hb])) hlive (fun s' => by
      simp only [getT]
      cases hbe : Nat.beq s s' with
      | false => exact (ht s').later (Later.refl W F) c1.env
      | true =>
        have := Nat.eq_of_beq_eq_true hbe
        subst this
        exact came_V hf'.1 cc1 (cat_head (vs := slotVals l a) hf'.1.2.2))
    refine ⟨st', E2, m1, m2, m3, fun b hb => ?_⟩
    rcases m4 b hb with ⟨m, hat⟩ | q
    · rcases c1.at_ m b hat with ⟨_, k⟩ | ⟨_, k⟩
      · exact .inr (by simp [k])
      · exact .inl ⟨m, k⟩
    · exact .inr (by simp [q])

theorem newHeap_HR {P : Program} (fx : Hints) : HR P W F ⟨fun _ _ => none, fun _ => 0⟩ (fun _ => True) (newHeap fx) := by
  have get : ∀ (n : Nat) (x : Nat × Option Blk), (newHeap fx)[n]? = some x → x = (0, none) := by
    intro n x hx
    unfold newHeap at hx
    rw [List.getElem?_replicate] at hx
    split at hx
    · injection hx with hx; exact hx.symm
    · cases hx
  refine ⟨fun n ver b _ hb => ?_, fun n ver b hb => ?_, fun n m vn vm bn bm L M x h1 => ?_⟩
  · have := get n _ hb; injection this
  · have := get n _ hb; injection this with _ h2; cases h2
  · have := get n _ h1; injection this with _ h2; cases h2

theorem newHeap_live (fx : Hints) {E : EnvM} {b : Nat} : ¬ liveAny (newHeap fx) E b := by
  rintro ⟨n, ver, B, L, h1, _⟩
  unfold newHeap at h1
  rw [List.getElem?_replicate] at h1
  split at h1
  · injection h1 with h1; injection h1 with _ h1; cases h1
  · cases h1

theorem unpackSt_rd {l : List (Nat × Ty)} {x : El (slotsTy l)} {k : St → Option R} {r : R} {O : List Nat} (hk : unpackSt fx l x k = some r) (hs : KeepRel cx W0 F0 O0 nt l x a W F O) :
    ∃ st' E', k st' = some r ∧ StRel cx W0 F0 O0 nt st' a W F E' := by
  unfold unpackSt at hk
  obtain ⟨st', E', h1, h2, h3, h4⟩ := unpackSlots_rd (P := cx.P) (W := W) (F := F) (a := a) l x [] (newHeap fx) 0 k r hk (newHeap_HR fx) hs.forms hs.rd hs.nodup hs.free (fun b _ => newHeap_live fx) (fun s => trivial)
  refine ⟨st', E', h1, h2, hs.hF, h3, hs.later, hs.frame, fun b hb => ?_, hs.fz, hs.size, hs.keep, hs.defers⟩
  rcases h4 b hb with q | q
  · exact (newHeap_live fx q).elim
  · exact hs.own b q

end
end Go.Flat
