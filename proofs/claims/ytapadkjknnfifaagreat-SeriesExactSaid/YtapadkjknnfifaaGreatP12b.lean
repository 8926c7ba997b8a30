/-
  Events as they were, second part: one more is put; equal ones.
-/
import Derived.Test.YtapadkjknnfifaaGreatP12
namespace Go.Proofs.YtapadkjknnfifaaGreat
open Go.Flat Go.Plim
set_option linter.unusedVariables false
set_option linter.unusedSimpArgs false
/-- does an event follow the last one? -/
def After (l : List Ev) (e : Ev) : Prop := ∀ q, l.getLast? = some q → q.1 < e.1
noncomputable instance (l e) : Decidable (After l e) := Classical.propDecidable _
def r0w : Rw := (0, (0, []))
/-- one more, by a ring -/
def rawNext (r : Rw) (room : Int) (e : Ev) : Rw :=
  if (r.2.2.length : Int) < room then (r.1, (r.2.1, r.2.2 ++ [e])) else (r.1 + 1, ((r.2.2.headD e0).1, r.2.2.drop 1 ++ [e]))
noncomputable def rawPut (r : Rw) (room : Int) (e : Ev) : Rw × Int :=
  if RawOk r room ∧ EvOk e then (if After r.2.2 e then (if (r.2.2.length : Int) = room ∧ r.1 = 70368744177664 then (r0w, 1) else (rawNext r room e, 0)) else (r0w, 9)) else (r0w, 2)
theorem raw_open_l (n : Nat) (room : Int) (l : List Ev) (hL : l.length ≤ 1000000) (hr : (l.length : Int) ≤ room) : ∀ (rest pre : List Ev) (f : Nat) (i len : Int), l = pre ++ rest → i = pre.length → len = l.length → rest.length < f →
    raw_open_l5 (n + 1) f ((room, (pre, (0, 0))), l, len, i, ()) = some (.inl ((room, (l, (0, 0))), ())) := by
  intro rest
  induction rest with
  | nil =>
    intro pre f i len hl hi hn hf
    obtain ⟨f, rfl⟩ : ∃ g, f = g + 1 := ⟨f - 1, by simp at hf; omega⟩
    rw [raw_open_l5_eq]
    have e : l = pre := by rw [hl, List.append_nil]
    simp only [tif_dec, if_neg (idxe hl hi hn), e]
  | cons x rest ih =>
    intro pre f i len hl hi hn hf
    obtain ⟨f, rfl⟩ : ∃ g, f = g + 1 := ⟨f - 1, by simp at hf; omega⟩
    have hp : pre.length + 1 ≤ l.length := by have := congrArg List.length hl; simp at this; omega
    rw [raw_open_l5_eq]
    simp only [tif_dec, if_pos (idx hl hi hn), at_mid hl hi, obind_some, idxw hl hi (show l.length ≤ 1000000000000 by omega), ring_Ring_Event_Put_eq, if_pos (show (pre.length : Int) < room by omega), if_pos (show (pre.length + 1) * 32 ≤ 140737488355328 by omega)]
    exact ih (pre ++ [x]) f (i + 1) len (idxl hl) (idxs hi) hn (by simp at hf; omega)
theorem raw_open_val (n : Nat) (room : Int) (l : List Ev) (h1 : 1 ≤ room) (h2 : room ≤ 4096) (hr : (l.length : Int) ≤ room) : raw_open (n + 2) l room = some (some (room, (l, (0, 0))), 0) := by
  rw [raw_open_eq, ring_New_Event_eq]
  simp only [tif_dec, if_neg (show ¬ (room < 1) by omega), if_neg (show ¬ (65536 < room) by omega), obind_some, oelim_some, tif_not, if_true]
  rw [raw_open_l n room l (by omega) hr l [] loopFuel 0 _ rfl rfl rfl (by unfold loopFuel; omega)]
  rfl
theorem ring_all (n : Nat) (room lost : Int) (l : List Ev) (k : Nat) (hk : k ≤ l.length) (hL : l.length ≤ 1000000) : ring_Ring_Event_All (n + 1) (room, (l, ((k : Int), lost))) = some (l.drop k ++ l.take k, (room, (l, ((k : Int), lost)))) := by
  rw [ring_Ring_Event_All_eq]
  have t1 : (l.drop k).take (l.length - k) = l.drop k := List.take_of_length_le (by simp)
  have t2 : (List.drop 0 l).take (k - 0) = l.take k := by simp
  simp only [tif_and, tif_true, Int.toNat_natCast, t1, t2]
  simp only [tif_dec]
  rw [if_pos (by omega), if_pos (by omega), if_pos (by omega), if_pos hk, if_pos (by simp; omega), if_pos (by omega), if_pos (by omega), if_pos (by simp; omega)]
  simp
theorem ring_put_all (n : Nat) (room : Int) (l : List Ev) (e : Ev) (h1 : 1 ≤ room) (h2 : room ≤ 4096) (hr : (l.length : Int) ≤ room) :
    ∃ q : Ev × (Bool × (Int × (List Ev × (Int × Int)))), ring_Ring_Event_Put (n + 2) (room, (l, (0, 0))) e = some q ∧
      (((l.length : Int) < room → q.2.1 = false ∧ ∃ q', ring_Ring_Event_All (n + 2) q.2.2 = some (l ++ [e], q')) ∧ (¬ (l.length : Int) < room → q.2.1 = true ∧ q.1 = l.headD e0 ∧ ∃ q', ring_Ring_Event_All (n + 2) q.2.2 = some (l.drop 1 ++ [e], q'))) := by
  rw [ring_Ring_Event_Put_eq]
  simp only [tif_dec]
  by_cases h : (l.length : Int) < room
  · rw [if_pos h, if_pos (by omega)]
    refine ⟨_, rfl, fun _ => ⟨rfl, ?_⟩, fun k => absurd h k⟩
    have := ring_all (n + 1) room 0 (l ++ [e]) 0 (by omega) (by simp; omega)
    exact ⟨_, by simpa using this⟩
  · rw [if_neg h]
    match l with
    | [] => simp at h; omega
    | x :: l =>
      have e1 : at? (x :: l) (0 : Int) = some x := rfl
      have e2 : (x :: l)[Int.toNat 0]? = some x := rfl
      have e3 : (x :: l).set (Int.toNat 0) e = e :: l := rfl
      simp only [List.length_cons] at hr h
      rw [e1, e2, e3]
      simp only [obind_some]
      rw [ring_Ring_Event_place_eq]
      simp only [tif_dec]
      rw [if_neg (show ¬ (((e :: l).length : Int) = 0) by simp; omega), w64 (x := (0 : Int) + 1) (by omega) (by omega), obind_some]
      refine ⟨_, rfl, fun k => absurd k (by simpa using h), fun _ => ⟨rfl, rfl, ?_⟩⟩
      by_cases hl : l = []
      · subst hl
        have em : Int.tmod (0 + 1) (((e :: ([] : List Ev)).length : Nat) : Int) = ((0 : Nat) : Int) := by
          rw [tmod_nn (by decide)]; show ((0 : Int) + 1) % ((1 : Nat) : Int) = _; decide
        rw [em]
        have := ring_all (n + 1) room (IntKind.wrap .u64 (0 + 1)) [e] 0 (by simp) (by simp)
        exact ⟨_, by simpa using this⟩
      · have hp := List.length_pos_iff.2 hl
        have em : Int.tmod (0 + 1) (((e :: l).length : Nat) : Int) = ((1 : Nat) : Int) := by
          rw [tmod_nn (by omega), List.length_cons]
          exact Int.emod_eq_of_lt (by omega) (by omega)
        rw [em]
        have := ring_all (n + 1) room (IntKind.wrap .u64 (0 + 1)) (e :: l) 1 (by simp) (by simp; omega)
        exact ⟨_, by simpa using this⟩
end Go.Proofs.YtapadkjknnfifaaGreat
namespace Go.Proofs.YtapadkjknnfifaaGreat
open Go.Flat Go.Plim
theorem raw_tail (n : Nat) {r : Rw} {room : Int} (e : Ev) (h : RawOk r room) :
    (obind (raw_open (n + 2) r.2.2 room) fun r4 =>
      oelim (r4.1) (tif (!(decide (r4.2 = (0 : Int)))) (some (((0 : Int), ((0 : Int), [])), r4.2)) none) fun r5 =>
        tif (!(decide (r4.2 = (0 : Int)))) (some (((0 : Int), ((0 : Int), [])), r4.2))
          (obind (ring_Ring_Event_Put (n + 2) r5 e) fun r6 =>
            tif (r6.2.1) (obind (ring_Ring_Event_All (n + 2) r6.2.2) fun r7 => some (((IntKind.wrap .i64 (r.1 + (1 : Int))), (r6.1.1, r7.1)), (0 : Int)))
              (obind (ring_Ring_Event_All (n + 2) r6.2.2) fun r8 => some ((r.1, (r.2.1, r8.1)), (0 : Int))))) = some (rawNext r room e, 0) := by
  rw [raw_open_val n room r.2.2 h.m0 h.m1 h.len]
  simp only [obind_some, oelim_some, decide_true, Bool.not_true, tif_false]
  obtain ⟨q, h1, h2, h3⟩ := ring_put_all n room r.2.2 e h.m0 h.m1 h.len
  rw [h1]
  have l0 := h.l0; have l1 := h.l1
  simp only [obind_some]
  unfold rawNext
  by_cases hc : (r.2.2.length : Int) < room
  · obtain ⟨k1, q', k2⟩ := h2 hc
    rw [k1, tif_false, k2, if_pos hc]; rfl
  · obtain ⟨k1, k2, q', k3⟩ := h3 hc
    rw [k1, tif_true, k3, if_neg hc, w64 (by omega) (by omega), k2]; rfl
theorem after_none {l : List Ev} (h : l.getLast? = none) (e : Ev) : After l e := fun q hq => by rw [h] at hq; cases hq
theorem raw_put (n : Nat) {r : Rw} (room : Int) {e : Ev} (hw : RawW r) (he : EvW e) : raw_Put (n + 6) r room e = some (rawPut r room e) := by
  rw [raw_Put_eq, raw_check n r room hw, event_check _ he]
  simp only [obind_some, tif_not, tif_dec, z02]
  unfold rawPut
  by_cases h1 : RawOk r room
  case neg => rw [if_neg h1, if_neg (fun k => h1 k.1)]; rfl
  by_cases h2 : EvOk e
  case neg => rw [if_pos h1, if_neg h2, if_neg (fun k => h2 k.2)]; rfl
  have hl := h1.len; have hm := h1.m1
  rw [if_pos h1, if_pos h2, if_pos (And.intro h1 h2), raw_last _ r (by omega)]
  have tl := raw_tail (n + 3) e h1
  simp only [tif_not, tif_dec] at tl
  simp only [obind_some]
  rw [tl]
  have fin : (if (r.2.2.length : Int) = room then (if r.1 = 70368744177664 then some (((0 : Int), ((0 : Int), ([] : List Ev))), (1 : Int)) else some (rawNext r room e, 0)) else some (rawNext r room e, 0)) = some (if (r.2.2.length : Int) = room ∧ r.1 = 70368744177664 then (r0w, 1) else (rawNext r room e, 0)) := by
    by_cases a : (r.2.2.length : Int) = room
    · rw [if_pos a]
      by_cases b : r.1 = 70368744177664
      · rw [if_pos b, if_pos (And.intro a b)]; rfl
      · rw [if_neg b, if_neg (fun k => b k.2)]
    · rw [if_neg a, if_neg (fun k => a k.1)]
  rw [fin]
  cases hg : r.2.2.getLast? with
  | none =>
    simp only
    rw [if_neg (by decide), if_pos (after_none hg e)]
  | some q =>
    have hq : EvOk q := h1.f.ok q (List.mem_of_getLast? hg)
    simp only [if_true]
    rw [event_follow (n + 2) (.of hq) he, obind_some]
    by_cases c : q.1 < e.1
    · have ha : After r.2.2 e := fun z hz => by rw [hg] at hz; injection hz with hz; rw [← hz]; exact c
      rw [decide_eq_true ⟨hq, h2, c⟩, if_pos ha]; rfl
    · have ha : ¬ After r.2.2 e := fun k => c (k q hg)
      rw [decide_eq_false (fun k => c k.2.2), if_neg ha]; rfl
end Go.Proofs.YtapadkjknnfifaaGreat
