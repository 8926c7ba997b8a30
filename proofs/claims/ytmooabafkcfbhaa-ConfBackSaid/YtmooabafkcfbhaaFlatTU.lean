/-
  Soundness of the flat reading, thirty-ninth part: code, and loops.
-/
import Derived.Test.YtmooabafkcfbhaaFlatTT
namespace Go.Flat
open Go.RowKit (Below)

section
variable {cx : Cx} {call : Oracle cx} {fx : Hints} {W0 : World} {F0 : Fz} {O0 : List Nat} {nt : Slots}

/-- what a code's reading promises -/
def CodeOk (cx : Cx) (call : Oracle cx) (fx : Hints) (W0 : World) (F0 : Fz) (O0 : List Nat) (nt : Slots) (Rf : Type) (ret : St → Option Rf) (c : Code) : Prop :=
  ∀ (R : Type) (kr : Rf → Option R) (st : St) (k : Exit → St → Option R) (r : R) (a : Act) (W : World) (F : Fz) (E : EnvM) (Q : Exit → Act → World → Prop),
    belowC nt.nt nt.K c = true → StRel cx W0 F0 O0 nt st a W F E → evC cx call fx Rf ret c R kr st k = some r →
    (∀ e st' a' W' F' E', k e st' = some r → StRel cx W0 F0 O0 nt st' a' W' F' E' → Q e a' W') →
    (∀ y st' a' W' F' E', kr y = some r → ret st' = some y → StRel cx W0 F0 O0 nt st' a' W' F' E' → Q .ret a' W') → c.wp cx.P Q a W

theorem spin_sound {Rf : Type} {ret : St → Option Rf} {c : Code} (hcode : CodeOk cx call fx W0 F0 O0 nt Rf ret c) (hb : belowC nt.nt nt.K c = true) {R : Type} {kr : Rf → Option R} {k : Exit → St → Option R} {r : R} {Q : Exit → Act → World → Prop}
    (hk : ∀ e st' a' W' F' E', k e st' = some r → StRel cx W0 F0 O0 nt st' a' W' F' E' → Q e a' W')
    (hkr : ∀ y st' a' W' F' E', kr y = some r → ret st' = some y → StRel cx W0 F0 O0 nt st' a' W' F' E' → Q .ret a' W') :
    ∀ (n : Nat) (st : St) (a : Act) (W : World) (F : Fz) (E : EnvM), StRel cx W0 F0 O0 nt st a W F E → spin (fun st k => evC cx call fx Rf ret c R kr st k) n st k = some r → Code.rounds cx.P c Q n a W := by
  intro n
  induction n with
  | zero => intro st a W F E _ h; cases h
  | succ n ih =>
    intro st a W F E hs h
    simp only [spin] at h
    refine hcode R kr st _ r a W F E _ hb hs h (fun e st' a' W' F' E' h1 h2 => ?_) (fun y st' a' W' F' E' h1 h2 h3 => hkr y st' a' W' F' E' h1 h2 h3)
    cases e with
    | normal => exact ih st' a' W' F' E' h2 h1
    | _ => exact hk _ st' a' W' F' E' h1 h2

theorem loop_sound (hc : CallSound cx call) {hh : LoopH} {Rf : Type} {ret : St → Option Rf} {c : Code} (hcode : CodeOk cx call fx W0 F0 O0 nt Rf ret c) (hb : belowC nt.nt nt.K c = true) {s : El (slotsTy hh.outs) ⊕ Rf} {Q : Exit → Act → World → Prop}
    (hl : ∀ y a' W' F' O, s = .inl y → KeepRel cx W0 F0 O0 nt hh.outs y a' W' F' O → Q (.exit hh.exit) a' W')
    (hr : ∀ y st' a' W' F' E', s = .inr y → ret st' = some y → StRel cx W0 F0 O0 nt st' a' W' F' E' → Q .ret a' W') :
    ∀ (n : Nat) (x : El (slotsTy hh.live)) (a : Act) (W : World) (F : Fz) (O : List Nat), KeepRel cx W0 F0 O0 nt hh.live x a W F O →
      loopF cx call fx hh ret (fun st k => evC cx call fx Rf ret c _ (fun r => some (.inr r)) st k) n x = some s → Code.rounds cx.P c Q n a W := by
  intro n
  induction n with
  | zero => intro x a W F O _ h; cases h
  | succ n ih =>
    intro x a W F O hs h
    simp only [loopF] at h
    obtain ⟨st, E, h, hs⟩ := unpackSt_rd h hs
    refine hcode _ _ st _ s a W F E _ hb hs h (fun e st' a' W' F' E' h1 h2 => ?_) (fun y st' a' W' F' E' h1 h2 h3 => ?_)
    · cases e with
      | normal =>
        cases hp : packSt cx call st' hh.live with
        | none => rw [hp] at h1; cases h1
        | some y =>
          rw [hp] at h1
          simp only [Option.bind_some] at h1
          obtain ⟨F2, O2, hk⟩ := packSt_rd hc h2 hp
          exact ih y a' W' F2 O2 hk h1
      | exit id =>
        dsimp only at h1
        split at h1
        case isFalse => cases h1
        rename_i hid
        subst hid
        simp only [Option.map_eq_some_iff] at h1
        obtain ⟨y, hp, hy⟩ := h1
        obtain ⟨F2, O2, hk⟩ := packSt_rd hc h2 hp
        exact hl y a' W' F2 O2 hy.symm hk
      | ret =>
        simp only [Option.map_eq_some_iff] at h1
        obtain ⟨y, hp, hy⟩ := h1
        exact hr y st' a' W' F' E' hy.symm hp h2
      | goto l => cases h1
      | panic ch => cases h1
      | outgrown => cases h1
    · injection h1 with h1
      exact hr y st' a' W' F' E' h1.symm h2 h3

/-- CODE. -/
theorem evC_sound (hc : CallSound cx call) (tab : TabOk cx) (hfn : FnOk cx call) (hm : cx.P.follows .mixedOrders = true) {Rf : Type} {ret : St → Option Rf} : ∀ c : Code, CodeOk cx call fx W0 F0 O0 nt Rf ret c := by
  intro c
  induction c with
  | skip => intro R kr st k r a W F E Q _ hs h hk _; exact wp_skip (hk _ st a W F E h hs)
  | ret => intro R kr st k r a W F E Q _ hs h hk _; exact wp_ret (hk _ st a W F E h hs)
  | exit id => intro R kr st k r a W F E Q _ hs h hk _; exact wp_exit (hk _ st a W F E h hs)
  | region id ops draw =>
    intro R kr st k r a W F E Q hb hs h hk _
    exact evRegion_sound hc tab hfn hm hb hs h fun st' a' W' F' E' h1 h2 => hk _ st' a' W' F' E' h1 h2
  | seq x y ihx ihy =>
    intro R kr st k r a W F E Q hb hs h hk hkr
    simp only [belowC, Bool.and_eq_true] at hb
    refine wp_seq (ihx R kr st _ r a W F E _ hb.1 hs h (fun e st' a' W' F' E' h1 h2 => ?_) (fun z st' a' W' F' E' h1 h2 h3 => hkr z st' a' W' F' E' h1 h2 h3))
    cases e with
    | normal => exact ihy R kr st' k r a' W' F' E' Q hb.2 h2 h1 hk hkr
    | _ => exact hk _ st' a' W' F' E' h1 h2
  | cond z x y ihx ihy =>
    intro R kr st k r a W F E Q hb hs h hk hkr
    simp only [belowC, Bool.and_eq_true] at hb
    simp only [evC] at h
    split at h
    case h_2 => cases h
    rename_i b hz
    have hv := opnd_rd hs.t z
    rw [hz] at hv
    have hv := rd_bool hv
    cases b with
    | true => exact wp_cond_true hv (ihx R kr st k r a W F E Q hb.1 hs h hk hkr)
    | false => exact wp_cond_false hv (ihy R kr st k r a W F E Q hb.2 hs h hk hkr)
  | block id x ih =>
    intro R kr st k r a W F E Q hb hs h hk hkr
    refine wp_block (ih R kr st _ r a W F E _ hb hs h (fun e st' a' W' F' E' h1 h2 => ?_) (fun z st' a' W' F' E' h1 h2 h3 => hkr z st' a' W' F' E' h1 h2 h3))
    cases e with
    | exit id' =>
      dsimp only at h1
      simp only [Exit.inBlock]
      split at h1
      · rename_i he; rw [if_pos he]; exact hk _ st' a' W' F' E' h1 h2
      · rename_i he; rw [if_neg he]; exact hk _ st' a' W' F' E' h1 h2
    | _ => exact hk _ st' a' W' F' E' h1 h2
  | loop x ih =>
    intro R kr st k r a W F E Q hb hs h hk hkr
    simp only [evC] at h
    split at h
    · exact wp_loop_rounds loopFuel (spin_sound ih hb hk hkr loopFuel st a W F E hs h)
    · rename_i hh _
      cases hp : packSt cx call st hh.live with
      | none => rw [hp] at h; cases h
      | some y =>
        rw [hp] at h
        simp only [Option.bind_some] at h
        cases hl : loopF cx call fx hh ret (fun st k => evC cx call fx Rf ret x _ (fun r => some (.inr r)) st k) loopFuel y with
        | none => rw [hl] at h; cases h
        | some s =>
          rw [hl] at h
          simp only [Option.bind_some] at h
          obtain ⟨F2, O2, hkp⟩ := packSt_rd hc hs hp
          refine wp_loop_rounds loopFuel (loop_sound hc ih hb (s := s) (fun z a' W' F' O he hz => ?_) (fun z st' a' W' F' E' he h1 h2 => ?_) loopFuel y a W F2 O2 hkp hl)
          · subst he
            obtain ⟨st', E', h1, h2⟩ := unpackSt_rd h hz
            exact hk _ st' a' W' F' E' h1 h2
          · subst he
            exact hkr z st' a' W' F' E' h h1 h2
  | _ => intro R kr st k r a W F E Q _ _ h; cases h

end
end Go.Flat
