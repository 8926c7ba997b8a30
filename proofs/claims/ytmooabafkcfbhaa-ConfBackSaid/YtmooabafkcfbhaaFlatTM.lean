/-
  Soundness of the flat reading, thirty-first part: any operation.
-/
import Derived.Test.YtmooabafkcfbhaaFlatTL
namespace Go.Flat
open Go.RowKit (Below)

section
variable {cx : Cx} {call : Oracle cx} {fx : Hints} {W W' : World} {F F' : Fz} {E E' : EnvM} {h : Heap} {N : Nat → Prop} {ρ : Operand → V} {a : Act} {R : Type}

theorem argT {ts : Array TypeId} {s : Shp} (h : (ts[0]?).map cx.shp = some s) : ∃ t, ts[0]? = some t ∧ cx.shp t = s := by
  cases ht : ts[0]? with
  | none => rw [ht] at h; cases h
  | some t => rw [ht] at h; injection h with h; exact ⟨t, rfl, h⟩

theorem builtin_sound {o : Oper} {cl : Go.Call} {b : Builtin} {k : V → Ups → Option R} {r : R} (cc : Ctx cx call W F E N h ρ a) (hK : KOk N h k) (ho : o.op = .call cl) (hc : cl.callee = .builtin b)
    (hk : builtinK cx call fx h o b cl.argTypes (cl.args.toList.map ρ) k = some r) : Sound cx W F E N h a o k r := by
  unfold builtinK at hk
  split at hk
  · rename_i c ha
    split at hk
    · rename_i s hs; exact op_len cc ho hc ha hs hk
    · cases hk
  · rename_i cs ha
    split at hk
    · rename_i n e hs; exact op_lenArr cc ho hc ha hs hk
    · cases hk
  · rename_i kd m kd' n ha; exact op_min cc ho hc ha hk
  · rename_i kd m kd' n ha; exact op_max cc ho hc ha hk
  · rename_i s x ha
    obtain ⟨p, q, hargs, hp, hq⟩ := args2 ha
    split at hk
    · rename_i et hs hz
      split at hk
      case h_2 => cases hk
      rename_i e he
      cases hw : sameW cx et e && Nat.blt 0 (cx.bytes et) with
      | false => rw [hw] at hk; cases hk
      | true =>
        rw [hw] at hk
        obtain ⟨t, ht, hs'⟩ := argT hs
        refine op_append (fx := fx) cc hK ho hc hargs ht hs' hz he hw ?_
        rw [hp, hq]; exact hk
    · cases hk
  · rename_i d s ha
    obtain ⟨p, q, hargs, hp, hq⟩ := args2 ha
    split at hk
    · rename_i et hs
      split at hk
      case h_2 => cases hk
      rename_i e0 he
      obtain ⟨t, ht, hs'⟩ := argT hs
      exact op_copy cc ho hc hargs ht hs' he hp hq hk
    · cases hk
  · rename_i d ha
    obtain ⟨p, hargs, hp⟩ := args1 ha
    split at hk
    · rename_i et hs
      obtain ⟨t, ht, hs'⟩ := argT hs
      split at hk
      · exact op_clearNil cc ho hc hargs ht hp ⟨_, shp_slice cc.tab hs'⟩ hk
      · split at hk
        case h_2 => cases hk
        rename_i e0 he
        exact op_clear cc ho hc hargs ht hs' he hp hk
    · cases hk
  · cases hk

theorem vcells {x : V} {ag : Bool} {cs : List Cell} (h : x = .v ag cs) : x = .v ag cs := h

theorem evOp_sound {o : Oper} {k : V → Ups → Option R} {r : R} (cc : Ctx cx call W F E N h ρ a) (hfn : FnOk cx call) (hK : KOk N h k) (hk : evOp cx call fx o ρ h k = some r) : Sound cx W F E N h a o k r := by
  unfold evOp at hk
  dsimp only at hk
  split at hk
  · rename_i x ho; exact op_move cc (.inl ho) hk
  · rename_i x ho; exact op_move cc (.inr ho) hk
  · rename_i z x y ho
    split at hk
    · rename_i b hz; exact op_pick cc ho hz hk
    · cases hk
  · rename_i t ho
    split at hk
    · rename_i c ht; exact op_alloc (fx := fx) cc hK ho ht hk
    · cases hk
  · rename_i t x ho
    split at hk
    · rename_i c ag cs ht hx
      split at hk
      · rename_i hl; exact op_box (fx := fx) cc hK ho hx hl hk
      · cases hk
    · cases hk
  · rename_i t ps ho
    split at hk
    case h_2 => cases hk
    rename_i c ht
    split at hk
    · rename_i fs hs
      split at hk
      · rename_i cs hb hall; exact op_buildStruct cc ho ht hs hb hall hk
      · cases hk
    · rename_i n e hs
      split at hk
      · rename_i cs hb hall; exact op_buildArr cc ho ht hs hb hall hk
      · cases hk
    · cases hk
  · rename_i t n ps ho
    split at hk
    case h_2 => cases hk
    rename_i et hs
    split at hk
    case h_2 => cases hk
    rename_i e he
    split at hk
    case h_2 => cases hk
    rename_i ls hp hw
    split at hk
    case h_2 => cases hk
    rename_i xs lent hx
    exact op_buildSlice (fx := fx) cc hK ho hs he hp hw hx hk
  · rename_i t x ho
    split at hk
    · rename_i c d ht hx; exact op_load cc ho ht hx hk
    · cases hk
  · rename_i t p x ho
    split at hk
    · rename_i c pc ag new ht hp hx
      split at hk
      · rename_i hw; exact op_store cc ho ht hp hx hw hk
      · cases hk
    · cases hk
  · rename_i x ho
    split at hk
    · rename_i c hx
      split at hk
      · rename_i hn; exact op_nilCheck cc ho hx hn hk
      · cases hk
    · cases hk
  · rename_i op t x y yt ho; exact op_binOp cc ho hk
  · rename_i op t x ho; exact op_unOp cc ho hk
  · rename_i s d x ho
    split at hk
    · rename_i k0 kd k1 n hs hd hx; exact op_convInt cc ho hs hd hx hk
    · rename_i b hs hd hx; exact op_convStr cc ho hs hd hx hk
    · rename_i et b hs hd hx
      split at hk
      · rename_i he; exact op_convBytes cc ho hs hd he hx hk
      · cases hk
    · rename_i et c hs hd hx
      split at hk
      · rename_i he; exact op_convString cc ho hs hd he hx hk
      · cases hk
    · cases hk
  · rename_i f first caps ho
    split at hk
    · rename_i t v lent h0 hc; exact op_makeFunc cc ho h0 hc hk
    · cases hk
  · rename_i t l c ho
    split at hk
    case h_2 => cases hk
    rename_i et hs
    split at hk
    case h_2 => cases hk
    rename_i e n m he hl hm
    split at hk
    case h_2 => cases hk
    rename_i z hz hw
    exact op_makeSlice (fx := fx) cc hK ho hs he hl hm hz hw hk
  · rename_i t x lo hi mx ho
    split at hk
    · rename_i hs; exact op_sliceS cc ho hs hk
    · rename_i et hs
      split at hk
      · rename_i ti hti
        obtain ⟨ti', h1, _⟩ := (cc.tab et ti hti).info
        exact op_sliceK cc ho hs ⟨ti', h1⟩ hk
      · cases hk
    · cases hk
  · rename_i s x f ho
    split at hk
    · rename_i off ft c hf hx
      cases hz : Nat.beq (cx.cells ft) 0 with
      | true => rw [hz] at hk; cases hk
      | false =>
        rw [hz] at hk
        simp only [cond_false] at hk
        split at hk
        · exact op_fieldAddr cc ho hf hx hz rfl hk
        · exact op_fieldAddr cc ho hf hx hz rfl hk
        · exact op_fieldAddr cc ho hf hx hz rfl hk
        · cases hk
    · cases hk
  · rename_i s x f ho
    split at hk
    · rename_i off ft cs hf hx
      split at hk
      case h_2 => cases hk
      rename_i c hc
      split at hk
      · rename_i cs' hcut; exact op_field cc ho hf hx hc hcut hk
      · cases hk
    · cases hk
  · rename_i t x i ho
    split at hk
    · rename_i n hi; exact op_indexAddr cc ho hi hk
    · cases hk
  · rename_i t x i ho
    split at hk
    · rename_i n hi; exact op_index cc ho hi hk
    · cases hk
  · rename_i x i ho
    split at hk
    · rename_i vs hx
      split at hk
      · rename_i ag cs hi; exact op_extract cc ho hx hi hk
      · cases hk
    · cases hk
  · rename_i c ho
    split at hk
    · rename_i b hc; exact builtin_sound (fx := fx) cc hK ho hc hk
    · rename_i f hc; exact op_call (fx := fx) cc hfn hK ho hc hk
    · rename_i z hc
      split at hk
      · rename_i c' hz; exact op_callV cc ho ‹_› hz hk
      · cases hk
    · cases hk
  · cases hk

end
end Go.Flat
