/-
  Soundness of the flat reading, thirtieth part: calls of function values.
-/
import Derived.Test.YtmooabafkcfbhaaFlatTK
namespace Go.Flat
open Go.RowKit (Below)

section
variable {cx : Cx} {call : Oracle cx} {fx : Hints} {W W' : World} {F F' : Fz} {E E' : EnvM} {h : Heap} {N : Nat → Prop} {ρ : Operand → V} {a : Act} {R : Type}

theorem argsC_rd (hc : CallSound cx call) (hr : HR cx.P W F E N h) (hρ : ∀ x, RdV cx.P W F E (ρ x) (a.eval x)) : ∀ (t : Ty) (xs : List Operand) (x : El t) (lent : List Nat),
    argsC cx call h t (xs.map ρ) = some (x, lent) → RdArgs cx.P t x W (FzPlus F h E lent) (xs.map a.eval) := by
  intro t
  induction t with
  | unit =>
    intro xs x lent hk
    cases xs with
    | nil => exact rfl
    | cons y ys => simp [argsC] at hk
  | pair p q _ ihq =>
    intro xs x lent hk
    cases xs with
    | nil => simp [argsC] at hk
    | cons y ys =>
      have hv := hρ y
      simp only [List.map_cons] at hk ⊢
      cases hy : ρ y with
      | tup l => rw [hy] at hk; simp [argsC] at hk
      | undef => rw [hy] at hk; simp [argsC] at hk
      | lost => rw [hy] at hk; simp [argsC] at hk
      | v ag cs =>
        rw [hy] at hk hv
        simp only [argsC] at hk
        split at hk
        case isFalse => cases hk
        rename_i hag
        cases h1 : parseAll cx call h p cs with
        | none => rw [h1] at hk; cases hk
        | some z =>
          rw [h1] at hk
          simp only [Option.bind_some] at hk
          cases h2 : argsC cx call h q (ys.map ρ) with
          | none => rw [h2] at hk; cases hk
          | some w =>
            rw [h2] at hk
            simp only [Option.map_some, Option.some.injEq, Prod.mk.injEq] at hk
            obtain ⟨rfl, rfl⟩ := hk
            obtain ⟨k1, k2⟩ := parseAll_rd hc hr (x := z.1) (ns := z.2) h1 hv.1
            have hw : (a.eval y).cells.size = width p := by simpa using k2
            refine ⟨_, _, rfl, RdV1.formed hv hag hw, Rd.congr p (fun j hj => ?_) (k1.later (Later.same FzPlus.left)), (ihq ys w.1 w.2 h2).later (Later.same FzPlus.right)⟩
            simp [one]
  | _ => intro xs x lent hk; cases xs <;> simp [argsC] at hk

theorem toV_rd {P : Program} {t : Ty} {x : El t} {v : Value} (hf : formed t v) (hx : Rd P t x W F (one v)) : RdV P W F E (toV t x) v := by
  obtain ⟨vs, h1, h2, h3⟩ := cells_rd (E := E) t x _ hx
  have hvs : vs = v.cells.toList := by
    apply List.ext_getElem?
    intro j
    by_cases hj : j < width t
    · rw [← h2 j hj, one, Array.getElem?_toList]
    · have := hf.2.2
      rw [List.getElem?_eq_none (by omega), List.getElem?_eq_none (by simp; omega)]
  subst hvs
  exact ⟨h3, hf.1, hf.2.1⟩

theorem op_callV_core {o : Oper} {cl : Go.Call} {k : V → Ups → Option R} {res : R} {z : Operand} {t r : Ty} {p : El t → Option (El r)} {x : El t} {y : El r} {lent : List Nat} (cc : Ctx cx call W F E N h ρ a) (ho : o.op = .call cl)
    (hcal : cl.callee = .value z) (hp : Rd cx.P (.fn t r) p W F (fun j => if j = 0 then some (a.eval z) else none)) (hargs : argsC cx call h t (cl.args.toList.map ρ) = some (x, lent)) (hy : p x = some y)
    (hk : k (toV r y) (freezeUps h (if shares r = true then lent else [])) = some res) : Sound cx W F E N h a o k res := by
  obtain ⟨f, caps, hv, hpl, hcalls⟩ := hp
  simp at hv
  have hx := argsC_rd cc.hc cc.hr cc.ρ t cl.args.toList x lent hargs
  have hFp : ∀ b, FzPlus F h E lent b → b < W.heap.size := fun b hb => FzPlus.lt cc.hr cc.hF hb
  have hcall := hcalls W (FzPlus F h E lent) _ x y (later_plus lent) hFp hx hy
  obtain ⟨fn, hf1, hf2, hf3⟩ := hpl
  refine ⟨_, _, hk, ?_⟩
  intro next Q hnext
  have hrun : (execOp a.eval o).run cx.P W = .ok (.enter f ((cl.args.toList.map a.eval).toArray ++ caps)) W := by
    have e1 : (cl.args.toList.map a.eval).toArray = cl.args.map a.eval := by
      apply Array.ext'; simp
    rw [e1]
    have hf3' : fn.body ≠ none := fun e => by rw [e] at hf3; cases hf3
    have hf2' : ¬ fn.name = "runtime.NumGoroutine" := by simpa using hf2
    simp [execOp, ho, resolve, hcal, hv, Deferred.ofValue, invoke, callFunc, hf1, hf2', hf3']
  unfold Oper.wp
  rw [hrun, Oper.upon_enter]
  refine Calls.mono hcall fun e W' hpost => ?_
  obtain ⟨v, F', rfl, hg, hfm, hrd⟩ := hpost
  cases hsh : shares r with
  | true =>
    rw [hsh] at hnext
    simp only [if_true] at hnext
    exact hnext v W' F' E (OpPost.grow cc.hr cc.hF hg) (toV_rd hfm hrd)
  | false =>
    rw [hsh] at hnext
    simp only [Bool.false_eq_true, if_false] at hnext
    have hg2 : Grow W (FzPlus F h E []) W' F := by
      rw [fzPlus_nil]
      exact ⟨hg.below, fun _ hb => hb, fun _ hb => .inl hb⟩
    exact hnext v W' F E (OpPost.grow cc.hr cc.hF hg2) (toV_rd hfm (Rd.noshare r hsh hrd))

theorem op_callV {o : Oper} {cl : Go.Call} {k : V → Ups → Option R} {res : R} {z : Operand} {c : Cell} (cc : Ctx cx call W F E N h ρ a) (ho : o.op = .call cl) (hcal : cl.callee = .value z) (hz : ρ z = .v false [c])
    (hk : callV cx call h c (cl.args.toList.map ρ) k = some res) : Sound cx W F E N h a o k res := by
  have hv := cc.ρ z
  rw [hz] at hv
  replace hv := hv.single.1
  unfold callV at hk
  split at hk
  · rename_i t r p
    split at hk
    case isFalse => cases hk
    split at hk
    case h_2 => cases hk
    rename_i x lent hargs
    cases hy : p x with
    | none => rw [hy] at hk; cases hk
    | some y =>
      rw [hy] at hk
      exact op_callV_core cc ho hcal hv.2.2 hargs hy hk
  · rename_i f ct cv
    split at hk
    case h_2 => cases hk
    rename_i s hs
    split at hk
    case h_2 => cases hk
    rename_i r hr
    simp only at hk
    split at hk
    case h_2 => cases hk
    rename_i p hp
    split at hk
    case h_2 => cases hk
    rename_i x lent hargs
    cases hy : p x with
    | none => rw [hy] at hk; cases hk
    | some y =>
      rw [hy] at hk
      obtain ⟨caps, hv, hcap⟩ := hv
      refine op_callV_core cc ho hcal ?_ hargs hy hk
      rw [hv]
      exact cloFn_rd cc.hc hp hcap
  · cases hk

end
end Go.Flat
