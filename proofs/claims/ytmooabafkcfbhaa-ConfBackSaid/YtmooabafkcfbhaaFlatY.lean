/-
  Rows of laws: what is read before the call is read behind it; the row's last step.
-/
import Derived.Test.YtmooabafkcfbhaaFlatX
namespace Go.Flat
open Go.RowKit (Below)
open Go.ChangeShapes Go.WideShapes

section
variable {H : Type} {enc : TypeId × Value → H} {P : Program} {W W' : World}

/-- what is asked of the types of a row's arguments -/
def rowTypesB (P : Program) (ts : List TypeId) : Bool := ts.all fun t => P.readableRec t && decide (t < P.types.size)

theorem stays_all (hl : laidOutB P = true) (hb : Below W.heap.size W W') {sp : Nat → Bool} : ∀ {ts : List TypeId} {vs : List Value} {ds : List (DataW H)} {ps : List MemPlace}, rowTypesB P ts = true → DataW.TrodAll enc P W 0 (fun _ => true) true ts vs ds ps →
    (∀ p ∈ ps, sp p.block = true) → DataW.TrodAll enc P W' 0 sp true ts vs ds ps := by
  intro ts
  induction ts with
  | nil => intro vs ds ps _ h _; obtain ⟨rfl, rfl, rfl⟩ := trodAll_nil h; exact rfl
  | cons t ts ih =>
    intro vs ds ps hr h hsp
    have hlt := h.lt
    obtain ⟨v, vs, d, ds, p, q, rfl, rfl, rfl, h1, h2⟩ := trodAll_cons h
    simp only [rowTypesB, List.all_cons, Bool.and_eq_true, decide_eq_true_eq] at hr
    refine ⟨p, q, ?_, ih hr.2 h2 (fun x hx => hsp x (by simp [hx])), rfl⟩
    exact WideElems.Trod_stays hl hr.1.1 hr.1.2 h1 (fun x hx => hb.same (hlt x (by simp [hx]))) (fun x hx => hsp x (by simp [hx]))

/-- THE ROW's LAST STEP: the law answered true, and of what was there nothing has turned. -/
theorem post_law {f : Func} {s : ChangeSpec} {args : Array Value} {ds : List (DataW H)} {ps : List MemPlace} {tb : TypeId} (hl : laidOutB P = true) (hr : rowTypesB P f.params.toList = true) (hv : s.vars = [])
    (hs : s.fn H ds = { results := [.lit (.bool true)], args := ds }) (ht : f.resultTypes = #[tb]) (hu : P.underlying tb = some .bool)
    (h : DataW.TrodAll enc P W 0 (fun _ => true) true f.params.toList args.toList ds ps) (hz : W.noneFrozen ps) (hb : Below W.heap.size W W') :
    s.post enc P f false true false false W args (.bool true) W' := by
  have hlt := h.lt
  have hW : DataW.Whole enc P f.params.toList s.vars false W args.toList ds [] (ps ++ []) := ⟨ps, [], h, by rw [hv]; rfl, rfl, by rw [List.append_nil]; exact hz, fun e => by cases e⟩
  have hall : ∀ sp : Nat → Bool, (∀ p ∈ ps ++ [], sp p.block = true) → DataW.TrodAll enc P W' 0 sp true f.params.toList args.toList (s.fn H (ds ++ [])).args ps := by
    intro sp hsp
    rw [List.append_nil, hs]
    exact stays_all hl hb hr h fun p hp => hsp p (by simp [hp])
  have hres : ∀ (b : Nat) (sp : Nat → Bool) (hd : Bool), DataW.TrodAll enc P W' b sp hd f.resultTypes.toList ((Value.bool true).resultList f.resultTypes.size) (s.fn H (ds ++ [])).results [] := by
    intro b sp hd
    rw [List.append_nil, hs, ht]
    exact ⟨[], [], ⟨1, by simp [DataW.trod, hu, Value.cells]⟩, rfl, rfl⟩
  have hvars : ∀ sp : Nat → Bool, DataW.TrodVars enc P W' sp s.vars (s.fn H (ds ++ [])).vars [] := by
    intro sp
    rw [List.append_nil, hs, hv]
    rfl
  have hin : ∀ p ∈ ps ++ [], p.block < W.heap.size := fun p hp => hlt p (by simpa using hp)
  refine ⟨ds, [], ps ++ [], [], ps, [], hW, hres _ _ _, hall _ fun p hp => by simpa using hin p hp, hvars _, World.keptBut_mono (fun p hp => ⟨hp, ?_⟩) (hb.frame (· ∈ ps ++ [])), fun _ => ⟨?_, _, _, ([] ++ ps) ++ [], ⟨[] ++ ps, [], trodAll_append (hall _ fun _ _ => rfl) (hres _ _ _), hvars _, rfl, ?_, fun e => by cases e⟩, ?_⟩⟩
  · exact .inr (by simpa using hp)
  · intro j t r h1 h2
    rw [ht] at h1 h2
    have hj : j = 0 := by
      rcases Nat.eq_zero_or_pos j with q | q
      · exact q
      · rw [Array.getElem?_eq_none (by simp; omega)] at h1; cases h1
    subst hj
    simp at h1
    subst h1
    have h3 : r = .bool true := by
      simp [Value.resultList] at h2
      exact h2.symm
    subst h3
    simp [Value.okWide, hu, Cell.okWide, Cell.ok]
  · intro b off hp
    have hp' : MemPlace.cell b off ∈ ps := by simpa using hp
    rw [hb.frozen (hlt _ hp')]
    exact hz b off hp'
  · intro p hp _
    simpa using hp

end

/-- arguments without memory of their own, one behind the other -/
theorem args_nil {P : Program} {W : World} {F : Fz} : RdB P (tupU []) () W F [] (cat []) := rfl
theorem args_cons {P : Program} {W : World} {F : Fz} {t : Ty} {ts : List Ty} {x : El t} {xs : El (tupU ts)} {v : Value} {vs : List Value} (hf : formed t v) (hx : Rd P t x W F (one v)) (h : RdB P (tupU ts) xs W F [] (cat vs)) :
    RdB P (tupU (t :: ts)) ((x, xs) : El (tupU (t :: ts))) W F [] (cat (v :: vs)) := by
  refine ⟨[], [], rfl, RdB.congr t (cat_head hf.2.2) (Rd.toB t hx), ?_⟩
  rw [cat_tail hf.2.2]; exact h

end Go.Flat
