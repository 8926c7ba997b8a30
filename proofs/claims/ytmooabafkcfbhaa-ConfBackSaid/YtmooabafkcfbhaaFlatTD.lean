/-
  Soundness of the flat reading, twenty-second part: append, copy, clear.
-/
import Derived.Test.YtmooabafkcfbhaaFlatTC
namespace Go.Flat
open Go.RowKit (Below)

section
variable {cx : Cx} {call : Oracle cx} {fx : Hints} {W W' : World} {F F' : Fz} {E E' : EnvM} {h : Heap} {N : Nat → Prop} {ρ : Operand → V} {a : Act} {R : Type}

/-- what is appended, of what the interpreter has -/
theorem news_rd {e : Ty} {x : V} {kk : List (El e) → Option R} {r : R} {v : Value} (hr : HR cx.P W F E N h)
    (hk : (match x with
      | .v false [.val .str b] => match castEl (a := .slice (.int .u8)) (b := .slice e) (b.map fun c => (c.toNat : Int)) with | some y => kk y | none => none
      | .v false [c] => arrK cx call h e c kk
      | _ => none) = some r) (hv : RdV cx.P W F E x v) :
    ∃ ys news, kk ys = some r ∧ Src cx.P W (width e) v ys.length news ∧ ∀ i (h : i < ys.length), Rd cx.P e ys[i] W F (fun j => news[i * width e + j]?) := by
  revert hv
  split at hk
  · rename_i b
    intro hv
    split at hk
    case h_2 => cases hk
    rename_i y hy
    obtain ⟨he, hys⟩ := castEl_some hy
    injection he with he
    subst he
    simp only at hys
    subst hys
    have := rd_str hv
    subst this
    refine ⟨_, _, hk, by have := str_src (P := cx.P) (W := W) b; simpa [width] using this, fun i hi => ?_⟩
    simp only [Rd, RdP, width, Nat.mul_one, Nat.add_zero]
    simp at hi
    simp [hi]
  · intro hv
    obtain ⟨ys, h1, h2⟩ := arrK_rd hr hk hv.single.1
    obtain ⟨news, h3, h4⟩ := h2.src
    exact ⟨ys, news, h1, h3, h4⟩
  · cases hk

theorem verOf_eq {n ver : Nat} {b : Option Blk} (hn : h[n]? = some (ver, b)) : verOf h n = ver := by
  unfold verOf; rw [hn]

/-- append -/
theorem op_append {o : Oper} {cl : Go.Call} {k : V → Ups → Option R} {r : R} {p q : Operand} {t et : TypeId} {e : Ty}
    (cc : Ctx cx call W F E N h ρ a) (hK : KOk N h k) (ho : o.op = .call cl) (hc : cl.callee = .builtin .append) (hargs : cl.args = #[p, q]) (ht : cl.argTypes[0]? = some t) (hs : cx.shp t = .slice et)
    (hnz : noZerosB cx cl.argTypes = true) (he : cx.ty et = some e) (hw : (sameW cx et e && Nat.blt 0 (cx.bytes et)) = true)
    (hk : appendK cx call fx h o e (cx.bytes et) (ρ p) (ρ q) (fun c u => k (.v false [c]) u) = some r) : Sound cx W F E N h a o k r := by
  have hv := cc.ρ p
  unfold appendK at hk
  simp only at hk
  split at hk
  case h_4 => cases hk
  · rename_i hp
    rw [hp] at hv
    obtain ⟨ad, hv⟩ := hv.single.1
    obtain ⟨ys, news, h1, h2, h3⟩ := news_rd cc.hr hk (cc.ρ q)
    obtain ⟨h4, h5⟩ := must_some h1
    refine op_append_core (xs := []) (n := nmOf fx o) cc hK ho hc hargs ht hs hnz he hw (by rw [hv]; exact .nil ad) h2 h3 (by simpa using h4) (by simpa using h5)
  · rename_i n ver hp
    rw [hp] at hv
    split at hk
    case h_2 => cases hk
    rename_i ver' e' xs hn
    split at hk
    case isFalse => cases hk
    rename_i hver
    subst hver
    split at hk
    case h_2 => cases hk
    rename_i zs hz
    obtain ⟨he', hzs⟩ := castEl_some hz
    injection he' with he'
    subst he'
    simp only at hzs
    subst hzs
    obtain ⟨ys, news, h1, h2, h3⟩ := news_rd cc.hr hk (cc.ρ q)
    obtain ⟨h4, h5⟩ := must_some h1
    obtain ⟨g1, g2, g3⟩ := hv.single.1
    rw [← verOf_eq hn] at h5
    refine op_append_core (xs := zs) (n := n) cc hK ho hc hargs ht hs hnz he hw ?_ h2 h3 (by simpa using h4) h5
    rcases blk_arr cc.hr hn with ⟨q1, rfl⟩ | ⟨b, cap, q1, q2, q3, _⟩
    · obtain ⟨ad, hv⟩ : RdLoc (.lall n ver) .nil (a.eval p) := g3 _ q1
      rw [hv]; exact .nil ad
    · have hv : a.eval p = .slice (some ⟨b, 0, none⟩) zs.length cap := g3 _ q1
      rw [hv]
      have := AppTo.row (cx := cx) (W := W) (m := zs.length) hn q1 q2 (q3 rfl) (Nat.le_refl _)
      rwa [List.take_length] at this
  · rename_i n ver off len hp
    rw [hp] at hv
    split at hk
    case h_2 => cases hk
    rename_i ver' e' xs hn
    split at hk
    case isFalse => cases hk
    rename_i hver
    obtain ⟨hver, hoff⟩ := hver
    subst hver
    subst hoff
    split at hk
    case h_2 => cases hk
    rename_i zs hz
    obtain ⟨he', hzs⟩ := castEl_some hz
    injection he' with he'
    subst he'
    simp only at hzs
    subst hzs
    obtain ⟨ys, news, h1, h2, h3⟩ := news_rd cc.hr hk (cc.ρ q)
    obtain ⟨h4, h5⟩ := must_some h1
    obtain ⟨g1, g2, g3⟩ := hv.single.1
    rw [← verOf_eq hn] at h5
    refine op_append_core (xs := xs.take len) (n := n) cc hK ho hc hargs ht hs hnz he hw ?_ h2 h3 (by simpa using h4) h5
    rcases blk_arr cc.hr hn with ⟨q1, rfl⟩ | ⟨b, cap, q1, q2, q3, _⟩
    · obtain ⟨⟨ad, hv⟩, hl0, _⟩ : RdLoc (.lsl n ver 0 len) .nil (a.eval p) := g3 _ q1
      rw [hv, List.take_nil]; exact .nil ad
    · obtain ⟨hle, o', c, hv, hlc, hoc⟩ : RdLoc (.lsl n ver 0 len) (.arr b (width e') xs.length cap) (a.eval p) := g3 _ q1
      rw [hv]
      rcases Nat.eq_zero_or_pos c with rfl | hpos
      · have : len = 0 := by omega
        subst this
        rw [List.take_zero]; exact .nil _
      · obtain ⟨k1, k2⟩ := hoc hpos
        have e1 : o' = 0 := by simpa using k1
        have e2 : c = cap := by omega
        subst e1; subst e2
        exact AppTo.row (cx := cx) (W := W) (m := len) hn q1 q2 (q3 rfl) (by omega)

end
end Go.Flat
