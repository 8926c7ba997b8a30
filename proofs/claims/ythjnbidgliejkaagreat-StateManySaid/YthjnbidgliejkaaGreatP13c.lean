/-
  A tier's slots, third part: got, put, merged.
-/
import Derived.Test.YthjnbidgliejkaaGreatP13b
namespace Go.Proofs.YthjnbidgliejkaaGreat
open Go.Flat Go.Plim
set_option linter.unusedVariables false
set_option linter.unusedSimpArgs false
theorem ev_wf {e : Ev} (h : Wf tyEvent e) : EvW e := by
  obtain ⟨h1, h2, h3, _⟩ := h
  exact ⟨h1, h2, h3⟩
theorem cel_wf {c : Cel} (h : Wf tyCell c) : CelW c := by
  obtain ⟨h1, h2, h3, ⟨h4, h5⟩, h6, h7, h8⟩ := h
  exact ⟨h1, ev_wf h2, ev_wf h3, ⟨h4, h5⟩, h6, h7, h8⟩
theorem slo_wf {s : Slo} (h : Wf tySlot s) : SloW s := by
  obtain ⟨h1, h2⟩ := h
  exact ⟨h1, cel_wf h2⟩
theorem slos_wf {l : List Slo} (h : Wf (.slice tySlot) l) : ∀ s ∈ l, SloW s := fun s hs => slo_wf (h.2 s hs)
/-! ### merged -/
theorem tall_len {l : List Slo} : (tall l).length ≤ l.length := by
  rw [(tall_perm l).length_eq]; exact List.length_filter_le _ _
theorem slow_s0 : SloW s0 := ⟨by simp [I64, s0], celW_z0⟩
theorem tierOk_w {l : List Slo} {w : Int} (h : TierOk l w) : ∀ s ∈ l, SloW s := by
  intro s hs
  obtain ⟨j, hj⟩ := List.getElem?_of_mem hs
  rcases h.s j s hj with rfl | ⟨_, hf⟩
  · exact slow_s0
  · have := hf.i0
    exact ⟨by unfold I64; omega, .ofN hf.n⟩
theorem quo_ev {e : Ev} (h : EvOk e) {w : Int} (hw : 1 ≤ w) : IntKind.wrap .i64 (Int.tdiv e.1 w) = e.1 / w := by
  have h0 := h.t0; have h1 := h.t1
  have : 0 ≤ e.1 / w := Int.ediv_nonneg h0 (by omega)
  have : e.1 / w ≤ e.1 := Int.ediv_le_self _ h0
  rw [tdiv_nn h0, w64 (by omega) (by omega)]
end Go.Proofs.YthjnbidgliejkaaGreat
