/-
  Soundness of the flat reading, thirty-fourth part: what an operation looks at.
-/
import Derived.Test.YtmooabafkcfbhaaFlatTO
namespace Go.Flat
open Go.RowKit (Below)

section
variable {cx : Cx} {call : Oracle cx} {fx : Hints} {h : Heap} {ρ ρ' : Operand → V} {R : Type}

theorem map_congr_op {l : List Operand} (h : ∀ x ∈ l, ρ x = ρ' x) : l.map ρ = l.map ρ' := List.map_congr_left h
theorem optmap_congr {x : Option Operand} (h : ∀ y, x = some y → ρ y = ρ' y) : x.map ρ = x.map ρ' := by
  cases x with
  | none => rfl
  | some y => simp [h y rfl]

/-- an operation's answer hangs on what it looks at -/
theorem evOp_congr (o : Oper) (k : V → Ups → Option R) (hρ : ∀ x ∈ o.op.operands.toList, ρ x = ρ' x) : evOp cx call fx o ρ h k = evOp cx call fx o ρ' h k := by
  unfold evOp
  dsimp only
  generalize hop : o.op = op at hρ
  cases op <;> simp only [Op.operands] at hρ <;> (try dsimp only)
  case move x => rw [hρ x (by simp)]
  case assign x => rw [hρ x (by simp)]
  case pick c a b => rw [hρ c (by simp), hρ a (by simp), hρ b (by simp)]
  case box t x => rw [hρ x (by simp)]
  case build t ps =>
    have : (ps.toList.map fun x => (x.1, ρ x.2)) = ps.toList.map fun x => (x.1, ρ' x.2) := List.map_congr_left fun x hx => by rw [hρ x.2 (by simp; exact ⟨x.1, Array.mem_toList_iff.1 hx⟩)]
    rw [this]
  case buildSlice t n ps =>
    have : (ps.toList.map fun x => (x.1, ρ x.2)) = ps.toList.map fun x => (x.1, ρ' x.2) := List.map_congr_left fun x hx => by rw [hρ x.2 (by simp; exact ⟨x.1, Array.mem_toList_iff.1 hx⟩)]
    rw [this]
  case load t x => rw [hρ x (by simp)]
  case store t a x => rw [hρ a (by simp), hρ x (by simp)]
  case nilCheck x => rw [hρ x (by simp)]
  case binOp op t x y yt => rw [hρ x (by simp), hρ y (by simp)]
  case unOp op t x => rw [hρ x (by simp)]
  case convert s d x => rw [hρ x (by simp)]
  case makeFunc t first caps =>
    have : caps.toList.map ρ = caps.toList.map ρ' := List.map_congr_left fun x hx => hρ x (by simp; exact .inr (Array.mem_toList_iff.1 hx))
    cases t <;> first | simp only [this] | rfl
  case makeSlice t l c => rw [hρ l (by simp), hρ c (by simp)]
  case slice t x lo hi mx =>
    rw [hρ x (by simp), optmap_congr (x := lo) fun y hy => hρ y (by simp [hy]), optmap_congr (x := hi) fun y hy => hρ y (by simp [hy]), optmap_congr (x := mx) fun y hy => hρ y (by simp [hy])]
  case fieldAddr s x f => rw [hρ x (by simp)]
  case field s x f => rw [hρ x (by simp)]
  case indexAddr t x i => rw [hρ x (by simp), hρ i (by simp)]
  case index t x i => rw [hρ x (by simp), hρ i (by simp)]
  case extract x i => rw [hρ x (by simp)]
  case call c =>
    simp only [Call.operands] at hρ
    have h1 : c.args.toList.map ρ = c.args.toList.map ρ' := List.map_congr_left fun x hx => hρ x (by simp; exact .inr (Array.mem_toList_iff.1 hx))
    have h2 : ∀ z, c.callee = .value z → ρ z = ρ' z := fun z hz => hρ z (by simp [hz])
    rw [h1]
    cases hcal : c.callee with
    | builtin b => rfl
    | invoke r n => rfl
    | value z => cases z <;> simp only [h2 _ hcal]

end

theorem restrict_get (h : Heap) (ns : List Nat) (n : Nat) : (restrict h ns)[n]? = (h[n]?).map fun e => if hasN ns n = true then e else (0, none) := by
  unfold restrict
  rw [List.getElem?_map, List.getElem?_zipIdx]
  cases h[n]? <;> simp

theorem restrict_in {h : Heap} {ns : List Nat} {n : Nat} (hn : n ∈ ns) : (restrict h ns)[n]? = h[n]? := by
  rw [restrict_get, hasN_iff.2 hn]
  cases h[n]? <;> simp
theorem restrict_out {h : Heap} {ns : List Nat} {n : Nat} (hn : n ∉ ns) {ver : Nat} {B : Blk} : (restrict h ns)[n]? ≠ some (ver, some B) := by
  rw [restrict_get]
  have : hasN ns n = false := by
    cases hh : hasN ns n with
    | false => rfl
    | true => exact absurd (hasN_iff.1 hh) hn
  rw [this]
  cases h[n]? <;> simp
theorem restrict_length (h : Heap) (ns : List Nat) : (restrict h ns).length = h.length := by simp [restrict]

section
variable {P : Program} {W W' : World} {F F' : Fz} {E E' : EnvM} {h : Heap}

theorem atName_restrict {ns : List Nat} {n b : Nat} (hat : atName (restrict h ns) E n b) : n ∈ ns ∧ atName h E n b := by
  obtain ⟨ver, B, L, h1, h2⟩ := hat
  by_cases hn : n ∈ ns
  · rw [restrict_in hn] at h1
    exact ⟨hn, ver, B, L, h1, h2⟩
  · exact absurd h1 (restrict_out hn)

theorem HR.restrict {ns : List Nat} (hr : HR P W F E (fun _ => True) h) : HR P W F E (· ∈ ns) (Flat.restrict h ns) := by
  have back : ∀ n ver B, (Flat.restrict h ns)[n]? = some (ver, some B) → n ∈ ns ∧ h[n]? = some (ver, some B) := by
    intro n ver B hn
    by_cases hm : n ∈ ns
    · rw [restrict_in hm] at hn; exact ⟨hm, hn⟩
    · exact absurd hn (restrict_out hm)
  refine ⟨fun n ver b hn hb => ?_, fun n ver b hb => ?_, fun n m vn vm bn bm L M x h1 h2 => ?_⟩
  · rw [restrict_in hn] at hb
    exact hr.top n ver b trivial hb
  · obtain ⟨k1, k2⟩ := back n ver b hb
    obtain ⟨_, L, k3, k4⟩ := hr.blk n ver b k2
    exact ⟨k1, L, k3, k4⟩
  · exact hr.inj n m vn vm bn bm L M x (back n vn bn h1).2 (back m vm bm h2).2

theorem OpPost.widen {ns : List Nat} {u : Ups} (hr : HR P W F E (fun _ => True) h) (hp : OpPost P W F E (· ∈ ns) (Flat.restrict h ns) W' F' E' u) (hu : ∀ n ∈ upNames u, n ∈ ns) : OpPost P W F E (fun _ => True) h W' F' E' u := by
  have inn : ∀ n : Nat, n ∈ ns → (setUps h u)[n]? = (setUps (Flat.restrict h ns) u)[n]? := by
    intro n hn
    by_cases hm : n ∈ upNames u
    · exact setUps_over u _ _ n hm (restrict_length h ns).symm
    · rw [setUps_get u _ n hm, setUps_get u _ n hm, restrict_in hn]
  have out : ∀ n : Nat, n ∉ ns → (setUps h u)[n]? = h[n]? := fun n hn => setUps_get u _ n (fun k => hn (hu n k))
  have old : ∀ m b, atName (Flat.restrict h ns) E m b → atName h E m b := fun m b k => (atName_restrict k).2
  have verle : ∀ n ver B, h[n]? = some (ver, some B) → ver ≤ E.top n := fun n ver B hn => Nat.le_of_eq (hr.top n ver _ trivial hn)
  -- a block outside of what it looks at
  have far : ∀ n ver B L b, n ∉ ns → h[n]? = some (ver, some B) → E.m n ver = some L → L.blk = some b → b < W.heap.size ∧ (∀ m ∈ upNames u, ¬ atName (Flat.restrict h ns) E m b) := by
    intro n ver B L b hn h1 h2 h3
    refine ⟨hr.lt b ⟨n, ver, B, L, h1, h2, h3⟩, fun m hm hat => ?_⟩
    have := atName_fun hr (old m b hat) ⟨ver, B, L, h1, h2, h3⟩
    subst this
    exact hn (hu m hm)
  refine ⟨⟨fun n ver b _ hb => ?_, fun n ver B hb => ?_, fun n m vn vm bn bm L M x h1 h2 h3 h4 h5 h6 => ?_⟩, hp.later, hp.env, fun b hb hnot => hp.frame b hb fun n hn k => hnot n hn (old n b k), fun b hb => ?_, fun m b hm hat => ?_, hp.tops⟩
  · by_cases hn : n ∈ ns
    · rw [inn n hn] at hb; exact hp.hr.top n ver b hn hb
    · rw [out n hn] at hb
      rw [hp.tops n (fun k => hn (hu n k))]
      exact hr.top n ver b trivial hb
  · by_cases hn : n ∈ ns
    · rw [inn n hn] at hb
      obtain ⟨_, k⟩ := hp.hr.blk n ver B hb
      exact ⟨trivial, k⟩
    · rw [out n hn] at hb
      obtain ⟨_, L, k1, k2⟩ := hr.blk n ver B hb
      refine ⟨trivial, L, by rw [hp.env.m n ver (verle n ver B hb)]; exact k1, k2.later hp.later hp.env fun b hLb => ?_⟩
      obtain ⟨f1, f2⟩ := far n ver B L b hn hb k1 hLb
      refine ⟨hp.frame b f1 f2, fun hnf hf => ?_⟩
      rcases hp.fz b hf with q | ⟨m, hm, q⟩ | q
      · exact hnf q
      · exact f2 m hm q
      · omega
  · -- one in, one out
    have mixed : ∀ n m vn vm bn bm L M, n ∈ ns → m ∉ ns → (setUps h u)[n]? = some (vn, some bn) → (setUps h u)[m]? = some (vm, some bm) → E'.m n vn = some L → E'.m m vm = some M → L.blk = some x → M.blk = some x → False := by
      intro n m vn vm bn bm L M hn hm h1 h2 h3 h4 h5 h6
      rw [out m hm] at h2
      rw [hp.env.m m vm (verle m vm bm h2)] at h4
      obtain ⟨f1, f2⟩ := far m vm bm M x hm h2 h4 h6
      rw [inn n hn] at h1
      by_cases hnu : n ∈ upNames u
      · rcases hp.own n x hnu ⟨vn, bn, L, h1, h3, h5⟩ with ⟨q, hq, k⟩ | k
        · exact f2 q hq k
        · omega
      · rw [setUps_get u _ n hnu, restrict_in hn] at h1
        rw [hp.env.m n vn (verle n vn bn h1)] at h3
        have := hr.inj n m vn vm bn bm L M x h1 h2 h3 h4 h5 h6
        subst this
        exact hm hn
    by_cases hn : n ∈ ns
    · by_cases hm : m ∈ ns
      · rw [inn n hn] at h1
        rw [inn m hm] at h2
        exact hp.hr.inj n m vn vm bn bm L M x h1 h2 h3 h4 h5 h6
      · exact (mixed n m vn vm bn bm L M hn hm h1 h2 h3 h4 h5 h6).elim
    · by_cases hm : m ∈ ns
      · exact (mixed m n vm vn bm bn M L hm hn h2 h1 h4 h3 h6 h5).elim
      · rw [out n hn] at h1
        rw [out m hm] at h2
        rw [hp.env.m n vn (verle n vn bn h1)] at h3
        rw [hp.env.m m vm (verle m vm bm h2)] at h4
        exact hr.inj n m vn vm bn bm L M x h1 h2 h3 h4 h5 h6
  · rcases hp.fz b hb with q | ⟨m, hm, q⟩ | q
    · exact .inl q
    · exact .inr (.inl ⟨m, hm, old m b q⟩)
    · exact .inr (.inr q)
  · have : atName (setUps (Flat.restrict h ns) u) E' m b := by
      obtain ⟨v, B, L, k1, k2⟩ := hat
      exact ⟨v, B, L, by rw [← inn m (hu m hm)]; exact k1, k2⟩
    rcases hp.own m b hm this with ⟨q, hq, k⟩ | k
    · exact .inl ⟨q, hq, old q b k⟩
    · exact .inr k

end
end Go.Flat
