/-
  Soundness of the flat reading, thirty-third part: what is made of an operation's answer hangs on the answer alone.
-/
import Derived.Test.YtmooabafkcfbhaaFlatTN
namespace Go.Flat

section
variable {cx : Cx} {call : Oracle cx} {fx : Hints} {h : Heap} {ρ : Operand → V} {R : Type}

theorem bind_match {α β : Type} (o : Option α) (f : α → Option β) : o.bind f = match o with | some x => f x | none => none := by cases o <;> rfl

theorem bind_nat {α β : Type} (o : Option α) (f : α → Option R) (f' : α → Option β) (g : β → Option R) (h : ∀ x, f x = (f' x).bind g) : o.bind f = (o.bind f').bind g := by cases o <;> simp [h]
theorem via {α β : Type} (o : Option α) {A : Option R} {B : Option β} {k : α → Option R} {k' : α → Option β} {g : β → Option R} (h1 : A = o.bind k) (h2 : B = o.bind k') (h3 : ∀ x, k x = (k' x).bind g) : A = B.bind g := by
  rw [h1, h2]; exact bind_nat o k k' g h3

theorem must_nat (b : Bool) (o : Option R) {α : Type} (f : α → Option R) (p : Option α) (hp : o = p.bind f) : must b o = (must b p).bind f := by
  cases b <;> simp [must, hp]

theorem loadK_nat (w : Nat) (c : Cell) (k : List Cell → Option R) : loadK h w c k = (loadK h w c some).bind k := by
  unfold loadK
  split
  · split
    · split
      · split <;> rfl
      · rfl
    · rfl
  · split <;> rfl
  · split
    · split
      · refine bind_nat _ _ _ _ fun y => ?_
        split <;> rfl
      · rfl
    · rfl
  · rfl

theorem storeK_nat (c : Cell) (new : List Cell) (k : Ups → Option R) : storeK cx call h c new k = (storeK cx call h c new some).bind k := by
  unfold storeK
  split
  · split
    · split
      · split <;> rfl
      · rfl
    · rfl
  · split
    · split
      · refine bind_nat _ _ _ _ fun y => ?_
        split
        · split
          · split <;> rfl
          · rfl
        · rfl
      · rfl
    · rfl
  · rfl

theorem arrK_nat (e : Ty) (c : Cell) (k : List (El e) → Option R) : arrK cx call h e c k = (arrK cx call h e c some).bind k := by
  unfold arrK
  split <;> rfl

theorem lenK_nat (s : Shp) (c : Cell) (k : Nat → Option R) : lenK h s c k = (lenK h s c some).bind k := by
  unfold lenK
  split
  · split <;> rfl
  · split
    · rfl
    · rfl
    · split
      · split <;> rfl
      · rfl
    · rfl
    · rfl
  · rfl

theorem pickIx_nat (i : Int) {α : Type} (k : Nat → Option R) (f : Nat → Option α) (g : α → Option R) (hk : ∀ j, k j = (f j).bind g) : ∀ n j, pickIx i n j k = (pickIx i n j f).bind g := by
  intro n
  induction n with
  | zero => intro j; rfl
  | succ n ih =>
    intro j
    simp only [pickIx]
    cases decide (i = (j : Int)) with
    | true => exact hk j
    | false => exact ih _

theorem cond_nat {α : Type} (b : Bool) (o : Option R) (p : Option α) (g : α → Option R) (h : o = p.bind g) : (bif b then o else none) = (bif b then p else none).bind g := by cases b <;> simp [h]

theorem indexAddrK_nat (t : TypeId) (x : V) (i : Int) (k : Cell → Option R) : indexAddrK cx h t x i k = (indexAddrK cx h t x i some).bind k := by
  unfold indexAddrK
  split
  · cases Nat.beq _ 0 with
    | true => rfl
    | false =>
      simp only [cond_false]
      split
      · refine pickIx_nat _ _ _ _ ?_ _ _
        intro _; rfl
      · refine pickIx_nat _ _ _ _ ?_ _ _
        intro _; rfl
      · refine pickIx_nat _ _ _ _ ?_ _ _
        intro _; rfl
      · rfl
  · split
    · refine cond_nat _ _ _ _ ?_
      cases at? _ i <;> rfl
    · split
      · split
        · refine cond_nat _ _ _ _ ?_
          cases at? _ i <;> rfl
        · rfl
      · rfl
    · split
      · split
        · refine cond_nat _ _ _ _ ?_
          cases at? _ i <;> rfl
        · rfl
      · rfl
    · rfl
  · rfl

theorem indexK_nat (t : TypeId) (x : V) (i : Int) (k : V → Option R) : indexK cx t x i k = (indexK cx t x i some).bind k := by
  unfold indexK
  split
  · split
    · refine pickIx_nat _ _ _ _ (fun j => ?_) _ _
      split <;> rfl
    · rfl
  · cases at? _ i <;> rfl
  · rfl

theorem upK_nat (n l : Nat) (hi : Option V) {α : Type} (k : Nat → Nat → Option R) (f : Nat → Nat → Option α) (g : α → Option R) (hk : ∀ i j, k i j = (f i j).bind g) : upK n l hi k = (upK n l hi f).bind g := by
  unfold upK
  split
  · exact must_nat _ _ _ _ (hk _ _)
  · split
    · exact must_nat _ _ _ _ (hk _ _)
    · rfl

theorem boundsK_nat (n : Nat) (lo hi : Option V) {α : Type} (k : Nat → Nat → Option R) (f : Nat → Nat → Option α) (g : α → Option R) (hk : ∀ i j, k i j = (f i j).bind g) : boundsK n lo hi k = (boundsK n lo hi f).bind g := by
  unfold boundsK
  split
  · exact upK_nat _ _ _ _ _ _ hk
  · split
    · exact must_nat _ _ _ _ (upK_nat _ _ _ _ _ _ hk)
    · rfl

theorem sliceK_nat (et : TypeId) (x : V) (lo hi mx : Option V) (k : Cell → Option R) : sliceK cx h et x lo hi mx k = (sliceK cx h et x lo hi mx some).bind k := by
  unfold sliceK
  split
  · split
    · split
      · rfl
      · rfl
      · split
        · split <;> rfl
        · rfl
      · rfl
    · rfl
  · split
    · exact cond_nat _ _ _ _ (boundsK_nat _ _ _ _ _ _ fun _ _ => rfl)
    · exact boundsK_nat _ _ _ _ _ _ fun _ _ => rfl
    · split
      · split
        · exact cond_nat _ _ _ _ (boundsK_nat _ _ _ _ _ _ fun _ _ => rfl)
        · rfl
      · rfl
    · split
      · split
        · exact cond_nat _ _ _ _ (boundsK_nat _ _ _ _ _ _ fun _ _ => rfl)
        · rfl
      · rfl
    · rfl

theorem sliceS_nat (x : V) (lo hi mx : Option V) (k : Cell → Option R) : sliceS x lo hi mx k = (sliceS x lo hi mx some).bind k := by
  unfold sliceS
  split
  · exact boundsK_nat _ _ _ _ _ _ fun _ _ => rfl
  · rfl

theorem appendK_nat (o : Oper) (e : Ty) (bytes : Nat) (s x : V) (k : Cell → Ups → Option R) : appendK cx call fx h o e bytes s x k = (appendK cx call fx h o e bytes s x fun c u => some (c, u)).bind fun p => k p.1 p.2 := by
  have news : ∀ {α : Type} (kk : List (El e) → Option R) (f : List (El e) → Option α) (g : α → Option R), (∀ ys, kk ys = (f ys).bind g) →
      (match x with
      | .v false [.val .str b] => match castEl (a := .slice (.int .u8)) (b := .slice e) ((b : List UInt8).map fun (c : UInt8) => (c.toNat : Int)) with | some y => kk y | none => none
      | .v false [c] => arrK cx call h e c kk
      | _ => none) =
      (match x with
      | .v false [.val .str b] => match castEl (a := .slice (.int .u8)) (b := .slice e) ((b : List UInt8).map fun (c : UInt8) => (c.toNat : Int)) with | some y => f y | none => none
      | .v false [c] => arrK cx call h e c f
      | _ => none).bind g := by
    intro α kk f g hk
    split
    · split
      · exact hk _
      · rfl
    · rw [arrK_nat, arrK_nat e _ f]
      cases arrK cx call h e _ some with
      | none => rfl
      | some ys => exact hk ys
    · rfl
  unfold appendK
  dsimp only
  split
  · exact news _ _ _ fun ys => must_nat _ _ _ _ rfl
  · split
    · split
      · split
        · exact news _ _ _ fun ys => must_nat _ _ _ _ rfl
        · rfl
      · rfl
    · rfl
  · split
    · split
      · split
        · exact news _ _ _ fun ys => must_nat _ _ _ _ rfl
        · rfl
      · rfl
    · rfl
  · rfl

theorem placeK_nat (c : Cell) {α : Type} (k : (n ver off len : Nat) → (e : Ty) → List (El e) → Option R) (f : (n ver off len : Nat) → (e : Ty) → List (El e) → Option α) (g : α → Option R)
    (hk : ∀ n ver off len e xs, k n ver off len e xs = (f n ver off len e xs).bind g) : placeK h c k = (placeK h c f).bind g := by
  unfold placeK
  split
  · split
    · split
      · exact hk _ _ _ _ _ _
      · rfl
    · rfl
  · split
    · split
      · exact must_nat _ _ _ _ (hk _ _ _ _ _ _)
      · rfl
    · rfl
  · rfl

theorem builtinK_nat (o : Oper) (b : Builtin) (ts : Array TypeId) (args : List V) (k : V → Ups → Option R) :
    builtinK cx call fx h o b ts args k = (builtinK cx call fx h o b ts args fun x u => some (x, u)).bind fun p => k p.1 p.2 := by
  unfold builtinK
  split
  · split
    · exact via _ (lenK_nat _ _ _) (lenK_nat _ _ _) fun _ => rfl
    · rfl
  · split <;> rfl
  · rfl
  · rfl
  · split
    · split
      · refine cond_nat _ _ _ _ ?_
        exact via _ (appendK_nat _ _ _ _ _ _) (appendK_nat _ _ _ _ _ _) fun _ => rfl
      · rfl
    · rfl
  · split
    · split
      · refine placeK_nat _ _ _ _ fun n ver off len e xs => ?_
        split
        · split
          · split <;> rfl
          · exact via _ (arrK_nat _ _ _) (arrK_nat _ _ _) fun _ => rfl
        · rfl
      · rfl
    · rfl
  · split
    · split
      · rfl
      · split
        · refine placeK_nat _ _ _ _ fun n ver off len e xs => ?_
          split
          · split <;> rfl
          · rfl
        · rfl
    · rfl
  · rfl

theorem backK_nat (t : Ty) (c : Cell) (x : El t) (nm : Nat) {α : Type} (k : Ups → Nat → Option R) (f : Ups → Nat → Option α) (g : α → Option R) (hk : ∀ u n, k u n = (f u n).bind g) : outsK.backK h t c x nm k = (outsK.backK h t c x nm f).bind g := by
  unfold outsK.backK
  split
  · rw [unpackK_eq, unpackK_eq]; exact hk _ _
  · rfl

theorem outK1_nat (e : Ty × Option Cell) (x : El e.1) (nm : Nat) {α : Type} (k : List (Bool × List Cell) → Ups → Nat → Option R) (f : List (Bool × List Cell) → Ups → Nat → Option α) (g : α → Option R)
    (hk : ∀ vs u n, k vs u n = (f vs u n).bind g) : outK1 h e x nm k = (outK1 h e x nm f).bind g := by
  obtain ⟨t, oc⟩ := e
  cases oc with
  | none => simp only [outK1]; rw [unpackK_eq, unpackK_eq]; exact hk _ _ _
  | some c => simp only [outK1]; exact backK_nat _ _ _ _ _ _ _ fun u n => hk _ _ _

theorem outsK_nat : ∀ (bt : List (Ty × Option Cell)) (y : El (tup (bt.map Prod.fst))) (nm : Nat) {α : Type} (k : List (Bool × List Cell) → Ups → Option R) (f : List (Bool × List Cell) → Ups → Option α) (g : α → Option R),
    (∀ vs u, k vs u = (f vs u).bind g) → outsK h bt y nm k = (outsK h bt y nm f).bind g := by
  intro bt
  induction bt with
  | nil => intro y nm α k f g hk; exact hk _ _
  | cons e r ih =>
    intro y nm α k f g hk
    cases r with
    | nil => rw [outsK_one, outsK_one]; exact outK1_nat _ _ _ _ _ _ fun vs u n => hk _ _
    | cons e2 r => rw [outsK_cons, outsK_cons]; exact outK1_nat _ _ _ _ _ _ fun vs u n => ih _ _ _ _ _ fun vs' u' => hk _ _

theorem callK_nat (o : Oper) (f : FuncId) (args : List V) (k : V → Ups → Option R) : callK cx call fx h o f args k = (callK cx call fx h o f args fun x u => some (x, u)).bind fun p => k p.1 p.2 := by
  unfold callK
  split
  · rfl
  · split
    · rfl
    · split
      · dsimp only
        split
        · rfl
        · cases call f _ with
          | none => rfl
          | some r =>
            simp only [Option.bind_some]
            split
            · rfl
            · exact outsK_nat _ _ _ _ _ _ fun vs u => must_nat _ _ _ _ rfl
      · rfl

theorem callV_nat (c : Cell) (args : List V) (k : V → Ups → Option R) : callV cx call h c args k = (callV cx call h c args fun x u => some (x, u)).bind fun p => k p.1 p.2 := by
  unfold callV
  split
  · split
    · split
      · rename_i p _ _ _ _ _
        cases p _ <;> rfl
      · rfl
    · rfl
  · split
    · split
      · dsimp only
        split
        · split
          · rename_i p _ _ _ _ _
            cases p _ <;> rfl
          · rfl
        · rfl
      · rfl
    · rfl
  · rfl

theorem binI_nat (op : BinOp) (kd : IntKind) (x y : Int) (k : Cell → Option R) : binI op kd x y k = (binI op kd x y some).bind k := by
  cases op <;> simp only [binI] <;> (try rfl)
  · cases decide (y = 0) <;> rfl
  · cases decide (y = 0) <;> rfl
  · cases decide (y < 0) <;> rfl
  · cases decide (y < 0) <;> rfl

theorem binS_nat (op : BinOp) (x y : List UInt8) (k : Cell → Option R) : binS op x y k = (binS op x y some).bind k := by
  cases op <;> simp only [binS] <;> (try rfl)
  exact cond_nat _ _ _ _ rfl

theorem binK_nat (kind : Nat) (ty : Option Ty) (op : BinOp) (x y : V) (k : Cell → Option R) : binK kind ty op x y k = (binK kind ty op x y some).bind k := by
  unfold binK
  split
  · split
    · exact binI_nat _ _ _ _ _
    · rfl
  · exact binS_nat _ _ _ _
  · split <;> rfl
  · split <;> rfl

theorem unK_nat (op : UnOp) (x : V) (k : Cell → Option R) : unK op x k = (unK op x some).bind k := by
  unfold unK
  split <;> rfl

theorem evOp_nat (o : Oper) (k : V → Ups → Option R) : evOp cx call fx o ρ h k = (evOp cx call fx o ρ h fun x u => some (x, u)).bind fun p => k p.1 p.2 := by
  have cell : ∀ (f : (Cell → Option R) → Option R) (g : (Cell → Option (V × Ups)) → Option (V × Ups)) (m : Option Cell), (∀ k, f k = m.bind k) → (∀ k, g k = m.bind k) →
      f (fun c => k (.v false [c]) []) = (g fun c => some (.v false [c], [])).bind fun p => k p.1 p.2 := by
    intro f g m hf hg
    rw [hf, hg]
    cases m <;> rfl
  unfold evOp
  dsimp only
  split
  · rfl
  · rfl
  · split
    · rename_i b _; cases b <;> rfl
    · rfl
  · split <;> rfl
  · split
    · split <;> rfl
    · rfl
  · split
    · split
      · split <;> rfl
      · split <;> rfl
      · rfl
    · rfl
  · split
    · split
      · split
        · split
          · split <;> rfl
          · rfl
        · rfl
      · rfl
    · rfl
  · split
    · exact via _ (loadK_nat _ _ _) (loadK_nat _ _ _) fun _ => rfl
    · rfl
  · split
    · split
      · exact via _ (storeK_nat _ _ _) (storeK_nat _ _ _) fun _ => rfl
      · rfl
    · rfl
  · split
    · split <;> rfl
    · rfl
  · exact cell _ _ _ (fun k => binK_nat _ _ _ _ _ k) (fun k => binK_nat _ _ _ _ _ k)
  · exact cell _ _ _ (fun k => unK_nat _ _ k) (fun k => unK_nat _ _ k)
  · split
    · rfl
    · rfl
    · split <;> rfl
    · split
      · exact via _ (arrK_nat _ _ _) (arrK_nat _ _ _) fun _ => rfl
      · rfl
    · rfl
  · split <;> rfl
  · split
    · split
      · split
        · exact must_nat _ _ _ _ rfl
        · rfl
      · rfl
    · rfl
  · split
    · exact cell _ _ _ (fun k => sliceS_nat _ _ _ _ k) (fun k => sliceS_nat _ _ _ _ k)
    · split
      · exact cell _ _ _ (fun k => sliceK_nat _ _ _ _ _ k) (fun k => sliceK_nat _ _ _ _ _ k)
      · rfl
    · rfl
  · split
    · cases Nat.beq _ 0 with
      | true => rfl
      | false => simp only [cond_false]; split <;> rfl
    · rfl
  · split
    · split
      · split <;> rfl
      · rfl
    · rfl
  · split
    · exact cell _ _ _ (fun k => indexAddrK_nat _ _ _ k) (fun k => indexAddrK_nat _ _ _ k)
    · rfl
  · split
    · exact via _ (indexK_nat _ _ _ _) (indexK_nat _ _ _ _) fun _ => rfl
    · rfl
  · split
    · split <;> rfl
    · rfl
  · split
    · exact builtinK_nat _ _ _ _ _
    · exact callK_nat _ _ _ _
    · split
      · exact callV_nat _ _ _
      · rfl
    · rfl
  · rfl

end
end Go.Flat
