import Derived.Test.YtacifhahfamipaaPk2
namespace Go.Proofs.Ytacifhahfamipaa.P
open Go.RowKit Go.Proofs.YtacifhahfamipaaW.PrintWords Go.Proofs.YtacifhahfamipaaW.PrintLast Go.Proofs.YtacifhahfamipaaW.PrintMore
set_option linter.unusedVariables false
set_option linter.unusedSimpArgs false
structure Res where
  At : Nat → World → Nat → Nat → Prop
  mv : ∀ {B : Nat} {W W1 : World} {b e : Nat} {ok : Nat → Prop}, At B W b e → Kept W W1 ok → (∀ k, ok k → k < b ∨ e ≤ k) → At B W1 b e
  up : ∀ {B : Nat} {W : World} {b e e' : Nat}, At B W b e → e ≤ e' → At B W b e'
namespace Res
def box (g : Nat) (cs : Array Value) (t : Nat) : Res where
  At := fun _ W b e => (b ≤ g ∧ g < e) ∧ W.heap[g]? = some (.cells cs t (0, 0))
  mv := fun h hk hn => ⟨h.1, blk_kept h.2 hk (fun q => by have := hn g q; have := h.1; omega)⟩
  up := fun h he => ⟨⟨h.1.1, Nat.lt_of_lt_of_le h.1.2 he⟩, h.2⟩
def rows (v : Value) (u : List (List Int)) : Res where
  At := fun B W b e => Kd.S (Kd.slice 3 (Kd.int .i64)) 25 W B (fun k => b ≤ k ∧ k < e) v u
  mv := fun h hk hn => Kd.S_kept h hk (fun k q r => by have := hn k r; omega)
  up := fun h he => Kd.S_mono h (fun k q => ⟨q.1, Nat.lt_of_lt_of_le q.2 he⟩)
def ints (v : Value) (n : List Int) : Res where
  At := fun B W b e => Kd.R (Kd.int .i64) 3 W B (fun k => b ≤ k ∧ k < e) v n
  mv := fun h hk hn => Kd.R_kept h hk (fun k q r => by have := hn k r; omega)
  up := fun h he => Kd.R_mono h (fun k q => ⟨q.1, Nat.lt_of_lt_of_le q.2 he⟩)
def logic (v0 v1 : Value) (u : List (List Int)) (n : List Int) : Res where
  At := fun B W b e => Kd.S (Kd.slice 3 (Kd.int .i64)) 25 W B (fun k => (b ≤ k ∧ k < e) ∧ some k ≠ v1.ownBlock) v0 u ∧ Kd.R (Kd.int .i64) 3 W B (fun k => (b ≤ k ∧ k < e) ∧ some k = v1.ownBlock) v1 n
  mv := fun h hk hn => ⟨Kd.S_kept h.1 hk (fun k q r => by have := hn k r; have := q.1; omega), Kd.R_kept h.2 hk (fun k q r => by have := hn k r; have := q.1; omega)⟩
  up := fun h he => ⟨Kd.S_mono h.1 (fun k q => ⟨⟨q.1.1, Nat.lt_of_lt_of_le q.1.2 he⟩, q.2⟩), Kd.R_mono h.2 (fun k q => ⟨⟨q.1.1, Nat.lt_of_lt_of_le q.1.2 he⟩, q.2⟩)⟩
end Res
def LiveTo (B : Nat) (W : World) : Nat → List Res → Prop
  | e, [] => B ≤ e
  | e, r :: rs => ∃ b, b ≤ e ∧ r.At B W b e ∧ LiveTo B W b rs
namespace LiveTo
variable {B : Nat} {W W1 : World} {e e' : Nat} {r : Res} {rs post : List Res}
theorem up (h : LiveTo B W e rs) (he : e ≤ e') : LiveTo B W e' rs := by
  cases rs with
  | nil => exact Nat.le_trans h he
  | cons r rs =>
    obtain ⟨b, hb, hr, hs⟩ := h
    exact ⟨b, Nat.le_trans hb he, r.up hr he, hs⟩
theorem ge (h : LiveTo B W e rs) : B ≤ e := by
  induction rs generalizing e with
  | nil => exact h
  | cons r rs ih =>
    obtain ⟨b, hb, _, hs⟩ := h
    exact Nat.le_trans (ih hs) hb
theorem mv {ok : Nat → Prop} (h : LiveTo B W e rs) (hk : Kept W W1 ok) (hn : ∀ k, ok k → e ≤ k) : LiveTo B W1 e rs := by
  induction rs generalizing e with
  | nil => exact h
  | cons r rs ih =>
    obtain ⟨b, hb, hr, hs⟩ := h
    exact ⟨b, hb, r.mv hr hk (fun k q => .inr (hn k q)), ih hs (fun k q => Nat.le_trans hb (hn k q))⟩
theorem at_ (pre : List Res) (h : LiveTo B W e (pre ++ r :: post)) : ∃ b e1, e1 ≤ e ∧ B ≤ b ∧ r.At B W b e1 ∧ ∀ W1 r', Kept W W1 (fun k => b ≤ k ∧ k < e1) → r'.At B W1 b e1 → LiveTo B W1 e (pre ++ r' :: post) := by
  induction pre generalizing e with
  | nil =>
    obtain ⟨b, hb, hr, hs⟩ := h
    exact ⟨b, e, Nat.le_refl _, hs.ge, hr, fun W1 r' hk hr' => ⟨b, hb, hr', hs.mv hk (fun k q => q.1)⟩⟩
  | cons x pre ih =>
    obtain ⟨b0, hb, hx, hs⟩ := h
    obtain ⟨b, e1, he, hB, hr, hput⟩ := ih hs
    exact ⟨b, e1, Nat.le_trans he hb, hB, hr, fun W1 r' hk hr' => ⟨b0, hb, x.mv hx hk (fun k q => .inl (Nat.lt_of_lt_of_le q.2 he)), hput W1 r' hk hr'⟩⟩
end LiveTo
structure Live (w W : World) (rs : List Res) : Prop where
  below : Below w.heap.size w W
  its : LiveTo w.heap.size W W.heap.size rs
namespace Live
variable {w W W1 : World} {r : Res} {rs post : List Res} {g t : Nat} {cs : Array Value} {v v0 v1 : Value} {u : List (List Int)} {n : List Int} {ok : Nat → Prop}
theorem start (w : World) : Live w w [] := ⟨Below.refl _ _, Nat.le_refl _⟩
theorem mv_ (h : Live w W rs) (hb : Below W.heap.size W W1) : LiveTo w.heap.size W1 W.heap.size rs := h.its.mv (Kept.of_below hb (fun _ => False)) (fun _ q => q.elim)
theorem step (h : Live w W rs) (hb : Below W.heap.size W W1) : Live w W1 rs := ⟨below_step h.below hb, (h.mv_ hb).up hb.size⟩
theorem drewN (h : Live w W rs) (m : Nat) : Live w (W.drewN m) rs := h.step (pw_below_drewN (Below.refl _ _) m)
theorem drew (h : Live w W rs) : Live w W.drew rs := h.step (below_drew (Below.refl _ _))
theorem box (h : Live w W rs) (hb : Below W.heap.size W W1) (hg : g = W.heap.size) (hc : W1.heap[g]? = some (.cells cs t (0, 0))) : Live w W1 (.box g cs t :: rs) :=
  ⟨below_step h.below hb, W.heap.size, hb.size, ⟨⟨Nat.le_of_eq hg.symm, blk_lt hc⟩, hc⟩, h.mv_ hb⟩
theorem rows (h : Live w W rs) (hs : Kd.S (Kd.slice 3 (Kd.int .i64)) 25 W1 W.heap.size ok v u) (hb : Below W.heap.size W W1) : Live w W1 (.rows v u :: rs) :=
  ⟨below_step h.below hb, W.heap.size, hb.size, Kd.S_mono (Kd.S_lower (Kd.S_bound hs) h.its.ge) (fun k q => ⟨q.2.1, q.2.2.1⟩), h.mv_ hb⟩
theorem ints (h : Live w W rs) (hs : Kd.R (Kd.int .i64) 3 W1 W.heap.size ok v n) (hb : Below W.heap.size W W1) : Live w W1 (.ints v n :: rs) :=
  ⟨below_step h.below hb, W.heap.size, hb.size, Kd.R_mono (Kd.R_lower (Kd.R_bound hs) h.its.ge) (fun k q => ⟨q.2.1, q.2.2.1⟩), h.mv_ hb⟩
theorem logic (h : Live w W rs) (hs : Kd.S (Kd.slice 3 (Kd.int .i64)) 25 W1 W.heap.size (fun k => some k ≠ v1.ownBlock) v0 u) (hr : Kd.R (Kd.int .i64) 3 W1 W.heap.size ok v1 n) (hb : Below W.heap.size W W1) : Live w W1 (.logic v0 v1 u n :: rs) :=
  ⟨below_step h.below hb, W.heap.size, hb.size, ⟨Kd.S_mono (Kd.S_lower (Kd.S_bound hs) h.its.ge) (fun k q => ⟨⟨q.2.1, q.2.2.1⟩, q.1⟩), Kd.R_mono (Kd.R_lower (Kd.R_bound (Kd.R_tight rfl hr)) h.its.ge) (fun k q => ⟨⟨q.2.1, q.2.2.1⟩, q.1⟩)⟩, h.mv_ hb⟩
theorem at_ (pre : List Res) (h : Live w W (pre ++ r :: post)) : ∃ b e, w.heap.size ≤ b ∧ e ≤ W.heap.size ∧ r.At w.heap.size W b e ∧ ∀ W1 r', Below w.heap.size w W1 → Kept W W1 (fun k => b ≤ k ∧ k < e) → r'.At w.heap.size W1 b e → Live w W1 (pre ++ r' :: post) := by
  obtain ⟨b, e, he, hb, hr, hput⟩ := h.its.at_ pre
  exact ⟨b, e, hb, he, hr, fun W1 r' h1 hk hr' => ⟨h1, (hput W1 r' hk hr').up hk.1⟩⟩
theorem put (pre : List Res) (h : Live w W (pre ++ .box g cs t :: post)) (j : Nat) (x : Value) {cs' : Array Value} (hc : cs.setIfInBounds j x = cs') : Live w (W.setCell ⟨g, j, none⟩ x) (pre ++ .box g cs' t :: post) := by
  obtain ⟨b, e, hb, he, hr, hput⟩ := h.at_ pre
  exact hput _ _ (below_set h.below (Nat.le_trans hb hr.1.1)) ((Kept.refl W _).setCell (.inl hr.1) x) ⟨hr.1, blk_put hr.2 j x hc⟩
theorem set0 {a b x : Value} (h : Live w W (.box g #[a, b] t :: post)) : Live w (W.setCell ⟨g, 0, none⟩ x) (.box g #[x, b] t :: post) := put [] h 0 x rfl
theorem set1 {a b x : Value} (h : Live w W (.box g #[a, b] t :: post)) : Live w (W.setCell ⟨g, 1, none⟩ x) (.box g #[a, x] t :: post) := put [] h 1 x rfl
theorem seti {a x : Value} (h : Live w W (.box g #[a] t :: post)) : Live w (W.setCell ⟨g, 0, none⟩ x) (.box g #[x] t :: post) := put [] h 0 x rfl
theorem cells (pre : List Res) (h : Live w W (pre ++ .box g cs t :: post)) : W.heap[g]? = some (.cells cs t (0, 0)) := by
  obtain ⟨b, e, hb, he, hr, hput⟩ := h.at_ pre
  exact hr.2
theorem cell (pre : List Res) (h : Live w W (pre ++ .box g cs t :: post)) (j : Nat) {x : Value} (hx : cs[j]? = some x) : W.cell? ⟨g, j, none⟩ = some x := (blk_cell (cells pre h) j).trans hx
theorem frozen (pre : List Res) (h : Live w W (pre ++ .box g cs t :: post)) (j : Nat) : W.frozen? ⟨g, j, none⟩ = false := blk_frozen (cells pre h) j
variable {A A1 : Option Addr} {c c1 m m1 : Nat}
theorem rowsAt (pre : List Res) (h : Live w W (pre ++ .rows v u :: post)) : ∃ b e, (w.heap.size ≤ b ∧ e ≤ W.heap.size) ∧ Kd.S (Kd.slice 3 (Kd.int .i64)) 25 W w.heap.size (fun k => b ≤ k ∧ k < e) v u ∧
    ∀ W1 u', Below w.heap.size w W1 → Kept W W1 (fun k => b ≤ k ∧ k < e) → Kd.S (Kd.slice 3 (Kd.int .i64)) 25 W1 w.heap.size (fun k => b ≤ k ∧ k < e) v u' → Live w W1 (pre ++ .rows v u' :: post) := by
  obtain ⟨b, e, hb, he, hr, hput⟩ := h.at_ pre
  exact ⟨b, e, ⟨hb, he⟩, hr, fun W1 u' h1 hk hs => hput W1 (.rows v u') h1 hk hs⟩
theorem logicAt (pre : List Res) (h : Live w W (pre ++ .logic v0 v1 u n :: post)) : ∃ b e, (w.heap.size ≤ b ∧ e ≤ W.heap.size) ∧ Kd.S (Kd.slice 3 (Kd.int .i64)) 25 W w.heap.size (fun k => (b ≤ k ∧ k < e) ∧ some k ≠ v1.ownBlock) v0 u ∧ Kd.R (Kd.int .i64) 3 W w.heap.size (fun k => (b ≤ k ∧ k < e) ∧ some k = v1.ownBlock) v1 n ∧
    ∀ W1 u' n', Below w.heap.size w W1 → Kept W W1 (fun k => b ≤ k ∧ k < e) → Kd.S (Kd.slice 3 (Kd.int .i64)) 25 W1 w.heap.size (fun k => (b ≤ k ∧ k < e) ∧ some k ≠ v1.ownBlock) v0 u' → Kd.R (Kd.int .i64) 3 W1 w.heap.size (fun k => (b ≤ k ∧ k < e) ∧ some k = v1.ownBlock) v1 n' → Live w W1 (pre ++ .logic v0 v1 u' n' :: post) := by
  obtain ⟨b, e, hb, he, hr, hput⟩ := h.at_ pre
  exact ⟨b, e, ⟨hb, he⟩, hr.1, hr.2, fun W1 u' n' h1 hk hs ht => hput W1 (.logic v0 v1 u' n') h1 hk ⟨hs, ht⟩⟩
theorem ret (h : Live w W (.logic v0 v1 u n :: rs)) : Kd.S (Kd.slice 3 (Kd.int .i64)) 25 W w.heap.size (fun k_ => some k_ ≠ v1.ownBlock) v0 u ∧ Kd.R (Kd.int .i64) 3 W w.heap.size (fun _ => True) v1 n ∧ Below w.heap.size w W := by
  obtain ⟨b, e, hb, hr, ht, hput⟩ := logicAt [] h
  exact ⟨Kd.S_mono hr (fun k q => q.2), Kd.R_mono ht (fun k q => trivial), h.below⟩
theorem came {α : Type} {d : Kd α} {xs : List α} (h : Live w W rs) (hc : d.C w A m xs) : d.C W A m xs := Kd.C_below hc h.below
end Live
theorem arm_ {P : Program} {f : FuncId} {args : Array Value} {K : Ending → World → Prop} {w W W' : World} {rs rs' : List Res} (HL : Aside0 (Live w W rs)) (h : Aside0 (Live w W' rs') → Calls P f args W' K)
    (k : Live w W rs → Live w W' rs' := by intro y0_; repeat (first | exact y0_ | (with_reducible apply Live.drewN) | (with_reducible apply Live.drew) | apply Live.set1 | apply Live.set0 | apply Live.seti)) : Calls P f args W' K := h ⟨k HL.out⟩
theorem armb_ {P : Program} {ops : Array Oper} {l : List Oper} {Q : Exit → Act → World → Prop} {a : Act} {w W W' : World} {rs rs' : List Res} (HL : Aside0 (Live w W rs)) (h : Aside0 (Live w W' rs') → wpList P ops Q l a W')
    (k : Live w W rs → Live w W' rs' := by intro y0_; repeat (first | exact y0_ | (with_reducible apply Live.drewN) | (with_reducible apply Live.drew) | apply Live.set1 | apply Live.set0 | apply Live.seti)) : wpList P ops Q l a W' := h ⟨k HL.out⟩
end Go.Proofs.Ytacifhahfamipaa.P

