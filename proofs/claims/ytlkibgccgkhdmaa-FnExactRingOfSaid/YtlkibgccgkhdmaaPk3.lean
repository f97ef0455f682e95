/- 19 texts of this seat joined: walks, and the laws of what they compute. -/
import Derived.Test.YtlkibgccgkhdmaaPk2
import Derived.Deep.Matrix
import Derived.SizedLaws
import Derived.Deep.RegionWith
import Derived.Shelf.Abstract
namespace Go.Proofs.Ytlkibgccgkhdmaa.Q
open Go.RowKit Go.ChangeShapes Go.WideShapes Go.Deep Go.Proofs.YtlkibgccgkhdmaaW.PrintWords
set_option linter.unusedVariables false

def IsRows (W : World) (a : Option Addr) (len cap : Nat) : Prop :=
  (a = none ∧ len = 0 ∧ cap = 0) ∨ ∃ (x : Addr) (A : Nat → Option Addr) (L C : Nat → Nat) (Z : Nat → List Int), a = some x ∧ len ≤ cap ∧ cap ≤ maxLen ∧
    ∀ r, r < cap → W.cell? (x.add r) = some (.slice (A r) (L r) (C r)) ∧ L r ≤ C r ∧ C r ≤ maxLen ∧ (Z r).length = C r ∧ (A r = none → C r = 0) ∧
      ∀ a', A r = some a' → ∀ c, c < C r → W.cell? (a'.add c) = some (.int .i64 ((Z r).getD c 0))
theorem IsRows.reads {W : World} {a : Option Addr} {len cap : Nat} (h : IsRows W a len cap) (e : Nat) :
    ∃ u : List (List Int), u.length = len ∧ len ≤ cap ∧ Kd.C (Kd.slice e (Kd.int .i64)) W a u.length u ∧ ∀ i (k : i < u.length), u[i].length ≤ maxLen := by
  rcases h with ⟨rfl, rfl, rfl⟩ | ⟨x, A, L, C, Z, rfl, hl, hm, hr⟩
  · exact ⟨[], rfl, Nat.le_refl _, ⟨rfl, by simp, fun h => absurd h (Nat.lt_irrefl 0)⟩, fun i k => absurd k (by simp)⟩
  · refine ⟨(List.range len).map fun r => (Z r).take (L r), by simp, hl, ⟨rfl, ?_, fun _ => ⟨x, rfl, fun j p hj => ?_⟩⟩, fun i k => ?_⟩
    · simp only [List.length_map, List.length_range]
      exact Nat.le_trans hl (by unfold maxLen at hm; omega)
    · rw [List.getElem?_map] at hj
      have hjl : j < len := by
        rcases Nat.lt_or_ge j len with z | z
        · exact z
        · rw [List.getElem?_eq_none (by simpa using z)] at hj
          simp at hj
      rw [List.getElem?_range hjl] at hj
      have hp : (Z j).take (L j) = p := by simpa using hj
      obtain ⟨hc, h1, h2, h3, h4, h5⟩ := hr j (by omega)
      have hlen : p.length = L j := by rw [← hp, List.length_take]; omega
      refine ⟨[.slice (A j) (L j) (C j)], rfl, ⟨A j, C j, by rw [hlen], by rw [hlen]; exact h1, ?_⟩, fun i w hw => ?_⟩
      · rw [hlen]
        have hn : L j ≤ 9223372036854775807 := by unfold maxLen at h2; omega
        refine Kd.C_of_reads (d := (0 : Int)) (h1 := fun _ => rfl) ⟨hlen, hn, fun h0 => ?_⟩
        cases ha : A j with
        | none => have := h4 ha; omega
        | some a' =>
          refine ⟨a', rfl, fun c hcl => ?_⟩
          have := h5 a' ha c (by omega)
          rw [this, ← hp, List.getD_eq_getElem?_getD, List.getD_eq_getElem?_getD, List.getElem?_take_of_lt hcl]
      · cases i with
        | zero =>
          have : w = .slice (A j) (L j) (C j) := by simpa using hw.symm
          rw [this]
          simpa [Kd.slice] using hc
        | succ i => simp at hw
    · simp only [List.length_map, List.length_range] at k
      rw [List.getElem_map, List.getElem_range, List.length_take]
      obtain ⟨_, h1, h2, h3, _⟩ := hr i (by omega)
      omega
end Go.Proofs.Ytlkibgccgkhdmaa.Q


namespace Go.Proofs.Ytlkibgccgkhdmaa.P
open Go.RowKit Go.Proofs.YtlkibgccgkhdmaaW.PrintWords Go.Proofs.YtlkibgccgkhdmaaW.PrintLast Go.Proofs.YtlkibgccgkhdmaaW.PrintMore
set_option linter.unusedVariables false
set_option linter.unusedSimpArgs false
structure Res where
  At : Nat → World → Nat → Nat → Prop
  mv : ∀ {B : Nat} {W W1 : World} {b e : Nat} {ok : Nat → Prop}, At B W b e → Kept W W1 ok → (∀ k, ok k → k < b ∨ e ≤ k) → At B W1 b e
  up : ∀ {B : Nat} {W : World} {b e e' : Nat}, At B W b e → e ≤ e' → At B W b e'
namespace Res
def box (g : Nat) (cs : Array Value) (t : Nat) : Res where
  At := fun _ W b e => (b ≤ g ∧ g < e) ∧ W.heap[g]? = some (.cells cs t (0, 0))
  mv := fun h hk hn => ⟨h.1, blk_kept h.2 hk (fun q => by have := hn g q; have := h.1; omega)⟩
  up := fun h he => ⟨⟨h.1.1, Nat.lt_of_lt_of_le h.1.2 he⟩, h.2⟩
def rows (v : Value) (u : List (List Int)) : Res where
  At := fun B W b e => Kd.S (Kd.slice 3 (Kd.int .i64)) 23 W B (fun k => b ≤ k ∧ k < e) v u
  mv := fun h hk hn => Kd.S_kept h hk (fun k q r => by have := hn k r; omega)
  up := fun h he => Kd.S_mono h (fun k q => ⟨q.1, Nat.lt_of_lt_of_le q.2 he⟩)
def logic (v0 v1 : Value) (u : List (List Int)) (n : List Int) : Res where
  At := fun B W b e => Kd.S (Kd.slice 3 (Kd.int .i64)) 23 W B (fun k => (b ≤ k ∧ k < e) ∧ some k ≠ v1.ownBlock) v0 u ∧ Kd.R (Kd.int .i64) 3 W B (fun k => (b ≤ k ∧ k < e) ∧ some k = v1.ownBlock) v1 n
  mv := fun h hk hn => ⟨Kd.S_kept h.1 hk (fun k q r => by have := hn k r; have := q.1; omega), Kd.R_kept h.2 hk (fun k q r => by have := hn k r; have := q.1; omega)⟩
  up := fun h he => ⟨Kd.S_mono h.1 (fun k q => ⟨⟨q.1.1, Nat.lt_of_lt_of_le q.1.2 he⟩, q.2⟩), Kd.R_mono h.2 (fun k q => ⟨⟨q.1.1, Nat.lt_of_lt_of_le q.1.2 he⟩, q.2⟩)⟩
def logicN (v0 v1 : Value) (u : List (List Int)) (n : List Int) : Res where
  At := fun B W b e => Kd.N (Kd.slice 3 (Kd.int .i64)) 23 W B (fun k => b ≤ k ∧ k < e) v0 u ∧ Kd.R (Kd.int .i64) 3 W B (fun k => b ≤ k ∧ k < e) v1 n
  mv := fun h hk hn => ⟨Kd.N_kept h.1 hk (fun k q r => by have := hn k r; omega), Kd.R_kept h.2 hk (fun k q r => by have := hn k r; omega)⟩
  up := fun h he => ⟨Kd.N_mono h.1 (fun k q => ⟨q.1, Nat.lt_of_lt_of_le q.2 he⟩), Kd.R_mono h.2 (fun k q => ⟨q.1, Nat.lt_of_lt_of_le q.2 he⟩)⟩
end Res
def LiveTo (B : Nat) (W : World) : Nat → List Res → Prop
  | e, [] => B ≤ e
  | e, r :: rs => ∃ b, b ≤ e ∧ r.At B W b e ∧ LiveTo B W b rs
namespace LiveTo
variable {B : Nat} {W W1 : World} {e e' : Nat} {r : Res} {rs post : List Res}
theorem up (h : LiveTo B W e rs) (he : e ≤ e') : LiveTo B W e' rs := by
  cases rs with
  | nil => exact Nat.le_trans h he
  | cons r rs =>
    obtain ⟨b, hb, hr, hs⟩ := h
    exact ⟨b, Nat.le_trans hb he, r.up hr he, hs⟩
theorem ge (h : LiveTo B W e rs) : B ≤ e := by
  induction rs generalizing e with
  | nil => exact h
  | cons r rs ih =>
    obtain ⟨b, hb, _, hs⟩ := h
    exact Nat.le_trans (ih hs) hb
theorem mv {ok : Nat → Prop} (h : LiveTo B W e rs) (hk : Kept W W1 ok) (hn : ∀ k, ok k → e ≤ k) : LiveTo B W1 e rs := by
  induction rs generalizing e with
  | nil => exact h
  | cons r rs ih =>
    obtain ⟨b, hb, hr, hs⟩ := h
    exact ⟨b, hb, r.mv hr hk (fun k q => .inr (hn k q)), ih hs (fun k q => Nat.le_trans hb (hn k q))⟩
theorem at_ (pre : List Res) (h : LiveTo B W e (pre ++ r :: post)) : ∃ b e1, e1 ≤ e ∧ B ≤ b ∧ r.At B W b e1 ∧ ∀ W1 r', Kept W W1 (fun k => b ≤ k ∧ k < e1) → r'.At B W1 b e1 → LiveTo B W1 e (pre ++ r' :: post) := by
  induction pre generalizing e with
  | nil =>
    obtain ⟨b, hb, hr, hs⟩ := h
    exact ⟨b, e, Nat.le_refl _, hs.ge, hr, fun W1 r' hk hr' => ⟨b, hb, hr', hs.mv hk (fun k q => q.1)⟩⟩
  | cons x pre ih =>
    obtain ⟨b0, hb, hx, hs⟩ := h
    obtain ⟨b, e1, he, hB, hr, hput⟩ := ih hs
    exact ⟨b, e1, Nat.le_trans he hb, hB, hr, fun W1 r' hk hr' => ⟨b0, hb, x.mv hx hk (fun k q => .inl (Nat.lt_of_lt_of_le q.2 he)), hput W1 r' hk hr'⟩⟩
end LiveTo
structure Live (w W : World) (rs : List Res) : Prop where
  below : Below w.heap.size w W
  its : LiveTo w.heap.size W W.heap.size rs
namespace Live
variable {w W W1 : World} {r : Res} {rs post : List Res} {g t : Nat} {cs : Array Value} {v v0 v1 : Value} {u : List (List Int)} {n : List Int} {ok : Nat → Prop}
theorem start (w : World) : Live w w [] := ⟨Below.refl _ _, Nat.le_refl _⟩
theorem mv_ (h : Live w W rs) (hb : Below W.heap.size W W1) : LiveTo w.heap.size W1 W.heap.size rs := h.its.mv (Kept.of_below hb (fun _ => False)) (fun _ q => q.elim)
theorem step (h : Live w W rs) (hb : Below W.heap.size W W1) : Live w W1 rs := ⟨below_step h.below hb, (h.mv_ hb).up hb.size⟩
theorem drewN (h : Live w W rs) (m : Nat) : Live w (W.drewN m) rs := h.step (pw_below_drewN (Below.refl _ _) m)
theorem drew (h : Live w W rs) : Live w W.drew rs := h.step (below_drew (Below.refl _ _))
theorem box (h : Live w W rs) (hb : Below W.heap.size W W1) (hg : g = W.heap.size) (hc : W1.heap[g]? = some (.cells cs t (0, 0))) : Live w W1 (.box g cs t :: rs) :=
  ⟨below_step h.below hb, W.heap.size, hb.size, ⟨⟨Nat.le_of_eq hg.symm, blk_lt hc⟩, hc⟩, h.mv_ hb⟩
theorem rows (h : Live w W rs) (hs : Kd.S (Kd.slice 3 (Kd.int .i64)) 23 W1 W.heap.size ok v u) (hb : Below W.heap.size W W1) : Live w W1 (.rows v u :: rs) :=
  ⟨below_step h.below hb, W.heap.size, hb.size, Kd.S_mono (Kd.S_lower (Kd.S_bound hs) h.its.ge) (fun k q => ⟨q.2.1, q.2.2.1⟩), h.mv_ hb⟩
theorem logic (h : Live w W rs) (hs : Kd.S (Kd.slice 3 (Kd.int .i64)) 23 W1 W.heap.size (fun k => some k ≠ v1.ownBlock) v0 u) (hr : Kd.R (Kd.int .i64) 3 W1 W.heap.size ok v1 n) (hb : Below W.heap.size W W1) : Live w W1 (.logic v0 v1 u n :: rs) :=
  ⟨below_step h.below hb, W.heap.size, hb.size, ⟨Kd.S_mono (Kd.S_lower (Kd.S_bound hs) h.its.ge) (fun k q => ⟨⟨q.2.1, q.2.2.1⟩, q.1⟩), Kd.R_mono (Kd.R_lower (Kd.R_bound (Kd.R_tight rfl hr)) h.its.ge) (fun k q => ⟨⟨q.2.1, q.2.2.1⟩, q.1⟩)⟩, h.mv_ hb⟩
theorem logicN {okn : Nat → Prop} (h : Live w W rs) (hs : Kd.N (Kd.slice 3 (Kd.int .i64)) 23 W1 W.heap.size okn v0 u) (hk : ∀ k, okn k → W.heap.size ≤ k) (hr : Kd.R (Kd.int .i64) 3 W1 W.heap.size ok v1 n) (hb : Below W.heap.size W W1) : Live w W1 (.logicN v0 v1 u n :: rs) :=
  ⟨below_step h.below hb, W.heap.size, hb.size, ⟨Kd.N_mono (Kd.N_lower (Kd.N_bound hs) h.its.ge) (fun k q => ⟨hk k q.1, q.2⟩), Kd.R_mono (Kd.R_lower (Kd.R_bound hr) h.its.ge) (fun k q => ⟨q.2.1, q.2.2.1⟩)⟩, h.mv_ hb⟩
theorem at_ (pre : List Res) (h : Live w W (pre ++ r :: post)) : ∃ b e, w.heap.size ≤ b ∧ e ≤ W.heap.size ∧ r.At w.heap.size W b e ∧ ∀ W1 r', Below w.heap.size w W1 → Kept W W1 (fun k => b ≤ k ∧ k < e) → r'.At w.heap.size W1 b e → Live w W1 (pre ++ r' :: post) := by
  obtain ⟨b, e, he, hb, hr, hput⟩ := h.its.at_ pre
  exact ⟨b, e, hb, he, hr, fun W1 r' h1 hk hr' => ⟨h1, (hput W1 r' hk hr').up hk.1⟩⟩
theorem put (pre : List Res) (h : Live w W (pre ++ .box g cs t :: post)) (j : Nat) (x : Value) {cs' : Array Value} (hc : cs.setIfInBounds j x = cs') : Live w (W.setCell ⟨g, j, none⟩ x) (pre ++ .box g cs' t :: post) := by
  obtain ⟨b, e, hb, he, hr, hput⟩ := h.at_ pre
  exact hput _ _ (below_set h.below (Nat.le_trans hb hr.1.1)) ((Kept.refl W _).setCell (.inl hr.1) x) ⟨hr.1, blk_put hr.2 j x hc⟩
theorem set0 {a b x : Value} (h : Live w W (.box g #[a, b] t :: post)) : Live w (W.setCell ⟨g, 0, none⟩ x) (.box g #[x, b] t :: post) := put [] h 0 x rfl
theorem set1 {a b x : Value} (h : Live w W (.box g #[a, b] t :: post)) : Live w (W.setCell ⟨g, 1, none⟩ x) (.box g #[a, x] t :: post) := put [] h 1 x rfl
theorem seti {a x : Value} (h : Live w W (.box g #[a] t :: post)) : Live w (W.setCell ⟨g, 0, none⟩ x) (.box g #[x] t :: post) := put [] h 0 x rfl
theorem cells (pre : List Res) (h : Live w W (pre ++ .box g cs t :: post)) : W.heap[g]? = some (.cells cs t (0, 0)) := by
  obtain ⟨b, e, hb, he, hr, hput⟩ := h.at_ pre
  exact hr.2
theorem cell (pre : List Res) (h : Live w W (pre ++ .box g cs t :: post)) (j : Nat) {x : Value} (hx : cs[j]? = some x) : W.cell? ⟨g, j, none⟩ = some x := (blk_cell (cells pre h) j).trans hx
theorem frozen (pre : List Res) (h : Live w W (pre ++ .box g cs t :: post)) (j : Nat) : W.frozen? ⟨g, j, none⟩ = false := blk_frozen (cells pre h) j
variable {A A1 : Option Addr} {c c1 m m1 : Nat}
theorem logicAt (pre : List Res) (h : Live w W (pre ++ .logic v0 v1 u n :: post)) : ∃ b e, (w.heap.size ≤ b ∧ e ≤ W.heap.size) ∧ Kd.S (Kd.slice 3 (Kd.int .i64)) 23 W w.heap.size (fun k => (b ≤ k ∧ k < e) ∧ some k ≠ v1.ownBlock) v0 u ∧ Kd.R (Kd.int .i64) 3 W w.heap.size (fun k => (b ≤ k ∧ k < e) ∧ some k = v1.ownBlock) v1 n ∧
    ∀ W1 u' n', Below w.heap.size w W1 → Kept W W1 (fun k => b ≤ k ∧ k < e) → Kd.S (Kd.slice 3 (Kd.int .i64)) 23 W1 w.heap.size (fun k => (b ≤ k ∧ k < e) ∧ some k ≠ v1.ownBlock) v0 u' → Kd.R (Kd.int .i64) 3 W1 w.heap.size (fun k => (b ≤ k ∧ k < e) ∧ some k = v1.ownBlock) v1 n' → Live w W1 (pre ++ .logic v0 v1 u' n' :: post) := by
  obtain ⟨b, e, hb, he, hr, hput⟩ := h.at_ pre
  exact ⟨b, e, ⟨hb, he⟩, hr.1, hr.2, fun W1 u' n' h1 hk hs ht => hput W1 (.logic v0 v1 u' n') h1 hk ⟨hs, ht⟩⟩
theorem rC_ {B : Nat} (h : Kd.S (Kd.slice 3 (Kd.int .i64)) 23 W B ok (.slice A m c) u) : Kd.C (Kd.slice 3 (Kd.int .i64)) W A m u ∧ m ≤ c := by
  obtain ⟨h1, h2, h3⟩ := Kd.S_reads' h
  exact ⟨by rw [h1]; exact h3, h2⟩
theorem iC_ {B : Nat} (h : Kd.R (Kd.int .i64) 3 W B ok (.slice A m c) n) : Kd.C (Kd.int .i64) W A m n ∧ m ≤ c := by
  obtain ⟨h1, h2, h3⟩ := Kd.R_reads' h
  exact ⟨by rw [h1]; exact h3, h2⟩
theorem logC0 (pre : List Res) (h : Live w W (pre ++ .logic (.slice A m c) v1 u n :: post)) : Kd.C (Kd.slice 3 (Kd.int .i64)) W A m u ∧ m ≤ c := by
  obtain ⟨b, e, hb, hr, ht, hput⟩ := h.logicAt pre
  exact rC_ hr
theorem logC1 (pre : List Res) (h : Live w W (pre ++ .logic v0 (.slice A m c) u n :: post)) : Kd.C (Kd.int .i64) W A m n ∧ m ≤ c := by
  obtain ⟨b, e, hb, hr, ht, hput⟩ := h.logicAt pre
  exact iC_ ht
theorem logNC0 (pre : List Res) (h : Live w W (pre ++ .logicN (.slice A m c) v1 u n :: post)) : Kd.C (Kd.slice 3 (Kd.int .i64)) W A m u ∧ m ≤ c := by
  obtain ⟨b, e, hb, he, hr, hput⟩ := h.at_ pre
  obtain ⟨h1, h2, h3⟩ := Kd.N_reads' hr.1
  exact ⟨by rw [h1]; exact h3, h2⟩
theorem logNC1 (pre : List Res) (h : Live w W (pre ++ .logicN v0 (.slice A m c) u n :: post)) : Kd.C (Kd.int .i64) W A m n ∧ m ≤ c := by
  obtain ⟨b, e, hb, he, hr, hput⟩ := h.at_ pre
  exact iC_ hr.2
theorem ret (h : Live w W (.logic v0 v1 u n :: rs)) : Kd.S (Kd.slice 3 (Kd.int .i64)) 23 W w.heap.size (fun k_ => some k_ ≠ v1.ownBlock) v0 u ∧ Kd.R (Kd.int .i64) 3 W w.heap.size (fun _ => True) v1 n ∧ Below w.heap.size w W := by
  obtain ⟨b, e, hb, hr, ht, hput⟩ := logicAt [] h
  exact ⟨Kd.S_mono hr (fun k q => q.2), Kd.R_mono ht (fun k q => trivial), h.below⟩
end Live
theorem arm_ {P : Program} {f : FuncId} {args : Array Value} {K : Ending → World → Prop} {w W W' : World} {rs rs' : List Res} (HL : Aside0 (Live w W rs)) (h : Aside0 (Live w W' rs') → Calls P f args W' K)
    (k : Live w W rs → Live w W' rs' := by intro y0_; repeat (first | exact y0_ | (with_reducible apply Live.drewN) | (with_reducible apply Live.drew) | apply Live.set1 | apply Live.set0 | apply Live.seti)) : Calls P f args W' K := h ⟨k HL.out⟩
theorem armb_ {P : Program} {ops : Array Oper} {l : List Oper} {Q : Exit → Act → World → Prop} {a : Act} {w W W' : World} {rs rs' : List Res} (HL : Aside0 (Live w W rs)) (h : Aside0 (Live w W' rs') → wpList P ops Q l a W')
    (k : Live w W rs → Live w W' rs' := by intro y0_; repeat (first | exact y0_ | (with_reducible apply Live.drewN) | (with_reducible apply Live.drew) | apply Live.set1 | apply Live.set0 | apply Live.seti)) : wpList P ops Q l a W' := h ⟨k HL.out⟩
theorem Live.ne_ {w W : World} {g g1 t t1 : Nat} {cs cs1 : Array Value} {post : List Res} (pre : List Res) (h : Live w W (.box g cs t :: (pre ++ .box g1 cs1 t1 :: post))) : g ≠ g1 := by
  obtain ⟨b, hb, hr, hs⟩ := h.its
  obtain ⟨b1, e1, he, hB, hr1, _⟩ := hs.at_ pre
  have q1 := hr.1.1
  have q2 := hr1.1.2
  omega
end Go.Proofs.Ytlkibgccgkhdmaa.P


namespace Go.Proofs.Ytlkibgccgkhdmaa.Q
open Go.RowKit Go.Proofs.YtlkibgccgkhdmaaW.PrintWords Go.Proofs.YtlkibgccgkhdmaaW.PrintLast Go.Proofs.YtlkibgccgkhdmaaW.PrintMore Go.Proofs.Ytlkibgccgkhdmaa.P Go.Proofs.Cl
set_option linter.unusedVariables false

theorem Ev.pos {α : Type} {c : Prop} [Decidable c] {f g : Nat → Option α} {r : α} (h : c) (H : Ev f r) : Ev (fun k => if c then f k else g k) r := by
  simp only [if_pos h]
  exact H
theorem Ev.neg {α : Type} {c : Prop} [Decidable c] {f g : Nat → Option α} {r : α} (h : ¬ c) (H : Ev g r) : Ev (fun k => if c then f k else g k) r := by
  simp only [if_neg h]
  exact H
theorem Ev.ff {α : Type} {b : Bool} {f g : Nat → Option α} {r : α} (h : b = false) (H : Ev g r) : Ev (fun k => if b = true then f k else g k) r := Ev.neg (by rw [h]; exact Bool.false_ne_true) H
theorem Ev.ret {α : Type} {a r : α} (h : a = r) : Ev (fun _ => some a) r := h ▸ Ev.now a
theorem Ev.bindc {α β : Type} {o : Option α} {f : Nat → α → Option β} {a : α} {r : β} (h : o = some a) (k : Ev (fun n => f n a) r) : Ev (fun n => o.bind (f n)) r := by
  subst h
  exact k
theorem wrap_of (x : Int) (h0 : -9223372036854775808 ≤ x) (h1 : x ≤ 9223372036854775807) : wrap64 x = x := by
  unfold wrap64
  omega
theorem rd_nat (xs : List Int) (i : Nat) : rd xs (i : Int) = xs.getD i 0 := rfl
theorem row_nat (u : List (List Int)) (i : Nat) : rd_L1 u (i : Int) = u.getD i [] := rfl
theorem rd_lt (xs : List Int) {i : Nat} (h : i < xs.length) : rd xs (i : Int) = xs[i] := by
  rw [rd_nat, List.getD_eq_getElem?_getD, List.getElem?_eq_getElem h, Option.getD_some]
theorem row_lt (u : List (List Int)) {i : Nat} (h : i < u.length) : rd_L1 u (i : Int) = u[i] := by
  rw [row_nat, List.getD_eq_getElem?_getD, List.getElem?_eq_getElem h, Option.getD_some]
theorem wrap_succ' (i : Nat) (h : i < 9223372036854775807) : wrap64 ((i : Int) + 1) = ((i + 1 : Nat) : Int) := by
  rw [wrap_of _ (by omega) (by omega)]
  omega
end Go.Proofs.Ytlkibgccgkhdmaa.Q


namespace Go.Proofs.Ytlkibgccgkhdmaa.Q
open Go.RowKit Go.Proofs.YtlkibgccgkhdmaaW.PrintWords Go.Proofs.YtlkibgccgkhdmaaW.PrintLast Go.Proofs.YtlkibgccgkhdmaaW.PrintMore Go.Proofs.Ytlkibgccgkhdmaa.P Go.Proofs.Cl
set_option linter.unusedVariables false
def mk1 (n : Nat) (a : Int) : List Int := (List.range n).map fun (i : Nat) => a + i
def tot (u : List (List Int)) : Nat := (u.map List.length).sum
def mk2 : List (List Int) → Int → List (List Int)
  | [], _ => []
  | x :: xs, a => mk1 x.length a :: mk2 xs (a + x.length)
theorem mk1_len (n : Nat) (a : Int) : (mk1 n a).length = n := by simp [mk1]
theorem mk1_at {n : Nat} {a : Int} {i : Nat} (h : i < n) : (mk1 n a)[i]'(by rw [mk1_len]; exact h) = a + i := by simp [mk1]
theorem tot_cons (x : List Int) (xs : List (List Int)) : tot (x :: xs) = x.length + tot xs := by simp [tot]
theorem tot_append (xs ys : List (List Int)) : tot (xs ++ ys) = tot xs + tot ys := by simp [tot]
theorem tot_le (M : Nat) : ∀ u : List (List Int), (∀ x ∈ u, x.length ≤ M) → tot u ≤ u.length * M
  | [], _ => by simp [tot]
  | x :: xs, h => by
    have h1 := h x List.mem_cons_self
    have h2 := tot_le M xs (fun y hy => h y (List.mem_cons_of_mem _ hy))
    rw [tot_cons, List.length_cons, Nat.succ_mul]
    omega
theorem mk2_len (u : List (List Int)) (a : Int) : (mk2 u a).length = u.length := by
  induction u generalizing a with
  | nil => rfl
  | cons x xs ih => simp [mk2, ih]
theorem mk2_append (xs ys : List (List Int)) (a : Int) : mk2 (xs ++ ys) a = mk2 xs a ++ mk2 ys (a + tot xs) := by
  induction xs generalizing a with
  | nil => simp [mk2, tot]
  | cons x xs ih =>
    rw [List.cons_append, mk2, mk2, ih, tot_cons, List.cons_append]
    congr 3
    omega
theorem take_one (u : List (List Int)) {i : Nat} (h : i < u.length) : u.take (i + 1) = u.take i ++ [u[i]] := List.take_succ_eq_append_getElem h
theorem tot_take (u : List (List Int)) {i : Nat} (h : i < u.length) : tot (u.take (i + 1)) = tot (u.take i) + u[i].length := by
  rw [take_one u h, tot_append]
  simp [tot]
theorem tot_take_le (u : List (List Int)) (i : Nat) : tot (u.take i) ≤ tot u := by
  have := tot_append (u.take i) (u.drop i)
  rw [List.take_append_drop] at this
  omega
def cur (u : List (List Int)) (a : Int) (i : Nat) : List (List Int) := mk2 (u.take i) a ++ u.drop i
theorem cur_zero (u : List (List Int)) (a : Int) : cur u a 0 = u := by simp [cur, mk2]
theorem cur_full (u : List (List Int)) (a : Int) : cur u a u.length = mk2 u a := by simp [cur]
theorem cur_len (u : List (List Int)) (a : Int) {i : Nat} (h : i ≤ u.length) : (cur u a i).length = u.length := by
  rw [cur, List.length_append, mk2_len, List.length_take, List.length_drop]
  omega
theorem cur_at (u : List (List Int)) (a : Int) {i : Nat} (h : i < u.length) : rd_L1 (cur u a i) (i : Int) = u[i] := by
  rw [row_nat, cur, List.getD_eq_getElem?_getD, List.getElem?_append_right (by rw [mk2_len, List.length_take]; omega), mk2_len, List.length_take, List.getElem?_drop]
  rw [show i + (i - min i u.length) = i by omega, List.getElem?_eq_getElem h, Option.getD_some]
theorem cur_set (u : List (List Int)) (a : Int) {i : Nat} (h : i < u.length) : (cur u a i).set i (mk1 u[i].length (a + tot (u.take i))) = cur u a (i + 1) := by
  have e : u.drop i = u[i] :: u.drop (i + 1) := by rw [List.drop_eq_getElem_cons h]
  rw [cur, List.set_append, if_neg (by rw [mk2_len, List.length_take]; omega), mk2_len, List.length_take, show i - min i u.length = 0 by omega, e, List.set_cons_zero]
  rw [cur, take_one u h, mk2_append, List.append_assoc]
  rfl
theorem markIntS_ev (xs : List Int) (a : Int) (h0 : 0 ≤ a) (h1 : a + xs.length ≤ 9223372036854775807) : Ev (fun k => laws_markIntS.f k xs a) (a + xs.length, mk1 xs.length a) := by
  unfold laws_markIntS.f
  have key := down xs.length (fun i => Ev (fun k => laws_markIntS.l0 k (mk1 i a ++ xs.drop i) (a + i) i) (a + xs.length, mk1 xs.length a)) ?_ ?_ 0 (Nat.zero_le _)
  · have e : mk1 0 a ++ xs.drop 0 = xs := by simp [mk1]
    rw [e] at key
    simpa using key
  · refine Ev.step (fun k => laws_markIntS.l0.eq_2 ..) ?_
    have e : mk1 xs.length a ++ xs.drop xs.length = mk1 xs.length a := by simp
    rw [e]
    exact Ev.neg (by rw [mk1_len]; omega) (Ev.ret rfl)
  · intro i hi ih
    refine Ev.step (fun k => laws_markIntS.l0.eq_2 ..) ?_
    refine Ev.pos (by rw [List.length_append, mk1_len, List.length_drop]; omega) (Ev.pos (by omega) ?_)
    rw [wrap_succ' i (by omega), Int.toNat_natCast]
    have e1 : wrap64 (a + i + 1) = a + ((i + 1 : Nat) : Int) := by rw [wrap_of _ (by omega) (by omega)]; omega
    have e2 : (mk1 i a ++ xs.drop i).set i (a + i) = mk1 (i + 1) a ++ xs.drop (i + 1) := by
      rw [List.set_append, if_neg (by rw [mk1_len]; omega), mk1_len, Nat.sub_self, List.drop_eq_getElem_cons hi, List.set_cons_zero]
      simp [mk1, List.range_succ]
    rw [e1, e2]
    exact ih
theorem heldIntS_ev (m : Nat) (a : Int) (h0 : 0 ≤ a) (h1 : a + m ≤ 9223372036854775807) : Ev (fun k => laws_heldIntS.f k (mk1 m a) a) (a + m) := by
  unfold laws_heldIntS.f
  have key := down m (fun i => Ev (fun k => laws_heldIntS.l0 k (mk1 m a) (a + i) i) (a + m)) ?_ ?_ 0 (Nat.zero_le _)
  · simpa using key
  · refine Ev.step (fun k => laws_heldIntS.l0.eq_2 ..) ?_
    exact Ev.neg (by rw [mk1_len]; omega) (Ev.ret rfl)
  · intro i hi ih
    refine Ev.step (fun k => laws_heldIntS.l0.eq_2 ..) ?_
    refine Ev.pos (by rw [mk1_len]; omega) (Ev.pos (by omega) (Ev.pos (by rw [rd_lt _ (by rw [mk1_len]; exact hi), mk1_at hi]) ?_))
    rw [wrap_succ' i (by omega), show wrap64 (a + i + 1) = a + ((i + 1 : Nat) : Int) by rw [wrap_of _ (by omega) (by omega)]; omega]
    exact ih
theorem mk2_at (u : List (List Int)) (a : Int) {i : Nat} (h : i < u.length) : rd_L1 (mk2 u a) (i : Int) = mk1 u[i].length (a + tot (u.take i)) := by
  have e := cur_set u a h
  have hl : i < (cur u a i).length := by rw [cur_len u a (Nat.le_of_lt h)]; exact h
  have h2 : (mk2 u a)[i]? = some (mk1 u[i].length (a + tot (u.take i))) := by
    rw [← cur_full u a, cur, List.take_length, List.drop_length, List.append_nil]
    conv => lhs; rw [← List.take_append_drop (i + 1) u]
    rw [mk2_append, List.getElem?_append_left (by rw [mk2_len, List.length_take]; omega), take_one u h, mk2_append, List.getElem?_append_right (by rw [mk2_len, List.length_take]; omega), mk2_len, List.length_take, show i - min i u.length = 0 by omega]
    rfl
  rw [row_nat, List.getD_eq_getElem?_getD, h2, Option.getD_some]
theorem heldIntSS_ev (u : List (List Int)) (a : Int) (h0 : 0 ≤ a) (h1 : a + tot u ≤ 9223372036854775807) (hl : u.length ≤ 9223372036854775806) : Ev (fun k => laws_heldIntSS.f k (mk2 u a) a) (a + tot u) := by
  unfold laws_heldIntSS.f
  have key := down u.length (fun i => Ev (fun k => laws_heldIntSS.l0 k (mk2 u a) (a + tot (u.take i)) i) (a + tot u)) ?_ ?_ 0 (Nat.zero_le _)
  · simpa [tot] using key
  · refine Ev.step (fun k => laws_heldIntSS.l0.eq_2 ..) ?_
    rw [List.take_length]
    exact Ev.neg (by rw [mk2_len]; omega) (Ev.ret rfl)
  · intro i hi ih
    have e1 := tot_take u hi
    have e2 := tot_take_le u (i + 1)
    refine Ev.step (fun k => laws_heldIntSS.l0.eq_2 ..) ?_
    refine Ev.pos (by rw [mk2_len]; omega) (Ev.pos (by omega) ?_)
    rw [mk2_at u a hi]
    refine Ev.bind (heldIntS_ev _ _ (by omega) (by omega)) (Ev.neg (by omega) ?_)
    rw [wrap_succ' i (by omega), show a + (tot (u.take i) : Int) + (u[i].length : Nat) = a + (tot (u.take (i + 1)) : Nat) by omega]
    exact ih
theorem heldLogic_ev (u : List (List Int)) (m : Nat) (a : Int) (h0 : 0 ≤ a) (h1 : a + tot u + m ≤ 9223372036854775807) (hl : u.length ≤ 9223372036854775806) : Ev (fun k => laws_heldLogic.f k (mk2 u a) (mk1 m (a + tot u)) a) (a + tot u + m) := by
  unfold laws_heldLogic.f
  exact Ev.bind (heldIntSS_ev u a h0 (by omega) hl) (Ev.neg (by omega) (Ev.bind (heldIntS_ev m _ (by omega) (by omega)) (Ev.neg (by omega) (Ev.ret rfl))))
end Go.Proofs.Ytlkibgccgkhdmaa.Q


namespace Go.Proofs.Ytlkibgccgkhdmaa.P
open Go.RowKit Go.Proofs.YtlkibgccgkhdmaaW.PrintWords Go.Proofs.YtlkibgccgkhdmaaW.PrintLast Go.Proofs.YtlkibgccgkhdmaaW.PrintMore Go.Proofs.Cl
set_option linter.unusedVariables false
set_option linter.unusedSimpArgs false
set_option maxHeartbeats 4000000 in
set_option maxRecDepth 100000 in
theorem marks_calls {w0 w : World} (ok : Nat → Prop) (A : Option Addr) (c : Nat) (u : List (List Int)) (a : Int) (h0 : 0 ≤ a) (hm : a + Q.tot u ≤ 9223372036854775807) (hl : u.length ≤ 1048576)
    (hB : Below w0.heap.size w0 w) (ho : Kd.S (Kd.slice 3 (Kd.int .i64)) 23 w w0.heap.size ok (.slice A u.length c) u) :
    Calls Try.prog 65 #[.slice A u.length c, .int .i64 a] w fun e w' => e = .returned (.int .i64 (a + Q.tot u)) ∧ Kd.S (Kd.slice 3 (Kd.int .i64)) 23 w' w0.heap.size ok (.slice A u.length c) (Q.mk2 u a) ∧ Below w0.heap.size w0 w' ∧ Kept w w' ok := by
  have HO := Aside0.mk ho
  have HB := Aside0.mk hB
  have HM := Aside0.mk hm
  have H0 := Aside0.mk h0
  clear ho hB hm h0
  go_enter Try.func65, Try.ntmps65
  go_wp2
  go_loopw [1, 5] (fun v1 v5 wr => ∃ i : Nat, i ≤ u.length ∧ v1 = .int .i64 (a + Q.tot (u.take i)) ∧ v5 = .int .i64 i ∧ Aside0 (Kd.S (Kd.slice 3 (Kd.int .i64)) 23 wr w0.heap.size ok (.slice A u.length c) (Q.cur u a i)) ∧ Aside0 (Below w0.heap.size w0 wr) ∧ Aside0 (Kept w wr ok)) (fun _ v5 _ => u.length - (intOf v5).toNat)
  case atStart => exact ⟨0, Nat.zero_le _, by simp [Q.tot], rfl, ⟨by rw [Q.cur_zero]; exact Kd.S_step HO.out (fun k _ _ => rfl)⟩, ⟨(by repeat (first | (with_reducible first | exact HB.out | apply below_alloc | apply pw_below_drewN | apply below_drew1) | exact HB.out))⟩, ⟨Kept.refl _ _⟩⟩
  case round =>
    obtain ⟨i, hi, rfl, rfl, HS, HB1, HK⟩ := hrel
    by_cases hlt : i < u.length
    · have hcl := Q.cur_len u a hi
      obtain ⟨ad, A1, c1, eA, _, _, _⟩ := at_L1 (Kd.S_reads' HS.out).2.2 (i : Int) (by omega) (by rw [hcl]; omega)
      clear hcl
      subst eA
      obtain ⟨g, eg⟩ := Kd.R_head (Kd.S_R HS.out)
      subst eg
      obtain ⟨oki, cl, hcl, hMM, hcc, hoki, hH⟩ := Kd.S_lend HS.out ([] : List Int) (i : Int) (by omega) (by omega)
      obtain ⟨v, ev, hR⟩ := hMM
      subst ev
      have e1 : (Q.cur u a i).getD (i : Int).toNat [] = u[i] := Q.cur_at u a hlt
      rw [e1] at hR
      clear e1
      obtain ⟨A2, c2, e2⟩ := Kd.R_slice hR
      subst e2
      have hcell : wr.cell? ⟨g, i, none⟩ = some (.slice A2 u[i].length c2) := by
        have q := hcc 0 _ rfl
        simpa [Kd.slice] using q
      have HH := Aside0.mk hH
      have HR := Aside0.mk hR
      have e3 := Q.tot_take u hlt
      have e4 := Q.tot_take_le u (i + 1)
      have hm := HM.out
      have h0 := H0.out
      obtain ⟨km, hkm⟩ := Ev.rounds (Q.markIntS_ev u[i] (a + Q.tot (u.take i)) (by omega) (by omega))
      rw [show a + (Q.tot (u.take i) : Int) + (u[i].length : Nat) = a + (Q.tot (u.take (i + 1)) : Nat) by omega] at hkm
      have HKM := Aside0.mk hkm
      have HI := Aside0.mk hlt
      clear hcc hoki hH hR hkm e3 e4 hm h0 hcl
      go_wp2_with (go_at_call 26; (with_reducible refine (laws_markIntS.calls km oki _ u[i] _ _ _ w0 _ (by repeat (first | (with_reducible first | exact HB1.out | apply below_alloc | apply pw_below_drewN | apply below_drew1) | exact HB1.out)) (xR HR.out) HKM.out).mono ?_); rintro e w2 ⟨rfl, hr, hb, hk⟩; have HR2 := Aside0.mk hr; have HB2 := Aside0.mk hb; have HK2 := Aside0.mk hk; have HH2 := Aside0.mk (Kd.H_kept (by repeat (first | exact HH.out | apply Kd.H_drewN | apply Kd.H_drew)) hk (fun k _ hn hs => hn hs)); have HKK := Aside0.mk (Kept.then_ (by repeat (first | exact HK.out | apply Kept.drewN | apply Kept.drew)) hk (fun k hs => .inl (HH.out.1 k hs))); clear hr hb hk HH HK)
      go_roundw
      case rel =>
        refine ⟨i + 1, by omega, rfl, by go_num, ⟨?_⟩, ⟨(by repeat (first | (with_reducible first | exact HB2.out | apply below_alloc | apply pw_below_drewN | apply below_drew1) | exact HB2.out))⟩, ⟨by repeat (first | exact HKK.out | apply Kept.drewN | apply Kept.drew)⟩⟩
        have q := Kd.H_back HH2.out (okp := fun k => some k = (Value.slice A2 u[i].length c2).ownBlock) (x' := Q.mk1 u[i].length (a + Q.tot (u.take i))) ⟨_, rfl, Kd.R_tight rfl HR2.out⟩ (fun k hk => HR.out.1 k hk.symm)
        rw [Int.toNat_natCast, Q.cur_set u a HI.out] at q
        exact xS q
      case measure => simp [intOf]; omega
    · have e : i = u.length := by omega
      subst e
      go_wp2
      go_ret
      refine ⟨by rw [List.take_length]; rfl, ?_, (by repeat (first | (with_reducible first | exact HB1.out | apply below_alloc | apply pw_below_drewN | apply below_drew1) | exact HB1.out)), by repeat (first | exact HK.out | apply Kept.drewN | apply Kept.drew)⟩
      have q := HS.out
      rw [Q.cur_full] at q
      exact xS q
theorem mark1_calls {w0 w : World} (ok : Nat → Prop) (A : Option Addr) (c : Nat) (n : List Int) (a : Int) (h0 : 0 ≤ a) (hm : a + n.length ≤ 9223372036854775807)
    (hB : Below w0.heap.size w0 w) (ho : Kd.R (Kd.int .i64) 3 w w0.heap.size ok (.slice A n.length c) n) :
    Calls Try.prog 26 #[.slice A n.length c, .int .i64 a] w fun e w' => e = .returned (.int .i64 (a + n.length)) ∧ Kd.R (Kd.int .i64) 3 w' w0.heap.size ok (.slice A n.length c) (Q.mk1 n.length a) ∧ Below w0.heap.size w0 w' ∧ Kept w w' ok := by
  obtain ⟨km, hkm⟩ := Ev.rounds (Q.markIntS_ev n a h0 hm)
  refine (laws_markIntS.calls km ok _ n a _ _ w0 w hB ho hkm).mono ?_
  rintro e w' ⟨rfl, hr, hb, hk⟩
  exact ⟨rfl, Kd.R_mono (Kd.R_tight rfl hr) (fun k hk => ho.1 k hk.symm), hb, hk⟩
end Go.Proofs.Ytlkibgccgkhdmaa.P


namespace Go.Proofs.Ytlkibgccgkhdmaa.P
open Go.RowKit Go.Proofs.YtlkibgccgkhdmaaW.PrintWords Go.Proofs.YtlkibgccgkhdmaaW.PrintLast Go.Proofs.YtlkibgccgkhdmaaW.PrintMore Go.Proofs.Cl
set_option linter.unusedVariables false
set_option linter.unusedSimpArgs false
set_option maxHeartbeats 4000000 in
set_option maxRecDepth 100000 in
theorem markL_calls {w0 w : World} (ok : Nat → Prop) (A : Option Addr) (c : Nat) (u : List (List Int)) (B : Option Addr) (cc : Nat) (n : List Int) (a : Int) (h0 : 0 ≤ a) (hm : a + Q.tot u + n.length ≤ 9223372036854775807) (hl : u.length ≤ 1048576) (hlt : ∀ k, ok k → k < w.heap.size)
    (hB : Below w0.heap.size w0 w) (hs : Kd.S (Kd.slice 3 (Kd.int .i64)) 23 w w0.heap.size (fun k => ok k ∧ some k ≠ (Value.slice B n.length cc).ownBlock) (.slice A u.length c) u)
    (ht : Kd.R (Kd.int .i64) 3 w w0.heap.size (fun k => ok k ∧ some k = (Value.slice B n.length cc).ownBlock) (.slice B n.length cc) n) :
    Calls Try.prog 25 #[.agg #[.slice A u.length c, .slice B n.length cc], .int .i64 a] w fun e w' => e = .returned (.int .i64 (a + Q.tot u + n.length)) ∧ Kd.S (Kd.slice 3 (Kd.int .i64)) 23 w' w0.heap.size (fun k => ok k ∧ some k ≠ (Value.slice B n.length cc).ownBlock) (.slice A u.length c) (Q.mk2 u a) ∧
      Kd.R (Kd.int .i64) 3 w' w0.heap.size (fun k => ok k ∧ some k = (Value.slice B n.length cc).ownBlock) (.slice B n.length cc) (Q.mk1 n.length (a + Q.tot u)) ∧ Below w0.heap.size w0 w' ∧ Kept w w' ok := by
  have HS := Aside0.mk hs
  have HT := Aside0.mk ht
  have HB := Aside0.mk hB
  have HLT := Aside0.mk hlt
  have H1 := Aside0.mk (show a + Q.tot u ≤ 9223372036854775807 by omega)
  have H2 := Aside0.mk (show 0 ≤ a + Q.tot u by omega)
  have H3 := Aside0.mk (show a + Q.tot u + n.length ≤ 9223372036854775807 from hm)
  have H0 := Aside0.mk h0
  have s0 := Aside0.mk True.intro
  clear hs ht hB hlt hm h0
  go_enter Try.func25, Try.ntmps25
  go_wp2_with (first
    | (clear s0; (with_reducible refine gate_dst (N := 2) rfl ?_); refine bx_ (N := 2) (cs := #[.slice A u.length c, .slice B n.length cc]) (t := 29) ?_; intro g hg w1 hbox hb; have HS1 := Aside0.mk (Kd.S_below HS.out hb); have HT1 := Aside0.mk (Kd.R_below HT.out hb); have HB1 := Aside0.mk (below_step HB.out hb); have HX := Aside0.mk hbox; have HG := Aside0.mk (Nat.le_of_eq hg.symm); have HK := Aside0.mk (Kept.of_below hb ok); clear HS HT HB hg hb hbox; have hc0 : w1.cell? ⟨g, 0, none⟩ = some (.slice A u.length c) := (blk_cell HX.out 0).trans rfl; have hc1 : w1.cell? ⟨g, 1, none⟩ = some (.slice B n.length cc) := (blk_cell HX.out 1).trans rfl; have s1 := Aside0.mk True.intro)
    | (clear s1; go_at_call 65; (with_reducible refine (marks_calls (w0 := w0) (fun k => ok k ∧ some k ≠ (Value.slice B n.length cc).ownBlock) A c u a H0.out H1.out hl (by repeat (first | (with_reducible first | exact HB1.out | apply below_alloc | apply pw_below_drewN | apply below_drew1) | exact HB1.out)) (xS HS1.out)).mono ?_); rintro e w2 ⟨rfl, hs2, hb2, hk2⟩; have HS2 := Aside0.mk hs2; have HB2 := Aside0.mk hb2; have HT2 := Aside0.mk (Kd.R_kept (xR HT1.out) hk2 (fun k (q : ok k ∧ some k = (Value.slice B n.length cc).ownBlock) r => r.2 q.2)); have HX2 := Aside0.mk (blk_kept (xb HX.out) hk2 (fun q => Nat.lt_irrefl _ (Nat.lt_of_lt_of_le (HLT.out g q.1) HG.out))); have HK2 := Aside0.mk (Kept.then_ (by repeat (first | exact HK.out | apply Kept.drewN | apply Kept.drew)) hk2 (fun k q => .inl q.1)); clear HS1 HT1 HB1 HX HK hs2 hb2 hk2; have hd1 : w2.cell? ⟨g, 1, none⟩ = some (.slice B n.length cc) := (blk_cell HX2.out 1).trans rfl; have s2 := Aside0.mk True.intro)
    | (clear s2; go_at_call 26; (with_reducible refine (mark1_calls (w0 := w0) (fun k => ok k ∧ some k = (Value.slice B n.length cc).ownBlock) B cc n (a + Q.tot u) H2.out H3.out (by repeat (first | (with_reducible first | exact HB2.out | apply below_alloc | apply pw_below_drewN | apply below_drew1) | exact HB2.out)) (xR HT2.out)).mono ?_); rintro e w3 ⟨rfl, hs2, hb2, hk2⟩; have HT3 := Aside0.mk hs2; have HB3 := Aside0.mk hb2; have HS3 := Aside0.mk (Kd.S_kept (xS HS2.out) hk2 (fun k (q : ok k ∧ some k ≠ (Value.slice B n.length cc).ownBlock) r => q.2 r.2)); have HK3 := Aside0.mk (Kept.then_ (by repeat (first | exact HK2.out | apply Kept.drewN | apply Kept.drew)) hk2 (fun k q => .inl q.1)); clear HS2 HT2 HB2 HK2 hs2 hb2 hk2; have s3 := Aside0.mk True.intro))
  go_ret
  exact ⟨rfl, xS HS3.out, xR HT3.out, (by repeat (first | (with_reducible first | exact HB3.out | apply below_alloc | apply pw_below_drewN | apply below_drew1) | exact HB3.out)), by repeat (first | exact HK3.out | apply Kept.drewN | apply Kept.drew)⟩
theorem heldL_calls {w : World} (A : Option Addr) (c : Nat) (u : List (List Int)) (B : Option Addr) (cc m : Nat) (a : Int) (h0 : 0 ≤ a) (hm : a + Q.tot u + m ≤ 9223372036854775807) (hl : u.length ≤ 1048576) (hr : Kd.C (Kd.slice 3 (Kd.int .i64)) w A u.length (Q.mk2 u a)) (hc : u.length ≤ c) (hs : Kd.C (Kd.int .i64) w B m (Q.mk1 m (a + Q.tot u))) (hd : m ≤ cc) :
    Calls Try.prog 36 #[.agg #[.slice A u.length c, .slice B m cc], .int .i64 a] w fun e w' => e = .returned (.int .i64 (a + Q.tot u + m)) ∧ Below w.heap.size w w' := by
  obtain ⟨k, hk⟩ := Ev.rounds (Q.heldLogic_ev u m a h0 hm (by omega))
  have q := laws_heldLogic.calls k A c (Q.mk2 u a) B cc (Q.mk1 m (a + Q.tot u)) a (a + Q.tot u + m) w
  rw [Q.mk2_len, Q.mk1_len] at q
  exact q hr hc hs hd hk
end Go.Proofs.Ytlkibgccgkhdmaa.P


namespace Go.Proofs.Ytlkibgccgkhdmaa.Q
open Go.RowKit Go.Proofs.YtlkibgccgkhdmaaW.PrintWords Go.Proofs.YtlkibgccgkhdmaaW.PrintLast Go.Proofs.YtlkibgccgkhdmaaW.PrintMore Go.Proofs.Ytlkibgccgkhdmaa.P Go.Proofs.Cl
set_option linter.unusedVariables false

section
variable (u : List (List Int))
def p4 (a b c : Nat) : Bool := !(decide (rdN u a b = 1) && decide (rdN u b c = 1) && decide (rdN u a c = 0))
def p3 (a b : Nat) : Bool := !(if a = b then decide (rdN u a b = 0) else (decide (rdN u a b = 1) && decide (rdN u b a = 1))) && allF u.length (p4 u a b) 0
def p1 (a b : Nat) : Bool := decide (0 ≤ rdN u a b ∧ rdN u a b ≤ 1)
def p0 (a : Nat) : Bool := decide ((u.getD a []).length = u.length) && allF u.length (p1 u a) 0
variable {u}
variable (hn : u.length ≤ 12)
end
end Go.Proofs.Ytlkibgccgkhdmaa.Q


namespace Go.Proofs.Ytlkibgccgkhdmaa.Q
open Go.RowKit Go.Proofs.YtlkibgccgkhdmaaW.PrintWords Go.Proofs.YtlkibgccgkhdmaaW.PrintLast Go.Proofs.YtlkibgccgkhdmaaW.PrintMore Go.Proofs.Ytlkibgccgkhdmaa.P Go.Proofs.Cl
set_option linter.unusedVariables false

section
variable (u : List (List Int))
def q4 (a b c : Nat) : Bool := !(decide (rdN u a b = 1) && decide (rdN u b c = 1) && !decide (rdN u a c = 1))
def q1 (a b : Nat) : Bool := (decide (rdN u a b = 0) || decide (rdN u a b = 1)) && decide ((u.getD b []).length = u.length) && !(decide (rdN u a b = 1) && !decide (a = b) && decide (rdN u b a = 1))
def q0 (a : Nat) : Bool := decide ((u.getD a []).length = u.length) && decide (rdN u a a = 1) && allF u.length (q1 u a) 0
variable {u}
end
end Go.Proofs.Ytlkibgccgkhdmaa.Q


namespace Go.Proofs.Ytlkibgccgkhdmaa.Q
open Go.RowKit Go.Proofs.YtlkibgccgkhdmaaW.PrintWords Go.Proofs.YtlkibgccgkhdmaaW.PrintLast Go.Proofs.YtlkibgccgkhdmaaW.PrintMore Go.Proofs.Ytlkibgccgkhdmaa.P Go.Proofs.Cl
set_option linter.unusedVariables false

section
variable (u : List (List Int))
variable {u}
variable (u) in
end
end Go.Proofs.Ytlkibgccgkhdmaa.Q


namespace Go.Proofs.Ytlkibgccgkhdmaa.Q
open Go.RowKit Go.Proofs.YtlkibgccgkhdmaaW.PrintWords Go.Proofs.YtlkibgccgkhdmaaW.PrintLast Go.Proofs.YtlkibgccgkhdmaaW.PrintMore Go.Proofs.Ytlkibgccgkhdmaa.P Go.Proofs.Cl
set_option linter.unusedVariables false

end Go.Proofs.Ytlkibgccgkhdmaa.Q


namespace Go.Proofs.Ytlkibgccgkhdmaa.Q
open Go.RowKit Go.Proofs.YtlkibgccgkhdmaaW.PrintWords Go.Proofs.YtlkibgccgkhdmaaW.PrintLast Go.Proofs.YtlkibgccgkhdmaaW.PrintMore Go.Proofs.Ytlkibgccgkhdmaa.P Go.Proofs.Cl
set_option linter.unusedVariables false
section
variable {u : List (List Int)} {nt : List Int}
end
end Go.Proofs.Ytlkibgccgkhdmaa.Q


namespace Go.Proofs.Ytlkibgccgkhdmaa.Q
open Go.RowKit Go.Proofs.YtlkibgccgkhdmaaW.PrintWords Go.Proofs.YtlkibgccgkhdmaaW.PrintLast Go.Proofs.YtlkibgccgkhdmaaW.PrintMore Go.Proofs.Ytlkibgccgkhdmaa.P Go.Proofs.Cl
set_option linter.unusedVariables false
section
variable (u : List (List Int)) (nt : List Int)
theorem ok1 {n : Nat} {a : Int} : okAll n [a] = true ↔ (0 ≤ a ∧ a < n) := by simp [okAll]
end
end Go.Proofs.Ytlkibgccgkhdmaa.Q


namespace Go.Proofs.Ytlkibgccgkhdmaa.Q
open Go.RowKit Go.Proofs.YtlkibgccgkhdmaaW.PrintWords Go.Proofs.YtlkibgccgkhdmaaW.PrintLast Go.Proofs.YtlkibgccgkhdmaaW.PrintMore Go.Proofs.Ytlkibgccgkhdmaa.P Go.Proofs.Cl
set_option linter.unusedVariables false
section
variable {u : List (List Int)} {nt : List Int}
end
end Go.Proofs.Ytlkibgccgkhdmaa.Q


namespace Go.Proofs.Ytlkibgccgkhdmaa.Q
open Go.RowKit Go.Proofs.YtlkibgccgkhdmaaW.PrintWords Go.Proofs.YtlkibgccgkhdmaaW.PrintLast Go.Proofs.YtlkibgccgkhdmaaW.PrintMore Go.Proofs.Ytlkibgccgkhdmaa.P Go.Proofs.Cl
set_option linter.unusedVariables false

theorem eqIntS_ev (xs : List Int) (h : xs.length < 9223372036854775807) : Ev (fun k => laws_eqIntS.f k xs xs) true := by
  unfold laws_eqIntS.f
  refine Ev.pos rfl ?_
  refine down xs.length (fun i => Ev (fun k => laws_eqIntS.l0 k xs xs i) true) ?_ ?_ 0 (Nat.zero_le _)
  · refine Ev.step (fun k => laws_eqIntS.l0.eq_2 ..) ?_
    exact Ev.neg (by omega) (Ev.ret rfl)
  · intro i hi ih
    refine Ev.step (fun k => laws_eqIntS.l0.eq_2 ..) ?_
    refine Ev.pos (by omega) (Ev.pos (by omega) (Ev.pos (by omega) (Ev.pos rfl ?_)))
    rw [wrap_succ' i (by omega)]
    exact ih
theorem eqIntSS_ev (u : List (List Int)) (h : u.length < 9223372036854775807) (hr : ∀ i (k : i < u.length), u[i].length < 9223372036854775807) : Ev (fun k => laws_eqIntSS.f k u u) true := by
  unfold laws_eqIntSS.f
  refine Ev.pos rfl ?_
  refine down u.length (fun i => Ev (fun k => laws_eqIntSS.l0 k u u i) true) ?_ ?_ 0 (Nat.zero_le _)
  · refine Ev.step (fun k => laws_eqIntSS.l0.eq_2 ..) ?_
    exact Ev.neg (by omega) (Ev.ret rfl)
  · intro i hi ih
    refine Ev.step (fun k => laws_eqIntSS.l0.eq_2 ..) ?_
    refine Ev.pos (by omega) (Ev.pos (by omega) (Ev.pos (by omega) ?_))
    rw [row_lt u hi]
    refine Ev.bind (eqIntS_ev _ (hr i hi)) (Ev.pos rfl ?_)
    rw [wrap_succ' i (by omega)]
    exact ih
end Go.Proofs.Ytlkibgccgkhdmaa.Q


namespace Go.Proofs.Ytlkibgccgkhdmaa.Q
open Go.RowKit Go.Proofs.YtlkibgccgkhdmaaW.PrintWords Go.Proofs.YtlkibgccgkhdmaaW.PrintLast Go.Proofs.YtlkibgccgkhdmaaW.PrintMore Go.Proofs.Ytlkibgccgkhdmaa.P Go.Proofs.Cl
set_option linter.unusedVariables false
section
variable {u : List (List Int)} {nt : List Int}
theorem sameL (h1 : u.length ≤ 1048576) (h2 : ∀ i (k : i < u.length), u[i].length ≤ 1048576) (h3 : nt.length ≤ 1048576) : Ev (fun k => laws_eqLogic.f k u nt u nt) true := by
  unfold laws_eqLogic.f
  exact Ev.bind (eqIntSS_ev u (by omega) (fun i k => by have := h2 i k; omega)) (Ev.pos rfl (Ev.bind (eqIntS_ev nt (by omega)) (Ev.pos rfl (Ev.ret rfl))))
end
end Go.Proofs.Ytlkibgccgkhdmaa.Q


namespace Go.Proofs.Ytlkibgccgkhdmaa.Q
open Go.RowKit Go.Proofs.YtlkibgccgkhdmaaW.PrintWords Go.Proofs.YtlkibgccgkhdmaaW.PrintLast Go.Proofs.YtlkibgccgkhdmaaW.PrintMore Go.Proofs.Ytlkibgccgkhdmaa.P Go.Proofs.Cl
set_option linter.unusedVariables false
section
variable {u : List (List Int)} {nt : List Int}
end
theorem spec_ring_eq (a : Int) : spec_RingOf.f a = some (ringF a) := by
  unfold spec_RingOf.f ringF
  by_cases h : a = 6
  · rw [if_pos h, if_pos h]
    rfl
  · rw [if_neg h, if_neg h]
theorem Ev.clos_ {α : Type} {f : Nat → Option α} {r : α} (n : Nat) (h : ∀ k, f (k + n) = some r) : Ev f r :=
  ⟨n, fun k hk => by
    have := h (k - n)
    rwa [Nat.sub_add_cancel hk] at this⟩
theorem spec_sets_ev (a : Int) : Ev (fun k => spec_SetsOf.f k a) (setsF a) := by
  by_cases h : 0 ≤ a ∧ a ≤ 3
  · have : a = 0 ∨ a = 1 ∨ a = 2 ∨ a = 3 := by omega
    rcases this with rfl | rfl | rfl | rfl
    · exact Ev.clos_ 200 (fun k => by kernel_rfl)
    · exact Ev.clos_ 200 (fun k => by kernel_rfl)
    · exact Ev.clos_ 200 (fun k => by kernel_rfl)
    · exact Ev.clos_ 200 (fun k => by kernel_rfl)
  · unfold setsF
    rw [if_neg h]
    unfold spec_SetsOf.f
    refine Ev.bindc (a := false) ?_ (Ev.ff rfl (Ev.ret rfl))
    unfold spec_l1In.f
    by_cases k : a ≥ 0
    · rw [if_pos k]
      have : ¬ a ≤ 3 := fun q => h ⟨k, q⟩
      simp [this]
    · rw [if_neg k]
end Go.Proofs.Ytlkibgccgkhdmaa.Q


namespace Go.Proofs.Ytlkibgccgkhdmaa.Q
open Go.RowKit Go.Proofs.YtlkibgccgkhdmaaW.PrintWords Go.Proofs.YtlkibgccgkhdmaaW.PrintLast Go.Proofs.YtlkibgccgkhdmaaW.PrintMore Go.Proofs.Ytlkibgccgkhdmaa.P Go.Proofs.Cl
set_option linter.unusedVariables false
theorem tot_le2 (u : List (List Int)) (hl : u.length ≤ 1048576) (hz : ∀ i (k : i < u.length), u[i].length ≤ 1048576) : tot u ≤ 1099511627776 := by
  have h1 := tot_le 1048576 u (fun x hx => by
    obtain ⟨i, hi, rfl⟩ := List.getElem_of_mem hx
    exact hz i hi)
  have h2 : u.length * 1048576 ≤ 1048576 * 1048576 := Nat.mul_le_mul_right _ hl
  omega
end Go.Proofs.Ytlkibgccgkhdmaa.Q


namespace Go.Proofs.Ytlkibgccgkhdmaa.Q
open Go.RowKit Go.Proofs.YtlkibgccgkhdmaaW.PrintWords Go.Proofs.YtlkibgccgkhdmaaW.PrintLast Go.Proofs.YtlkibgccgkhdmaaW.PrintMore Go.Proofs.Ytlkibgccgkhdmaa.P Go.Proofs.Cl
set_option linter.unusedVariables false
def Few (r1 : List (List Int)) (r2 : List Int) : Prop := r1.length ≤ 1048576 ∧ (∀ i (k : i < r1.length), r1[i].length ≤ 1048576) ∧ r2.length ≤ 1048576
theorem few_nil : Few [] [] := ⟨Nat.zero_le _, fun i k => absurd k (Nat.not_lt_zero _), Nat.zero_le _⟩
theorem few_made (n : Nat) (h : n ≤ 1048576) (U : Nat → Nat → Bool) (N : Nat → Int) : Few (madeU n U) (madeN n N) := by
  refine ⟨by simp [madeU]; exact h, fun i k => ?_, by simp [madeN]; exact h⟩
  simp [madeU]
  exact h
theorem few_ring (a : Int) : Few (ringF a).1 (ringF a).2.1 := by
  unfold ringF
  split
  · exact few_made 6 (by decide) _ _
  · exact few_nil
theorem few_sets (a : Int) : Few (setsF a).1 (setsF a).2.1 := by
  unfold setsF
  split
  · rename_i h
    refine few_made _ ?_ _ _
    have h2 : a.toNat ≤ 3 := by omega
    exact Nat.le_trans (Nat.pow_le_pow_right (by decide) h2) (by decide)
  · exact few_nil
end Go.Proofs.Ytlkibgccgkhdmaa.Q


namespace Go.Proofs.Ytlkibgccgkhdmaa.P
open Go.RowKit Go.Proofs.YtlkibgccgkhdmaaW.PrintWords Go.Proofs.YtlkibgccgkhdmaaW.PrintLast Go.Proofs.YtlkibgccgkhdmaaW.PrintMore
set_option linter.unusedVariables false
set_option linter.unusedSimpArgs false
structure MadeSt (w W : World) (cu cn vu vn : Value) (u : List (List Int)) (nt : List Int) : Prop where
  below : Below w.heap.size w W
  res : W.heap[w.heap.size]? = some (.cells #[.slice none 0 0, .slice none 0 0] 29 (0, 0))
  box : W.heap[w.heap.size + 1]? = some (.cells #[cu, cn] 29 (0, 0))
  A : Kd.S (Kd.slice 3 (Kd.int .i64)) 23 W w.heap.size (fun k => some k ≠ vn.ownBlock) vu u
  B : Kd.R (Kd.int .i64) 3 W w.heap.size (fun _ => True) vn nt
namespace MadeSt
variable {w W w1 : World} {cu cn vu vn : Value} {u : List (List Int)} {nt : List Int}
theorem up (G : MadeSt w W cu cn vu vn u nt) (h : Below W.heap.size W w1) : MadeSt w w1 cu cn vu vn u nt :=
 ⟨below_step G.below h, blk_below G.res h, blk_below G.box h, Kd.S_below G.A h, Kd.R_below G.B h⟩
theorem alloc (G : MadeSt w W cu cn vu vn u nt) (x : Obj) : MadeSt w (W.alloc x) cu cn vu vn u nt := G.up (below_alloc (Below.refl _ _) x)
theorem drew (G : MadeSt w W cu cn vu vn u nt) : MadeSt w W.drew cu cn vu vn u nt := G.up (below_drew (Below.refl _ _))
theorem drewN (G : MadeSt w W cu cn vu vn u nt) (n : Nat) : MadeSt w (W.drewN n) cu cn vu vn u nt := G.up (pw_below_drewN (Below.refl _ _) n)
theorem ge (G : MadeSt w W cu cn vu vn u nt) : w.heap.size ≤ w.heap.size + 1 := Nat.le_succ _
theorem setU (G : MadeSt w W cu cn vu vn u nt) (x : Value) : MadeSt w (W.setCell ⟨w.heap.size + 1, 0, none⟩ x) x cn vu vn u nt :=
 ⟨below_set G.below (Nat.le_succ _), blk_far G.res (by show w.heap.size ≠ w.heap.size + 1; omega) _, blk_put G.box 0 _ rfl, Kd.S_set G.A G.box (by decide) 0 _, Kd.R_set G.B G.box (by decide) 0 _⟩
theorem setN (G : MadeSt w W cu cn vu vn u nt) (x : Value) : MadeSt w (W.setCell ⟨w.heap.size + 1, 1, none⟩ x) cu x vu vn u nt :=
 ⟨below_set G.below (Nat.le_succ _), blk_far G.res (by show w.heap.size ≠ w.heap.size + 1; omega) _, blk_put G.box 1 _ rfl, Kd.S_set G.A G.box (by decide) 1 _, Kd.R_set G.B G.box (by decide) 1 _⟩
theorem grownU {v1 : Value} {u1 : List (List Int)} (G : MadeSt w W cu cn vu vn u nt) (hS : Kd.S (Kd.slice 3 (Kd.int .i64)) 23 w1 w.heap.size (fun k => some k ≠ vn.ownBlock) v1 u1) (hB : Below w.heap.size w w1)
 (hg : W.grownBy w1 vu.ownBlock) (hat : v1.ownBlock = vu.ownBlock ∨ ∃ b, v1.ownBlock = some b ∧ W.heap.size ≤ b) : MadeSt w w1 cu cn v1 vn u1 nt :=
 ⟨hB, blk_grown G.res hg (Kd.S_ne G.A G.res (by decide)), blk_grown G.box hg (Kd.S_ne G.A G.box (by decide)), hS,
  Kd.R_mono (Kd.R_after (ok := fun _ => True) (Kd.R_apart' G.B (Kd.S_typed G.A) (by decide)) hg hat) (fun _ _ => trivial)⟩
theorem grownN {v1 : Value} {n1 : List Int} (G : MadeSt w W cu cn vu vn u nt) (hR : Kd.R (Kd.int .i64) 3 w1 w.heap.size (fun _ => True) v1 n1) (hB : Below w.heap.size w w1)
 (hg : W.grownBy w1 vn.ownBlock) (hat : v1.ownBlock = vn.ownBlock ∨ ∃ b, v1.ownBlock = some b ∧ W.heap.size ≤ b) : MadeSt w w1 cu cn vu v1 u n1 :=
 ⟨hB, blk_grown G.res hg (Kd.R_ne G.B G.res (by decide)), blk_grown G.box hg (Kd.R_ne G.B G.box (by decide)),
  Kd.S_mono (Kd.S_after (ok := fun _ => True) (Kd.S_mono G.A (fun _ hk => ⟨trivial, hk⟩)) hg hat) (fun _ hk => hk.2), hR⟩
theorem cell0 (G : MadeSt w W cu cn vu vn u nt) : W.cell? ⟨w.heap.size + 1, 0, none⟩ = some cu := (blk_cell G.box 0).trans rfl
theorem cell1 (G : MadeSt w W cu cn vu vn u nt) : W.cell? ⟨w.heap.size + 1, 1, none⟩ = some cn := (blk_cell G.box 1).trans rfl
end MadeSt
def rowB (n : Nat) (U : Nat → Nat → Bool) (a b : Nat) : List Int := ((List.range b).map fun c => if U a c = true then 1 else 0) ++ List.replicate (n - b) 0
theorem rowB_len (n : Nat) (U : Nat → Nat → Bool) (a b : Nat) (h : b ≤ n) : (rowB n U a b).length = n := by simp [rowB]; omega
theorem rowB_zero (n : Nat) (U : Nat → Nat → Bool) (a : Nat) : rowB n U a 0 = List.replicate n 0 := by simp [rowB]
theorem rowB_full (n : Nat) (U : Nat → Nat → Bool) (a : Nat) : rowB n U a n = (List.range n).map fun c => if U a c = true then 1 else 0 := by simp [rowB]
theorem rowB_one (n : Nat) (U : Nat → Nat → Bool) (a b : Nat) (h : b < n) (hU : U a b = true) : (rowB n U a b).set b 1 = rowB n U a (b + 1) := by
 unfold rowB
 rw [List.set_append, if_neg (by simp), List.length_map, List.length_range, Nat.sub_self, show n - b = (n - (b + 1)) + 1 by omega, List.replicate_succ, List.set_cons_zero, List.range_succ, List.map_append, List.append_assoc]
 simp [hU]
theorem rowB_no (n : Nat) (U : Nat → Nat → Bool) (a b : Nat) (h : b < n) (hU : U a b = false) : rowB n U a b = rowB n U a (b + 1) := by
 unfold rowB
 rw [show n - b = (n - (b + 1)) + 1 by omega, List.replicate_succ, List.range_succ, List.map_append, List.append_assoc]
 simp [hU]
def rowsB (n : Nat) (U : Nat → Nat → Bool) (i : Nat) : List (List Int) := (List.range i).map fun a => (List.range n).map fun b => if U a b = true then 1 else 0
theorem rowsB_succ (n : Nat) (U : Nat → Nat → Bool) (i : Nat) : rowsB n U (i + 1) = rowsB n U i ++ [(List.range n).map fun b => if U i b = true then 1 else 0] := by simp [rowsB, List.range_succ]
theorem rowsB_len (n : Nat) (U : Nat → Nat → Bool) (i : Nat) : (rowsB n U i).length = i := by simp [rowsB]
theorem madeN_succ (N : Nat → Int) (i : Nat) : madeN (i + 1) N = madeN i N ++ [N i] := by simp [madeN, List.range_succ]
theorem madeN_len (N : Nat → Int) (i : Nat) : (madeN i N).length = i := by simp [madeN]
set_option maxHeartbeats 8000000 in
set_option maxRecDepth 100000 in
theorem made_calls {w : World} (n : Nat) (hn : n ≤ 12) (k1 k2 : Nat) (cap1 cap2 : Array Value) (hk1 : Enters Try.prog k1) (hk2 : Enters Try.prog k2) (U : Nat → Nat → Bool) (N : Nat → Int)
 (h1 : ∀ w' (a b : Nat), Below w.heap.size w w' → a < n → b < n → Calls Try.prog k1 (#[.int .i64 a, .int .i64 b] ++ cap1) w' fun e w2 => e = .returned (.bool (U a b)) ∧ Drawn0 w' w2)
 (h2 : ∀ w' (a : Nat), Below w.heap.size w w' → a < n → Calls Try.prog k2 (#[.int .i64 a] ++ cap2) w' fun e w2 => e = .returned (.int .i64 (N a)) ∧ Drawn0 w' w2) :
 Calls Try.prog 74 #[.int .i64 n, .func (.func k1) #[] cap1, .func (.func k2) #[] cap2] w fun e w' => ∃ v0_ v1_ : Value, e = .returned (.agg #[v0_, v1_]) ∧ Kd.S (Kd.slice 3 (Kd.int .i64)) 23 w' w.heap.size (fun k_ => some k_ ≠ (v1_ : Value).ownBlock) v0_ (madeU n U) ∧ Kd.R (Kd.int .i64) 3 w' w.heap.size (fun _ => True) v1_ (madeN n N) ∧ Below w.heap.size w w' := by
 have eg1 : ∀ (args : Array Value) (w : World), (callFunc k1 args).run Try.prog w = .ok (.enter k1 args) w := hk1
 have eg2 : ∀ (args : Array Value) (w : World), (callFunc k2 args).run Try.prog w = .ok (.enter k2 args) w := hk2
 have hul := Try.underlying29
 have H1 := ak h1
 have H2 := ak h2
 clear h1 h2 hk1 hk2
 go_enter Try.func74, Try.ntmps74
 go_wp2
 go_loopw [12] (fun a0 wr => ∃ (i : Nat) (vu vn : Value), i ≤ n ∧ a0 = .int .i64 i ∧ Aside0 (MadeSt w wr vu vn vu vn (rowsB n U i) (madeN i N))) (fun a0 _ => n - (intOf a0).toNat)
 case atStart => exact ⟨0, .slice none 0 0, .slice none 0 0, Nat.zero_le _, rfl, ⟨⟨below_alloc (below_alloc (Below.refl _ _) _) _, blk_alloc (blk_new w _) _, (by have := blk_new (w.alloc (.cells #[.slice none 0 0, .slice none 0 0] 29)) (.cells #[.slice none 0 0, .slice none 0 0] 29); rw [show (w.alloc (.cells #[.slice none 0 0, .slice none 0 0] 29)).heap.size = w.heap.size + 1 by simp] at this; exact this), Kd.S_nil _ _ _ _ _, Kd.R_nil _ _ _ _ _⟩⟩⟩
 case round =>
  obtain ⟨i, vu, vn, hi, rfl, G⟩ := hrel
  by_cases hlt : i < n
  ·
   obtain ⟨W1, hW1⟩ : ∃ W1, W1 = wr := ⟨_, rfl⟩
   subst hW1
   go_wp2_with ((with_reducible refine gate_dst (N := 16) rfl ?_); refine Kd.R_make (Kd.int .i64) _ 3 rfl (N := 16) rfl 23 _ _ rfl (n : Int) rfl rfl Try.underlying23 (.int .i64 0) 8 info3 rfl (by decide) (by omega) 0 (ok := fun _ => True) (okp := fun _ => True) rfl (fun _ hk => hk) trivial (by omega) (by omega) (Below.refl _ _) (Nat.le_refl _) ?_; intro v9 w4 ho hb hg_ hnew_; clear hg_ hnew_; rw [Int.toNat_natCast] at ho; have HO := ak ho; have HB := ak hb; clear ho hb)
   go_loopw [18] (fun a1 wr => ∃ (b : Nat), b ≤ n ∧ a1 = .int .i64 b ∧ Aside0 (Kd.R (Kd.int .i64) 3 wr W1.heap.size (fun _ => True) v9 (rowB n U i b)) ∧ Aside0 (Below W1.heap.size W1 wr)) (fun a1 _ => n - (intOf a1).toNat)
   case atStart => exact ⟨0, Nat.zero_le _, rfl, ⟨(by rw [rowB_zero]; exact HO.out)⟩, HB⟩
   case round =>
    clear HO HB
    obtain ⟨b, hb, rfl, HO, HB⟩ := hrel
    by_cases hbt : b < n
    ·
     cases hU : U i b with
     | true =>
      have HU := ak hU
      clear hU
      have HL := ak (rowB_len n U i b hb)
      obtain ⟨g9, c9, rfl, hg9, hl9, cl9, hc9⟩ := Kd.R_form HO.out (by rw [HL.out]; omega)
      obtain ⟨hx9, hf9⟩ := Kd.R_celln 0 HO.out (b : Int) (by omega) (by rw [HL.out]; omega)
      rw [Int.toNat_natCast] at hx9 hf9
      generalize rdOf 0 (rowB n U i b) (b : Int) = x9 at hx9
      rw [HL.out] at HO ⊢
      have a2 := ak hg9
      clear hc9 cl9 hg9 hl9
      go_wp2_with (go_at_fn k1; (with_reducible refine (H1.out _ i b (below_step G.out.below HB.out) hlt hbt).mono ?_); rw [HU.out]; rintro e w5 ⟨rfl, hD⟩; obtain ⟨nd, rfl⟩ := hD)
      go_roundw
      case rel => exact ⟨b + 1, (by omega), (by go_num), ⟨(by have := (Kd.R_putg (Kd.R_drewN HO.out nd) (b : Int) 1).1; rw [Int.toNat_natCast, rowB_one n U i b hbt HU.out] at this; exact this)⟩, ⟨below_set (pw_below_drewN HB.out nd) a2.out⟩⟩
      case measure => simp [intOf]; omega
     | false =>
      have HU := ak hU
      clear hU
      go_wp2_with (go_at_fn k1; (with_reducible refine (H1.out _ i b (below_step G.out.below HB.out) hlt hbt).mono ?_); rw [HU.out]; rintro e w5 ⟨rfl, hD⟩; obtain ⟨nd, rfl⟩ := hD)
      go_roundw
      case rel => exact ⟨b + 1, (by omega), (by go_num), ⟨(by rw [← rowB_no n U i b hbt HU.out]; exact Kd.R_drewN HO.out nd)⟩, ⟨pw_below_drewN HB.out nd⟩⟩
      case measure => simp [intOf]; omega
    have eb : n = b := by omega
    subst eb
    rw [rowB_full] at HO
    have GA := ak (G.out.up HB.out)
    have hq0 := GA.out.cell0
    obtain ⟨Ax, cx, ex⟩ := Kd.R_slice HO.out
    rw [List.length_map, List.length_range] at ex
    subst ex
    generalize hrow : ((List.range n).map fun c => if U i c = true then (1 : Int) else 0) = row at HO
    have HROW := ak hrow
    clear hrow
    have HR := HO
    clear HO
    go_wp2_with (first
     | ((with_reducible refine gate_builtin (b := .append) (xs := #[.tmp 30, .tmp 32]) rfl ?_); at_builtin; refine Kd.S_append (Kd.slice 3 (Kd.int .i64)) (w0 := w) w.heap.size rfl (.tmp 30) (.tmp 32) 22 23 (.slice none 0 0) 24 rfl Try.underlying22 info23 rfl (by decide) (by omega) vu (rowsB n U i) row [.slice Ax n cx] (fun k => some k ≠ vn.ownBlock) (fun k => some k = (Value.slice Ax n cx).ownBlock) rfl rfl ?aP ?aK ?aF ?aO ?aB ?aS ?aL ?_; (case aP => exact Kd.M_row (Kd.R_mono (Kd.R_tight rfl (Kd.R_lower HR.out (below_size G.out.below))) (fun _ h_ => h_))); (case aK => exact fun k hk => ⟨fun e => by have h1 := Kd.R_base HR.out k hk.symm; have h2 := Kd.R_lt G.out.B k e.symm; omega, fun e => by have h1 := Kd.R_base HR.out k hk.symm; have h2 := Kd.S_lt G.out.A k e.symm; omega⟩); (case aF => exact fun k hk e => by have h2 := Kd.R_lt GA.out.B k e.symm; omega); (case aO => exact Kd.S_mono (Kd.S_below (Kd.S_bound G.out.A) HB.out) (fun k hk => ⟨hk.1, fun e => by have h1 := Kd.R_base HR.out k e.symm; have h2 := hk.2.2.1; omega⟩)); (case aB => exact GA.out.below); (case aS => exact below_size GA.out.below); (case aL => rw [rowsB_len]; omega); intro v1 w4 ho hb_ hg hat; have GB := ak (GA.out.grownU ho hb_ hg hat); rw [← HROW.out, ← rowsB_succ] at GB; clear ho hb_ hg hat GA hq0; obtain ⟨A4, c4, e4⟩ := Kd.S_slice GB.out.A; subst e4; have hq1 := GB.out.cell0; have hz1 := blk_frozen GB.out.box 0))
    have GC := ak (GB.out.setU (.slice A4 (rowsB n U (i + 1)).length c4))
    clear GB hq1 hz1 HR HROW G
    generalize w4.setCell ⟨w.heap.size + 1, 0, none⟩ (.slice A4 (rowsB n U (i + 1)).length c4) = w5 at GC ⊢
    have hs1 := GC.out.cell1
    refine start_ (n := 9) (S := fun w' => w'.cell? ⟨w.heap.size + 1, 1, none⟩ = some vn) (ds := [8]) (bA 9 0) (by kernel_rfl) rfl rfl hs1 (fun hHeld => ?_)
    have GD := ak GC.out.drew
    clear GC hs1
    generalize w5.drew = wd at GD hHeld ⊢
    refine pu_ (i := 0) (N := some 35) (bA 9 1) ?_
    refine tk_ (i := 1) (N := some 36) (bA 9 3) ?_
    refine pu_ (i := 2) (N := some 37) (bA 9 7) ?_
    refine pu_ (i := 3) (N := some 38) (bA 9 15) ?_
    refine one_ (i := 4) (N := some 39) (bA 9 31) rfl rfl (by kernel_rfl) (by decide) (fun K hK => ?_)
    go_simp
    go_wp2_with (go_at_fn k2; (with_reducible refine (H2.out _ i GD.out.below hlt).mono ?_); rintro e w' ⟨rfl, hD⟩; obtain ⟨nd, rfl⟩ := hD)
    refine hK.out _ _ hHeld (fun hHeld => ?_)
    clear hK K
    have GE := ak (GD.out.drewN nd)
    clear GD
    generalize wd.drewN nd = we at GE hHeld ⊢
    refine one_ (i := 5) (N := some 40) (bA 9 63) rfl rfl (by kernel_rfl) (by decide) (fun K hK => ?_)
    refine value_ (w1 := ?_) (v := ?_) (by rfl) rfl ?_ ?_
    rotate_left 2
    ·
     go_simp
     constructor
     ·
      rfl
     rfl
    refine hK.out _ _ (GE.out.alloc _).cell1 (fun hHeld => ?_)
    clear hK K
    refine no_ (N := some 40) ?_
    refine one_ (i := 6) (N := some 41) (bA 9 127) rfl rfl (by kernel_rfl) (by decide) (fun K hK => ?_)
    refine Kd.R_append_step (Kd.int .i64) (w0 := w) w.heap.size (by rfl) (.tmp 36) (.tmp 40) 23 3 (.int .i64 0) 8 rfl Try.underlying23 info3 rfl (by decide) (by omega) vn (madeN i N) (N i) [.int .i64 (N i)] (fun _ => True) (fun _ => False) rfl rfl ?aP (fun _ hk => hk.elim) ?aF ?aO ?aB ?aS ?aL ?_
    case aP => exact rfl
    case aF => exact (fun _ _ => trivial)
    case aO => exact GE.out.B
    case aB => exact GE.out.below
    case aS => exact below_size GE.out.below
    case aL => rw [madeN_len]; omega
    intro v2 w7 ho hb hg hat
    have GF := ak (GE.out.grownN ho hb hg hat)
    clear GE ho hb hg hat
    rw [← madeN_succ] at GF
    obtain ⟨A6, c6, e6⟩ := Kd.R_slice GF.out.B
    subst e6
    refine hK.out _ _ GF.out.cell1 (fun hHeld => ?_)
    clear hK K
    refine no_ (N := some 41) ?_
    refine pu_ (i := 7) (N := some 42) (bA 9 255) ?_
    have hs2 := GF.out.cell1
    have hz2 := blk_frozen GF.out.box 1
    refine last_ (i := 8) (N := none) (bA 9 511) rfl rfl (by kernel_rfl) (by decide) (fun K hK => ?_)
    refine skip_ (w1 := ?_) (by rfl) rfl ?_ ?_
    rotate_left
    ·
     go_simp
     rfl
    refine hK.out _ _ ?_
    clear hK K
    refine done_ (by kernel_rfl) ?_
    go_wp2
    go_roundw
    case rel => exact ⟨i + 1, _, _, (by omega), (by go_num), ⟨GF.out.setN _⟩⟩
    case measure => simp [intOf]; omega
  have ei : n = i := by omega
  subst ei
  have hq0 := G.out.cell0
  have hq1 := G.out.cell1
  have hz0 := blk_frozen G.out.res 0
  have hz1 := blk_frozen G.out.res 1
  have hr0 : wr.cell? ⟨w.heap.size, 0, none⟩ = some (.slice none 0 0) := (blk_cell G.out.res 0).trans rfl
  have hr1 : wr.cell? ⟨w.heap.size, 1, none⟩ = some (.slice none 0 0) := (blk_cell G.out.res 1).trans rfl
  obtain ⟨Au, cu, eu⟩ := Kd.S_slice G.out.A
  obtain ⟨An, cn, en⟩ := Kd.R_slice G.out.B
  subst eu
  subst en
  go_wp2
  refine bodyPost_ret (results_cell_row rfl _ _ w.heap.size 29 #[.slice Au (rowsB n U n).length cu, .slice An (madeN n N).length cn] (0, 0) _ rfl (blk_put (cs := #[.slice Au (rowsB n U n).length cu, .slice none 0 0]) (blk_put (cs := #[.slice none 0 0, .slice none 0 0]) G.out.res 0 _ rfl) 1 _ rfl) hul rfl (by kernel_rfl)) rfl ?_
  exact ⟨_, _, rfl, Kd.S_set (Kd.S_set G.out.A G.out.res (by decide) 0 _) (blk_put G.out.res 0 _ rfl) (by decide) 1 _, Kd.R_set (Kd.R_set G.out.B G.out.res (by decide) 0 _) (blk_put G.out.res 0 _ rfl) (by decide) 1 _, below_set (below_set G.out.below (Nat.le_refl _)) (Nat.le_refl _)⟩
theorem made_int {w : World} (n : Nat) (m : Int) (hm : m = n) (hn : n ≤ 12) (k1 k2 : Nat) (cap1 cap2 : Array Value) (hk1 : Enters Try.prog k1) (hk2 : Enters Try.prog k2) (U : Nat → Nat → Bool) (N : Nat → Int)
 (h1 : ∀ w' (a b : Nat), Below w.heap.size w w' → a < n → b < n → Calls Try.prog k1 (#[.int .i64 a, .int .i64 b] ++ cap1) w' fun e w2 => e = .returned (.bool (U a b)) ∧ Drawn0 w' w2)
 (h2 : ∀ w' (a : Nat), Below w.heap.size w w' → a < n → Calls Try.prog k2 (#[.int .i64 a] ++ cap2) w' fun e w2 => e = .returned (.int .i64 (N a)) ∧ Drawn0 w' w2) :
 Calls Try.prog 74 #[.int .i64 m, .func (.func k1) #[] cap1, .func (.func k2) #[] cap2] w fun e w' => ∃ v0_ v1_ : Value, e = .returned (.agg #[v0_, v1_]) ∧ Kd.S (Kd.slice 3 (Kd.int .i64)) 23 w' w.heap.size (fun k_ => some k_ ≠ (v1_ : Value).ownBlock) v0_ (madeU n U) ∧ Kd.R (Kd.int .i64) 3 w' w.heap.size (fun _ => True) v1_ (madeN n N) ∧ Below w.heap.size w w' := by
 subst hm
 exact made_calls n hn k1 k2 cap1 cap2 hk1 hk2 U N h1 h2
end Go.Proofs.Ytlkibgccgkhdmaa.P

