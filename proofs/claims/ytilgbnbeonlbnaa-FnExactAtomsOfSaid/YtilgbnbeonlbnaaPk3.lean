/- 13 texts of this seat joined: walks, and the laws of what they compute. -/
import Derived.Test.YtilgbnbeonlbnaaPk2
import Derived.Deep.Matrix
import Derived.SizedLaws
namespace Go.Proofs.Ytilgbnbeonlbnaa.Q
open Go.RowKit Go.ChangeShapes Go.WideShapes Go.Deep Go.Proofs.YtilgbnbeonlbnaaW.PrintWords
set_option linter.unusedVariables false

def IsRows (W : World) (a : Option Addr) (len cap : Nat) : Prop :=
  (a = none ∧ len = 0 ∧ cap = 0) ∨ ∃ (x : Addr) (A : Nat → Option Addr) (L C : Nat → Nat) (Z : Nat → List Int), a = some x ∧ len ≤ cap ∧ cap ≤ maxLen ∧
    ∀ r, r < cap → W.cell? (x.add r) = some (.slice (A r) (L r) (C r)) ∧ L r ≤ C r ∧ C r ≤ maxLen ∧ (Z r).length = C r ∧ (A r = none → C r = 0) ∧
      ∀ a', A r = some a' → ∀ c, c < C r → W.cell? (a'.add c) = some (.int .i64 ((Z r).getD c 0))
theorem IsRows.reads {W : World} {a : Option Addr} {len cap : Nat} (h : IsRows W a len cap) (e : Nat) :
    ∃ u : List (List Int), u.length = len ∧ len ≤ cap ∧ Kd.C (Kd.slice e (Kd.int .i64)) W a u.length u ∧ ∀ i (k : i < u.length), u[i].length ≤ maxLen := by
  rcases h with ⟨rfl, rfl, rfl⟩ | ⟨x, A, L, C, Z, rfl, hl, hm, hr⟩
  · exact ⟨[], rfl, Nat.le_refl _, ⟨rfl, by simp, fun h => absurd h (Nat.lt_irrefl 0)⟩, fun i k => absurd k (by simp)⟩
  · refine ⟨(List.range len).map fun r => (Z r).take (L r), by simp, hl, ⟨rfl, ?_, fun _ => ⟨x, rfl, fun j p hj => ?_⟩⟩, fun i k => ?_⟩
    · simp only [List.length_map, List.length_range]
      exact Nat.le_trans hl (by unfold maxLen at hm; omega)
    · rw [List.getElem?_map] at hj
      have hjl : j < len := by
        rcases Nat.lt_or_ge j len with z | z
        · exact z
        · rw [List.getElem?_eq_none (by simpa using z)] at hj
          simp at hj
      rw [List.getElem?_range hjl] at hj
      have hp : (Z j).take (L j) = p := by simpa using hj
      obtain ⟨hc, h1, h2, h3, h4, h5⟩ := hr j (by omega)
      have hlen : p.length = L j := by rw [← hp, List.length_take]; omega
      refine ⟨[.slice (A j) (L j) (C j)], rfl, ⟨A j, C j, by rw [hlen], by rw [hlen]; exact h1, ?_⟩, fun i w hw => ?_⟩
      · rw [hlen]
        have hn : L j ≤ 9223372036854775807 := by unfold maxLen at h2; omega
        refine Kd.C_of_reads (d := (0 : Int)) (h1 := fun _ => rfl) ⟨hlen, hn, fun h0 => ?_⟩
        cases ha : A j with
        | none => have := h4 ha; omega
        | some a' =>
          refine ⟨a', rfl, fun c hcl => ?_⟩
          have := h5 a' ha c (by omega)
          rw [this, ← hp, List.getD_eq_getElem?_getD, List.getD_eq_getElem?_getD, List.getElem?_take_of_lt hcl]
      · cases i with
        | zero =>
          have : w = .slice (A j) (L j) (C j) := by simpa using hw.symm
          rw [this]
          simpa [Kd.slice] using hc
        | succ i => simp at hw
    · simp only [List.length_map, List.length_range] at k
      rw [List.getElem_map, List.getElem_range, List.length_take]
      obtain ⟨_, h1, h2, h3, _⟩ := hr i (by omega)
      omega
theorem rows_of {H : Type} {enc : TypeId × Value → H} {P : Program} {W : World} {base : Nat} {t e q : TypeId} {fuel : Nat} {a : Option Addr} {len cap : Nat} {x : DataW H × List MemPlace}
    (ht : P.underlying t = some (.slice e)) (he : P.underlying e = some (.slice q)) (hq : P.underlying q = some (.int .i64)) (ce : P.cellsOf e = 1) (cq : P.cellsOf q = 1)
    (h : DataW.trod enc P W base (fun _ => true) true fuel t [.slice a len cap] = some x) : IsRows W a len cap := by
  rcases open_int_rows ht he hq ce cq h with ⟨hcs, _⟩ | ⟨x, l, c, A, L, C, Z, hcs, _, hl, hm, _, hr⟩
  · simp only [List.cons.injEq, Value.slice.injEq, and_true] at hcs
    exact .inl ⟨hcs.1, hcs.2.1, hcs.2.2⟩
  · simp only [List.cons.injEq, Value.slice.injEq, and_true] at hcs
    obtain ⟨rfl, rfl, rfl⟩ := hcs
    refine .inr ⟨x, A, L, C, Z, rfl, hl, hm, fun r k => ?_⟩
    obtain ⟨h1, h2, h3, h4, _, h6, h7⟩ := hr r k
    exact ⟨h1, h2, h3, h4, h6, fun a' ha c hc => (h7 a' ha).2 c hc⟩
theorem rows_sized {H : Type} {enc : TypeId × Value → H} {P : Program} {W : World} {base : Nat} {t e q : TypeId} {a : Option Addr} {len cap : Nat} {d : DataW H} {ps : List MemPlace} {ts : List TypeId} {ds : List (DataW H)} {j : Nat}
    (hsz : (DataW.weightsEach P ts ds).all (· ≤ reachBytes) = true) (hj : ts[j]? = some t) (hd : ds[j]? = some d) (ht : P.underlying t = some (.slice e)) (he : P.underlying e = some (.slice q)) (hq : P.underlying q = some (.int .i64)) (ce : P.cellsOf e = 1) (cq : P.cellsOf q = 1)
    (hB : P.bytesOf e = 24) (h : DataW.Trod enc P W base (fun _ => true) true t (.slice a len cap) d ps) : len * 24 ≤ 140737488351232 := by
  obtain ⟨fuel, hf⟩ := h
  rcases open_int_rows ht he hq ce cq hf with ⟨hcs, _⟩ | ⟨x, l, c, A, L, C, Z, hcs, _, hl, hm, hx, hr⟩
  · simp [Value.cells] at hcs
    omega
  · simp [Value.cells] at hcs
    obtain ⟨rfl, rfl, rfl⟩ := hcs
    obtain ⟨hx, _⟩ := Prod.mk.inj hx
    subst hx
    have z := sized_slice hsz hj hd ht
    rw [hB] at z
    simp only [List.length_map, List.length_range] at z
    have z2 : len * 24 ≤ (len + (cap - len)) * 24 := Nat.mul_le_mul_right _ (by omega)
    exact Nat.le_trans z2 z
end Go.Proofs.Ytilgbnbeonlbnaa.Q


namespace Go.Proofs.Ytilgbnbeonlbnaa.P
open Go.RowKit Go.Proofs.YtilgbnbeonlbnaaW.PrintWords Go.Proofs.YtilgbnbeonlbnaaW.PrintLast Go.Proofs.YtilgbnbeonlbnaaW.PrintMore
set_option linter.unusedVariables false
set_option linter.unusedSimpArgs false
structure Res where
  At : Nat → World → Nat → Nat → Prop
  mv : ∀ {B : Nat} {W W1 : World} {b e : Nat} {ok : Nat → Prop}, At B W b e → Kept W W1 ok → (∀ k, ok k → k < b ∨ e ≤ k) → At B W1 b e
  up : ∀ {B : Nat} {W : World} {b e e' : Nat}, At B W b e → e ≤ e' → At B W b e'
namespace Res
def box (g : Nat) (cs : Array Value) (t : Nat) : Res where
  At := fun _ W b e => (b ≤ g ∧ g < e) ∧ W.heap[g]? = some (.cells cs t (0, 0))
  mv := fun h hk hn => ⟨h.1, blk_kept h.2 hk (fun q => by have := hn g q; have := h.1; omega)⟩
  up := fun h he => ⟨⟨h.1.1, Nat.lt_of_lt_of_le h.1.2 he⟩, h.2⟩
def rows (v : Value) (u : List (List Int)) : Res where
  At := fun B W b e => Kd.S (Kd.slice 3 (Kd.int .i64)) 32 W B (fun k => b ≤ k ∧ k < e) v u
  mv := fun h hk hn => Kd.S_kept h hk (fun k q r => by have := hn k r; omega)
  up := fun h he => Kd.S_mono h (fun k q => ⟨q.1, Nat.lt_of_lt_of_le q.2 he⟩)
def ints (v : Value) (n : List Int) : Res where
  At := fun B W b e => Kd.R (Kd.int .i64) 3 W B (fun k => b ≤ k ∧ k < e) v n
  mv := fun h hk hn => Kd.R_kept h hk (fun k q r => by have := hn k r; omega)
  up := fun h he => Kd.R_mono h (fun k q => ⟨q.1, Nat.lt_of_lt_of_le q.2 he⟩)
end Res
def LiveTo (B : Nat) (W : World) : Nat → List Res → Prop
  | e, [] => B ≤ e
  | e, r :: rs => ∃ b, b ≤ e ∧ r.At B W b e ∧ LiveTo B W b rs
namespace LiveTo
variable {B : Nat} {W W1 : World} {e e' : Nat} {r : Res} {rs post : List Res}
theorem up (h : LiveTo B W e rs) (he : e ≤ e') : LiveTo B W e' rs := by
  cases rs with
  | nil => exact Nat.le_trans h he
  | cons r rs =>
    obtain ⟨b, hb, hr, hs⟩ := h
    exact ⟨b, Nat.le_trans hb he, r.up hr he, hs⟩
theorem ge (h : LiveTo B W e rs) : B ≤ e := by
  induction rs generalizing e with
  | nil => exact h
  | cons r rs ih =>
    obtain ⟨b, hb, _, hs⟩ := h
    exact Nat.le_trans (ih hs) hb
theorem mv {ok : Nat → Prop} (h : LiveTo B W e rs) (hk : Kept W W1 ok) (hn : ∀ k, ok k → e ≤ k) : LiveTo B W1 e rs := by
  induction rs generalizing e with
  | nil => exact h
  | cons r rs ih =>
    obtain ⟨b, hb, hr, hs⟩ := h
    exact ⟨b, hb, r.mv hr hk (fun k q => .inr (hn k q)), ih hs (fun k q => Nat.le_trans hb (hn k q))⟩
theorem at_ (pre : List Res) (h : LiveTo B W e (pre ++ r :: post)) : ∃ b e1, e1 ≤ e ∧ B ≤ b ∧ r.At B W b e1 ∧ ∀ W1 r', Kept W W1 (fun k => b ≤ k ∧ k < e1) → r'.At B W1 b e1 → LiveTo B W1 e (pre ++ r' :: post) := by
  induction pre generalizing e with
  | nil =>
    obtain ⟨b, hb, hr, hs⟩ := h
    exact ⟨b, e, Nat.le_refl _, hs.ge, hr, fun W1 r' hk hr' => ⟨b, hb, hr', hs.mv hk (fun k q => q.1)⟩⟩
  | cons x pre ih =>
    obtain ⟨b0, hb, hx, hs⟩ := h
    obtain ⟨b, e1, he, hB, hr, hput⟩ := ih hs
    exact ⟨b, e1, Nat.le_trans he hb, hB, hr, fun W1 r' hk hr' => ⟨b0, hb, x.mv hx hk (fun k q => .inl (Nat.lt_of_lt_of_le q.2 he)), hput W1 r' hk hr'⟩⟩
end LiveTo
structure Live (w W : World) (rs : List Res) : Prop where
  below : Below w.heap.size w W
  its : LiveTo w.heap.size W W.heap.size rs
namespace Live
variable {w W W1 : World} {r : Res} {rs post : List Res} {g t : Nat} {cs : Array Value} {v v0 v1 : Value} {u : List (List Int)} {n : List Int} {ok : Nat → Prop}
theorem start (w : World) : Live w w [] := ⟨Below.refl _ _, Nat.le_refl _⟩
theorem mv_ (h : Live w W rs) (hb : Below W.heap.size W W1) : LiveTo w.heap.size W1 W.heap.size rs := h.its.mv (Kept.of_below hb (fun _ => False)) (fun _ q => q.elim)
theorem step (h : Live w W rs) (hb : Below W.heap.size W W1) : Live w W1 rs := ⟨below_step h.below hb, (h.mv_ hb).up hb.size⟩
theorem drewN (h : Live w W rs) (m : Nat) : Live w (W.drewN m) rs := h.step (pw_below_drewN (Below.refl _ _) m)
theorem drew (h : Live w W rs) : Live w W.drew rs := h.step (below_drew (Below.refl _ _))
theorem box (h : Live w W rs) (hb : Below W.heap.size W W1) (hg : g = W.heap.size) (hc : W1.heap[g]? = some (.cells cs t (0, 0))) : Live w W1 (.box g cs t :: rs) :=
  ⟨below_step h.below hb, W.heap.size, hb.size, ⟨⟨Nat.le_of_eq hg.symm, blk_lt hc⟩, hc⟩, h.mv_ hb⟩
theorem rows (h : Live w W rs) (hs : Kd.S (Kd.slice 3 (Kd.int .i64)) 32 W1 W.heap.size ok v u) (hb : Below W.heap.size W W1) : Live w W1 (.rows v u :: rs) :=
  ⟨below_step h.below hb, W.heap.size, hb.size, Kd.S_mono (Kd.S_lower (Kd.S_bound hs) h.its.ge) (fun k q => ⟨q.2.1, q.2.2.1⟩), h.mv_ hb⟩
theorem ints (h : Live w W rs) (hs : Kd.R (Kd.int .i64) 3 W1 W.heap.size ok v n) (hb : Below W.heap.size W W1) : Live w W1 (.ints v n :: rs) :=
  ⟨below_step h.below hb, W.heap.size, hb.size, Kd.R_mono (Kd.R_lower (Kd.R_bound hs) h.its.ge) (fun k q => ⟨q.2.1, q.2.2.1⟩), h.mv_ hb⟩
theorem at_ (pre : List Res) (h : Live w W (pre ++ r :: post)) : ∃ b e, w.heap.size ≤ b ∧ e ≤ W.heap.size ∧ r.At w.heap.size W b e ∧ ∀ W1 r', Below w.heap.size w W1 → Kept W W1 (fun k => b ≤ k ∧ k < e) → r'.At w.heap.size W1 b e → Live w W1 (pre ++ r' :: post) := by
  obtain ⟨b, e, he, hb, hr, hput⟩ := h.its.at_ pre
  exact ⟨b, e, hb, he, hr, fun W1 r' h1 hk hr' => ⟨h1, (hput W1 r' hk hr').up hk.1⟩⟩
theorem put (pre : List Res) (h : Live w W (pre ++ .box g cs t :: post)) (j : Nat) (x : Value) {cs' : Array Value} (hc : cs.setIfInBounds j x = cs') : Live w (W.setCell ⟨g, j, none⟩ x) (pre ++ .box g cs' t :: post) := by
  obtain ⟨b, e, hb, he, hr, hput⟩ := h.at_ pre
  exact hput _ _ (below_set h.below (Nat.le_trans hb hr.1.1)) ((Kept.refl W _).setCell (.inl hr.1) x) ⟨hr.1, blk_put hr.2 j x hc⟩
theorem set0 {a b x : Value} (h : Live w W (.box g #[a, b] t :: post)) : Live w (W.setCell ⟨g, 0, none⟩ x) (.box g #[x, b] t :: post) := put [] h 0 x rfl
theorem set1 {a b x : Value} (h : Live w W (.box g #[a, b] t :: post)) : Live w (W.setCell ⟨g, 1, none⟩ x) (.box g #[a, x] t :: post) := put [] h 1 x rfl
theorem cells (pre : List Res) (h : Live w W (pre ++ .box g cs t :: post)) : W.heap[g]? = some (.cells cs t (0, 0)) := by
  obtain ⟨b, e, hb, he, hr, hput⟩ := h.at_ pre
  exact hr.2
theorem cell (pre : List Res) (h : Live w W (pre ++ .box g cs t :: post)) (j : Nat) {x : Value} (hx : cs[j]? = some x) : W.cell? ⟨g, j, none⟩ = some x := (blk_cell (cells pre h) j).trans hx
variable {A A1 : Option Addr} {c c1 m m1 : Nat}
theorem rowsAt (pre : List Res) (h : Live w W (pre ++ .rows v u :: post)) : ∃ b e, (w.heap.size ≤ b ∧ e ≤ W.heap.size) ∧ Kd.S (Kd.slice 3 (Kd.int .i64)) 32 W w.heap.size (fun k => b ≤ k ∧ k < e) v u ∧
    ∀ W1 u', Below w.heap.size w W1 → Kept W W1 (fun k => b ≤ k ∧ k < e) → Kd.S (Kd.slice 3 (Kd.int .i64)) 32 W1 w.heap.size (fun k => b ≤ k ∧ k < e) v u' → Live w W1 (pre ++ .rows v u' :: post) := by
  obtain ⟨b, e, hb, he, hr, hput⟩ := h.at_ pre
  exact ⟨b, e, ⟨hb, he⟩, hr, fun W1 u' h1 hk hs => hput W1 (.rows v u') h1 hk hs⟩
theorem intsAt (pre : List Res) (h : Live w W (pre ++ .ints v n :: post)) : ∃ b e, (w.heap.size ≤ b ∧ e ≤ W.heap.size) ∧ Kd.R (Kd.int .i64) 3 W w.heap.size (fun k => b ≤ k ∧ k < e) v n ∧
    ∀ W1 n', Below w.heap.size w W1 → Kept W W1 (fun k => b ≤ k ∧ k < e) → Kd.R (Kd.int .i64) 3 W1 w.heap.size (fun k => b ≤ k ∧ k < e) v n' → Live w W1 (pre ++ .ints v n' :: post) := by
  obtain ⟨b, e, hb, he, hr, hput⟩ := h.at_ pre
  exact ⟨b, e, ⟨hb, he⟩, hr, fun W1 n' h1 hk hs => hput W1 (.ints v n') h1 hk hs⟩
theorem rC_ {B : Nat} (h : Kd.S (Kd.slice 3 (Kd.int .i64)) 32 W B ok (.slice A m c) u) : Kd.C (Kd.slice 3 (Kd.int .i64)) W A m u ∧ m ≤ c := by
  obtain ⟨h1, h2, h3⟩ := Kd.S_reads' h
  exact ⟨by rw [h1]; exact h3, h2⟩
theorem iC_ {B : Nat} (h : Kd.R (Kd.int .i64) 3 W B ok (.slice A m c) n) : Kd.C (Kd.int .i64) W A m n ∧ m ≤ c := by
  obtain ⟨h1, h2, h3⟩ := Kd.R_reads' h
  exact ⟨by rw [h1]; exact h3, h2⟩
theorem rowsC (pre : List Res) (h : Live w W (pre ++ .rows (.slice A m c) u :: post)) : Kd.C (Kd.slice 3 (Kd.int .i64)) W A m u ∧ m ≤ c := by
  obtain ⟨b, e, hb, hr, hput⟩ := h.rowsAt pre
  exact rC_ hr
theorem intsC (pre : List Res) (h : Live w W (pre ++ .ints (.slice A m c) n :: post)) : Kd.C (Kd.int .i64) W A m n ∧ m ≤ c := by
  obtain ⟨b, e, hb, hr, hput⟩ := h.intsAt pre
  exact iC_ hr
theorem came {α : Type} {d : Kd α} {xs : List α} (h : Live w W rs) (hc : d.C w A m xs) : d.C W A m xs := Kd.C_below hc h.below
end Live
theorem dB {w w' : World} (h : Drawn0 w w') : Below w.heap.size w w' := by
  obtain ⟨m, rfl⟩ := h
  exact pw_below_drewN (Below.refl _ _) m
theorem arm_ {P : Program} {f : FuncId} {args : Array Value} {K : Ending → World → Prop} {w W W' : World} {rs rs' : List Res} (HL : Aside0 (Live w W rs)) (h : Aside0 (Live w W' rs') → Calls P f args W' K)
    (k : Live w W rs → Live w W' rs' := by intro y0_; repeat (first | exact y0_ | apply Live.drewN | apply Live.drew | refine Live.set1 ?_ | refine Live.set0 ?_)) : Calls P f args W' K := h ⟨k HL.out⟩
end Go.Proofs.Ytilgbnbeonlbnaa.P


namespace Go.Proofs.Cl
set_option linter.unusedVariables false

def allG (p : Nat → Bool) : Nat → Nat → Bool
  | 0, _ => true
  | d + 1, i => p i && allG p d (i + 1)
def allF (n : Nat) (p : Nat → Bool) (i : Nat) : Bool := allG p (n - i) i
theorem allF_end {n : Nat} {p : Nat → Bool} {i : Nat} (h : n ≤ i) : allF n p i = true := by
  unfold allF
  rw [show n - i = 0 by omega]
  rfl
theorem allF_step {n : Nat} {p : Nat → Bool} {i : Nat} (h : i < n) : allF n p i = (p i && allF n p (i + 1)) := by
  unfold allF
  rw [show n - i = (n - (i + 1)) + 1 by omega]
  rfl
theorem allG_iff (p : Nat → Bool) : ∀ d i, allG p d i = true ↔ ∀ c, i ≤ c → c < i + d → p c = true
  | 0, i => by simp only [allG, true_iff]; intro c h1 h2; omega
  | d + 1, i => by
    simp only [allG, Bool.and_eq_true, allG_iff p d (i + 1)]
    constructor
    · intro ⟨h1, h2⟩ c h3 h4
      by_cases e : c = i
      · rw [e]; exact h1
      · exact h2 c (by omega) (by omega)
    · intro h
      exact ⟨h i (by omega) (by omega), fun c h3 h4 => h c (by omega) (by omega)⟩
theorem allF_iff {n : Nat} {p : Nat → Bool} {i : Nat} : allF n p i = true ↔ ∀ c, i ≤ c → c < n → p c = true := by
  unfold allF
  rw [allG_iff]
  constructor
  · intro h c h1 h2
    exact h c h1 (by omega)
  · intro h c h1 h2
    exact h c h1 (by omega)
theorem allF0 {n : Nat} {p : Nat → Bool} : allF n p 0 = true ↔ ∀ c, c < n → p c = true := by
  rw [allF_iff]
  exact ⟨fun h c => h c (Nat.zero_le _), fun h c _ => h c⟩
def firstG (p : Nat → Bool) : Nat → Nat → Int
  | 0, _ => -1
  | d + 1, i => if p i = true then (i : Int) else firstG p d (i + 1)
def firstF (n : Nat) (p : Nat → Bool) (i : Nat) : Int := firstG p (n - i) i
theorem firstF_end {n : Nat} {p : Nat → Bool} {i : Nat} (h : n ≤ i) : firstF n p i = -1 := by
  unfold firstF
  rw [show n - i = 0 by omega]
  rfl
theorem firstF_step {n : Nat} {p : Nat → Bool} {i : Nat} (h : i < n) : firstF n p i = if p i = true then (i : Int) else firstF n p (i + 1) := by
  unfold firstF
  rw [show n - i = (n - (i + 1)) + 1 by omega]
  rfl
theorem down (n : Nat) (P : Nat → Prop) (hend : P n) (hstep : ∀ i, i < n → P (i + 1) → P i) (i : Nat) (hi : i ≤ n) : P i := by
  obtain ⟨d, hd⟩ : ∃ d, n - i = d := ⟨_, rfl⟩
  induction d generalizing i with
  | zero => obtain rfl : i = n := by omega
            exact hend
  | succ d ih => exact hstep i (by omega) (ih (i + 1) (by omega) (by omega))
theorem firstF_spec {n : Nat} {p : Nat → Bool} : ∀ i, i ≤ n → (firstF n p i = -1 ∧ ∀ c, i ≤ c → c < n → p c = false) ∨ (∃ c : Nat, firstF n p i = c ∧ i ≤ c ∧ c < n ∧ p c = true ∧ ∀ c', i ≤ c' → c' < c → p c' = false) := by
  intro i hi
  refine down n (fun i => (firstF n p i = -1 ∧ ∀ c, i ≤ c → c < n → p c = false) ∨ (∃ c : Nat, firstF n p i = c ∧ i ≤ c ∧ c < n ∧ p c = true ∧ ∀ c', i ≤ c' → c' < c → p c' = false)) ?_ ?_ i hi
  · exact .inl ⟨firstF_end (Nat.le_refl _), fun c h1 h2 => by omega⟩
  · intro i hi ih
    rw [firstF_step hi]
    cases hp : p i with
    | true => exact .inr ⟨i, by simp, Nat.le_refl _, hi, hp, fun c' h1 h2 => by omega⟩
    | false =>
      simp only [Bool.false_eq_true, if_false]
      rcases ih with ⟨h1, h2⟩ | ⟨c, h1, h2, h3, h4, h5⟩
      · refine .inl ⟨h1, fun c h3 h4 => ?_⟩
        by_cases e : c = i
        · rw [e]; exact hp
        · exact h2 c (by omega) h4
      · refine .inr ⟨c, h1, by omega, h3, h4, fun c' h6 h7 => ?_⟩
        by_cases e : c' = i
        · rw [e]; exact hp
        · exact h5 c' (by omega) h7

def rdN (u : List (List Int)) (a b : Nat) : Int := (u.getD a []).getD b 0
def Ord (u : List (List Int)) : Prop :=
  1 ≤ u.length ∧ u.length ≤ 12 ∧ (∀ a, a < u.length → (u.getD a []).length = u.length) ∧
  (∀ a, a < u.length → ∀ b, b < u.length → rdN u a b = 0 ∨ rdN u a b = 1) ∧
  (∀ a, a < u.length → rdN u a a = 1) ∧
  (∀ a, a < u.length → ∀ b, b < u.length → rdN u a b = 1 → rdN u b a = 1 → a = b) ∧
  (∀ a, a < u.length → ∀ b, b < u.length → ∀ c, c < u.length → rdN u a b = 1 → rdN u b c = 1 → rdN u a c = 1)
instance (u : List (List Int)) : Decidable (Ord u) := by
  have d1 : Decidable (∀ a, a < u.length → (u.getD a []).length = u.length) := inferInstance
  have d2 : Decidable (∀ a, a < u.length → ∀ b, b < u.length → rdN u a b = 0 ∨ rdN u a b = 1) := inferInstance
  have d3 : Decidable (∀ a, a < u.length → rdN u a a = 1) := inferInstance
  have d4 : Decidable (∀ a, a < u.length → ∀ b, b < u.length → rdN u a b = 1 → rdN u b a = 1 → a = b) := inferInstance
  have d5 : Decidable (∀ a, a < u.length → ∀ b, b < u.length → ∀ c, c < u.length → rdN u a b = 1 → rdN u b c = 1 → rdN u a c = 1) := inferInstance
  unfold Ord
  exact instDecidableAnd

namespace Ord
variable {u : List (List Int)} (h : Ord u)
theorem pos (h : Ord u) : 1 ≤ u.length := h.1
theorem le12 (h : Ord u) : u.length ≤ 12 := h.2.1
theorem row (h : Ord u) {a : Nat} (ha : a < u.length) : (u.getD a []).length = u.length := h.2.2.1 a ha
theorem bit (h : Ord u) {a b : Nat} (ha : a < u.length) (hb : b < u.length) : rdN u a b = 0 ∨ rdN u a b = 1 := h.2.2.2.1 a ha b hb
theorem refl (h : Ord u) {a : Nat} (ha : a < u.length) : rdN u a a = 1 := h.2.2.2.2.1 a ha
theorem anti (h : Ord u) {a b : Nat} (ha : a < u.length) (hb : b < u.length) (k : rdN u a b = 1) (l : rdN u b a = 1) : a = b := h.2.2.2.2.2.1 a ha b hb k l
theorem trans (h : Ord u) {a b c : Nat} (ha : a < u.length) (hb : b < u.length) (hc : c < u.length) (k : rdN u a b = 1) (l : rdN u b c = 1) : rdN u a c = 1 := h.2.2.2.2.2.2 a ha b hb c hc k l
end Ord

def IsMeet (u : List (List Int)) (a b c : Nat) : Prop :=
  c < u.length ∧ rdN u c a = 1 ∧ rdN u c b = 1 ∧ ∀ d, d < u.length → rdN u d a = 1 → rdN u d b = 1 → rdN u d c = 1
def IsJoin (u : List (List Int)) (a b c : Nat) : Prop :=
  c < u.length ∧ rdN u a c = 1 ∧ rdN u b c = 1 ∧ ∀ d, d < u.length → rdN u a d = 1 → rdN u b d = 1 → rdN u c d = 1
instance (u : List (List Int)) (a b c : Nat) : Decidable (IsMeet u a b c) := by unfold IsMeet; infer_instance
instance (u : List (List Int)) (a b c : Nat) : Decidable (IsJoin u a b c) := by unfold IsJoin; infer_instance
def meetI (u : List (List Int)) (a b : Nat) : Int := firstF u.length (fun c => decide (IsMeet u a b c)) 0
def joinI (u : List (List Int)) (a b : Nat) : Int := firstF u.length (fun c => decide (IsJoin u a b c)) 0
theorem meetI_cases (u : List (List Int)) (a b : Nat) : (meetI u a b = -1 ∧ ∀ c, ¬ IsMeet u a b c) ∨ ∃ c : Nat, meetI u a b = c ∧ IsMeet u a b c := by
  rcases firstF_spec (n := u.length) (p := fun c => decide (IsMeet u a b c)) 0 (Nat.zero_le _) with ⟨e, k⟩ | ⟨d, e, _, hd, k, _⟩
  · exact .inl ⟨e, fun c hc => by have := k c (Nat.zero_le _) hc.1; simp [hc] at this⟩
  · exact .inr ⟨d, e, of_decide_eq_true k⟩
def turn (u : List (List Int)) : List (List Int) := (List.range u.length).map fun a => (List.range u.length).map fun b => rdN u b a
theorem turn_len (u : List (List Int)) : (turn u).length = u.length := by simp [turn]
theorem getD_map_range {α : Type} (f : Nat → α) (z : α) {n a : Nat} (h : a < n) : ((List.range n).map f).getD a z = f a := by
  simp [List.getD_eq_getElem?_getD, h]
theorem turn_row (u : List (List Int)) {a : Nat} (ha : a < u.length) : (turn u).getD a [] = (List.range u.length).map fun b => rdN u b a := by
  unfold turn
  rw [getD_map_range _ _ ha]
def Lat (u : List (List Int)) : Prop := Ord u ∧ ∀ a, a < u.length → ∀ b, b < u.length → 0 ≤ meetI u a b ∧ 0 ≤ joinI u a b
instance (u : List (List Int)) : Decidable (Lat u) := by unfold Lat; infer_instance
def IsLeast (u : List (List Int)) (a : Nat) : Prop := ∀ b, b < u.length → rdN u a b = 1
instance (u : List (List Int)) (a : Nat) : Decidable (IsLeast u a) := by unfold IsLeast; infer_instance
def leastI (u : List (List Int)) : Int := firstF u.length (fun a => decide (IsLeast u a)) 0
theorem leastI_cases (u : List (List Int)) : (leastI u = -1 ∧ ∀ a, a < u.length → ¬ IsLeast u a) ∨ ∃ a : Nat, leastI u = a ∧ a < u.length ∧ IsLeast u a := by
  rcases firstF_spec (n := u.length) (p := fun a => decide (IsLeast u a)) 0 (Nat.zero_le _) with ⟨e, k⟩ | ⟨d, e, _, hd, k, _⟩
  · exact .inl ⟨e, fun c hc hl => by have := k c (Nat.zero_le _) hc; simp [hl] at this⟩
  · exact .inr ⟨d, e, hd, of_decide_eq_true k⟩
theorem leastI_of {u : List (List Int)} (h : Ord u) {a : Nat} (ha : a < u.length) (hl : IsLeast u a) : leastI u = a := by
  rcases leastI_cases u with ⟨_, k⟩ | ⟨d, e, hd, k⟩
  · exact absurd hl (k a ha)
  · rw [e, h.anti hd ha (k a ha) (hl d hd)]
namespace Lat
variable {u : List (List Int)}
theorem meet (h : Lat u) {a b : Nat} (ha : a < u.length) (hb : b < u.length) : ∃ c : Nat, meetI u a b = c ∧ IsMeet u a b c := by
  rcases meetI_cases u a b with ⟨e, _⟩ | k
  · have := (h.2 a ha b hb).1
    omega
  · exact k
theorem low (h : Lat u) : ∀ m, m ≤ u.length → ∃ a, a < u.length ∧ ∀ b, b < m → rdN u a b = 1
  | 0, _ => ⟨0, h.1.pos, fun b hb => by omega⟩
  | m + 1, hm => by
    obtain ⟨a, ha, k⟩ := low h m (by omega)
    obtain ⟨c, _, hc⟩ := h.meet ha (show m < u.length by omega)
    refine ⟨c, hc.1, fun b hb => ?_⟩
    by_cases e : b = m
    · rw [e]; exact hc.2.2.1
    · exact h.1.trans hc.1 ha (by omega) hc.2.1 (k b (by omega))
theorem least (h : Lat u) : ∃ a : Nat, leastI u = a ∧ a < u.length ∧ IsLeast u a := by
  obtain ⟨a, ha, k⟩ := h.low u.length (Nat.le_refl _)
  exact ⟨a, leastI_of h.1 ha k, ha, k⟩
end Lat
def belowN (u : List (List Int)) (a : Nat) : Nat → Int
  | 0 => 0
  | m + 1 => belowN u a m + rdN u m a
def atomB (u : List (List Int)) (least : Int) (a : Nat) : Bool := decide (belowN u a u.length = 2 ∧ (a : Int) ≠ least)
def atomsL (u : List (List Int)) : List Int := if Ord u ∧ 0 ≤ leastI u then ((List.range u.length).filter (atomB u (leastI u))).map (fun (a : Nat) => (a : Int)) else []
theorem belowN_bound {u : List (List Int)} (h : Ord u) {a : Nat} (ha : a < u.length) : ∀ m, m ≤ u.length → 0 ≤ belowN u a m ∧ belowN u a m ≤ m
  | 0, _ => by simp [belowN]
  | m + 1, hm => by
    have := belowN_bound h ha m (by omega)
    have := h.bit (show m < u.length by omega) ha
    simp only [belowN]
    omega
def leastOfP (u : List (List Int)) : Int × Bool := if Ord u then (leastI u, decide (0 ≤ leastI u)) else (-1, false)
def turnOf (u : List (List Int)) : List (List Int) := if Ord u then turn u else []
theorem leastOfP_no {u : List (List Int)} (h : ¬ (Ord u ∧ 0 ≤ leastI u)) : leastOfP u = (-1, false) := by
  unfold leastOfP
  by_cases k : Ord u
  · rw [if_pos k]
    have : ¬ 0 ≤ leastI u := fun l => h ⟨k, l⟩
    rcases leastI_cases u with ⟨e, _⟩ | ⟨a, e, _⟩
    · rw [e]; rfl
    · omega
  · rw [if_neg k]
end Go.Proofs.Cl


namespace Go.Proofs.Ytilgbnbeonlbnaa.Q
open Go.RowKit Go.Proofs.YtilgbnbeonlbnaaW.PrintWords Go.Proofs.YtilgbnbeonlbnaaW.PrintLast Go.Proofs.YtilgbnbeonlbnaaW.PrintMore Go.Proofs.Ytilgbnbeonlbnaa.P Go.Proofs.Cl
set_option linter.unusedVariables false

theorem Ev.pos {α : Type} {c : Prop} [Decidable c] {f g : Nat → Option α} {r : α} (h : c) (H : Ev f r) : Ev (fun k => if c then f k else g k) r := by
  simp only [if_pos h]
  exact H
theorem Ev.neg {α : Type} {c : Prop} [Decidable c] {f g : Nat → Option α} {r : α} (h : ¬ c) (H : Ev g r) : Ev (fun k => if c then f k else g k) r := by
  simp only [if_neg h]
  exact H
theorem Ev.tt {α : Type} {b : Bool} {f g : Nat → Option α} {r : α} (h : b = true) (H : Ev f r) : Ev (fun k => if b = true then f k else g k) r := Ev.pos h H
theorem Ev.ff {α : Type} {b : Bool} {f g : Nat → Option α} {r : α} (h : b = false) (H : Ev g r) : Ev (fun k => if b = true then f k else g k) r := Ev.neg (by rw [h]; exact Bool.false_ne_true) H
theorem Ev.ret {α : Type} {a r : α} (h : a = r) : Ev (fun _ => some a) r := h ▸ Ev.now a
theorem Ev.bindc {α β : Type} {o : Option α} {f : Nat → α → Option β} {a : α} {r : β} (h : o = some a) (k : Ev (fun n => f n a) r) : Ev (fun n => o.bind (f n)) r := by
  subst h
  exact k
theorem Ev.to {α : Type} {f : Nat → Option α} {a r : α} (H : Ev f a) (h : a = r) : Ev f r := h ▸ H
theorem wrap_of (x : Int) (h0 : -9223372036854775808 ≤ x) (h1 : x ≤ 9223372036854775807) : wrap64 x = x := by
  unfold wrap64
  omega
theorem wrap_succ (i : Nat) (h : i < 4611686018427387904) : wrap64 ((i : Int) + 1) = ((i + 1 : Nat) : Int) := by
  rw [wrap_of _ (by omega) (by omega)]
  omega
theorem rd_nat (xs : List Int) (i : Nat) : rd xs (i : Int) = xs.getD i 0 := rfl
theorem row_nat (u : List (List Int)) (i : Nat) : rd_L1 u (i : Int) = u.getD i [] := rfl
theorem at_nat (u : List (List Int)) (i j : Nat) : rd (rd_L1 u (i : Int)) (j : Int) = rdN u i j := rfl
theorem set_step {α : Type} (xs : List α) (z : α) (i : Nat) (h : i < xs.length) : (xs.take i ++ List.replicate (xs.length - i) z).set i xs[i] = xs.take (i + 1) ++ List.replicate (xs.length - (i + 1)) z := by
  rw [show xs.length - i = (xs.length - (i + 1)) + 1 by omega, List.replicate_succ, List.set_append, if_neg (by rw [List.length_take]; omega)]
  rw [List.length_take, show i - min i xs.length = 0 by omega, List.set_cons_zero, List.take_succ_eq_append_getElem h, List.append_assoc]
  rfl
theorem rd_lt (xs : List Int) {i : Nat} (h : i < xs.length) : rd xs (i : Int) = xs[i] := by
  rw [rd_nat, List.getD_eq_getElem?_getD, List.getElem?_eq_getElem h, Option.getD_some]
theorem row_lt (u : List (List Int)) {i : Nat} (h : i < u.length) : rd_L1 u (i : Int) = u[i] := by
  rw [row_nat, List.getD_eq_getElem?_getD, List.getElem?_eq_getElem h, Option.getD_some]
theorem wrap_succ' (i : Nat) (h : i < 9223372036854775807) : wrap64 ((i : Int) + 1) = ((i + 1 : Nat) : Int) := by
  rw [wrap_of _ (by omega) (by omega)]
  omega
end Go.Proofs.Ytilgbnbeonlbnaa.Q


namespace Go.Proofs.Ytilgbnbeonlbnaa.Q
open Go.RowKit Go.Proofs.YtilgbnbeonlbnaaW.PrintWords Go.Proofs.YtilgbnbeonlbnaaW.PrintLast Go.Proofs.YtilgbnbeonlbnaaW.PrintMore Go.Proofs.Ytilgbnbeonlbnaa.P Go.Proofs.Cl
set_option linter.unusedVariables false
def mk1 (n : Nat) (a : Int) : List Int := (List.range n).map fun (i : Nat) => a + i
def tot (u : List (List Int)) : Nat := (u.map List.length).sum
def mk2 : List (List Int) → Int → List (List Int)
  | [], _ => []
  | x :: xs, a => mk1 x.length a :: mk2 xs (a + x.length)
theorem mk1_len (n : Nat) (a : Int) : (mk1 n a).length = n := by simp [mk1]
theorem mk1_at {n : Nat} {a : Int} {i : Nat} (h : i < n) : (mk1 n a)[i]'(by rw [mk1_len]; exact h) = a + i := by simp [mk1]
theorem tot_cons (x : List Int) (xs : List (List Int)) : tot (x :: xs) = x.length + tot xs := by simp [tot]
theorem tot_append (xs ys : List (List Int)) : tot (xs ++ ys) = tot xs + tot ys := by simp [tot]
theorem tot_le (M : Nat) : ∀ u : List (List Int), (∀ x ∈ u, x.length ≤ M) → tot u ≤ u.length * M
  | [], _ => by simp [tot]
  | x :: xs, h => by
    have h1 := h x List.mem_cons_self
    have h2 := tot_le M xs (fun y hy => h y (List.mem_cons_of_mem _ hy))
    rw [tot_cons, List.length_cons, Nat.succ_mul]
    omega
theorem mk2_len (u : List (List Int)) (a : Int) : (mk2 u a).length = u.length := by
  induction u generalizing a with
  | nil => rfl
  | cons x xs ih => simp [mk2, ih]
theorem mk2_append (xs ys : List (List Int)) (a : Int) : mk2 (xs ++ ys) a = mk2 xs a ++ mk2 ys (a + tot xs) := by
  induction xs generalizing a with
  | nil => simp [mk2, tot]
  | cons x xs ih =>
    rw [List.cons_append, mk2, mk2, ih, tot_cons, List.cons_append]
    congr 3
    omega
theorem take_one (u : List (List Int)) {i : Nat} (h : i < u.length) : u.take (i + 1) = u.take i ++ [u[i]] := List.take_succ_eq_append_getElem h
theorem tot_take (u : List (List Int)) {i : Nat} (h : i < u.length) : tot (u.take (i + 1)) = tot (u.take i) + u[i].length := by
  rw [take_one u h, tot_append]
  simp [tot]
theorem tot_take_le (u : List (List Int)) (i : Nat) : tot (u.take i) ≤ tot u := by
  have := tot_append (u.take i) (u.drop i)
  rw [List.take_append_drop] at this
  omega
def cur (u : List (List Int)) (a : Int) (i : Nat) : List (List Int) := mk2 (u.take i) a ++ u.drop i
theorem cur_zero (u : List (List Int)) (a : Int) : cur u a 0 = u := by simp [cur, mk2]
theorem cur_full (u : List (List Int)) (a : Int) : cur u a u.length = mk2 u a := by simp [cur]
theorem cur_len (u : List (List Int)) (a : Int) {i : Nat} (h : i ≤ u.length) : (cur u a i).length = u.length := by
  rw [cur, List.length_append, mk2_len, List.length_take, List.length_drop]
  omega
theorem cur_at (u : List (List Int)) (a : Int) {i : Nat} (h : i < u.length) : rd_L1 (cur u a i) (i : Int) = u[i] := by
  rw [row_nat, cur, List.getD_eq_getElem?_getD, List.getElem?_append_right (by rw [mk2_len, List.length_take]; omega), mk2_len, List.length_take, List.getElem?_drop]
  rw [show i + (i - min i u.length) = i by omega, List.getElem?_eq_getElem h, Option.getD_some]
theorem cur_set (u : List (List Int)) (a : Int) {i : Nat} (h : i < u.length) : (cur u a i).set i (mk1 u[i].length (a + tot (u.take i))) = cur u a (i + 1) := by
  have e : u.drop i = u[i] :: u.drop (i + 1) := by rw [List.drop_eq_getElem_cons h]
  rw [cur, List.set_append, if_neg (by rw [mk2_len, List.length_take]; omega), mk2_len, List.length_take, show i - min i u.length = 0 by omega, e, List.set_cons_zero]
  rw [cur, take_one u h, mk2_append, List.append_assoc]
  rfl
theorem markIntS_ev (xs : List Int) (a : Int) (h0 : 0 ≤ a) (h1 : a + xs.length ≤ 9223372036854775807) : Ev (fun k => laws_markIntS.f k xs a) (a + xs.length, mk1 xs.length a) := by
  unfold laws_markIntS.f
  have key := down xs.length (fun i => Ev (fun k => laws_markIntS.l0 k (mk1 i a ++ xs.drop i) (a + i) i) (a + xs.length, mk1 xs.length a)) ?_ ?_ 0 (Nat.zero_le _)
  · have e : mk1 0 a ++ xs.drop 0 = xs := by simp [mk1]
    rw [e] at key
    simpa using key
  · refine Ev.step (fun k => laws_markIntS.l0.eq_2 ..) ?_
    have e : mk1 xs.length a ++ xs.drop xs.length = mk1 xs.length a := by simp
    rw [e]
    exact Ev.neg (by rw [mk1_len]; omega) (Ev.ret rfl)
  · intro i hi ih
    refine Ev.step (fun k => laws_markIntS.l0.eq_2 ..) ?_
    refine Ev.pos (by rw [List.length_append, mk1_len, List.length_drop]; omega) (Ev.pos (by omega) ?_)
    rw [wrap_succ' i (by omega), Int.toNat_natCast]
    have e1 : wrap64 (a + i + 1) = a + ((i + 1 : Nat) : Int) := by rw [wrap_of _ (by omega) (by omega)]; omega
    have e2 : (mk1 i a ++ xs.drop i).set i (a + i) = mk1 (i + 1) a ++ xs.drop (i + 1) := by
      rw [List.set_append, if_neg (by rw [mk1_len]; omega), mk1_len, Nat.sub_self, List.drop_eq_getElem_cons hi, List.set_cons_zero]
      simp [mk1, List.range_succ]
    rw [e1, e2]
    exact ih
theorem heldIntS_ev (m : Nat) (a : Int) (h0 : 0 ≤ a) (h1 : a + m ≤ 9223372036854775807) : Ev (fun k => laws_heldIntS.f k (mk1 m a) a) (a + m) := by
  unfold laws_heldIntS.f
  have key := down m (fun i => Ev (fun k => laws_heldIntS.l0 k (mk1 m a) (a + i) i) (a + m)) ?_ ?_ 0 (Nat.zero_le _)
  · simpa using key
  · refine Ev.step (fun k => laws_heldIntS.l0.eq_2 ..) ?_
    exact Ev.neg (by rw [mk1_len]; omega) (Ev.ret rfl)
  · intro i hi ih
    refine Ev.step (fun k => laws_heldIntS.l0.eq_2 ..) ?_
    refine Ev.pos (by rw [mk1_len]; omega) (Ev.pos (by omega) (Ev.pos (by rw [rd_lt _ (by rw [mk1_len]; exact hi), mk1_at hi]) ?_))
    rw [wrap_succ' i (by omega), show wrap64 (a + i + 1) = a + ((i + 1 : Nat) : Int) by rw [wrap_of _ (by omega) (by omega)]; omega]
    exact ih
theorem mk2_at (u : List (List Int)) (a : Int) {i : Nat} (h : i < u.length) : rd_L1 (mk2 u a) (i : Int) = mk1 u[i].length (a + tot (u.take i)) := by
  have e := cur_set u a h
  have hl : i < (cur u a i).length := by rw [cur_len u a (Nat.le_of_lt h)]; exact h
  have h2 : (mk2 u a)[i]? = some (mk1 u[i].length (a + tot (u.take i))) := by
    rw [← cur_full u a, cur, List.take_length, List.drop_length, List.append_nil]
    conv => lhs; rw [← List.take_append_drop (i + 1) u]
    rw [mk2_append, List.getElem?_append_left (by rw [mk2_len, List.length_take]; omega), take_one u h, mk2_append, List.getElem?_append_right (by rw [mk2_len, List.length_take]; omega), mk2_len, List.length_take, show i - min i u.length = 0 by omega]
    rfl
  rw [row_nat, List.getD_eq_getElem?_getD, h2, Option.getD_some]
theorem heldIntSS_ev (u : List (List Int)) (a : Int) (h0 : 0 ≤ a) (h1 : a + tot u ≤ 9223372036854775807) (hl : u.length ≤ 9223372036854775806) : Ev (fun k => laws_heldIntSS.f k (mk2 u a) a) (a + tot u) := by
  unfold laws_heldIntSS.f
  have key := down u.length (fun i => Ev (fun k => laws_heldIntSS.l0 k (mk2 u a) (a + tot (u.take i)) i) (a + tot u)) ?_ ?_ 0 (Nat.zero_le _)
  · simpa [tot] using key
  · refine Ev.step (fun k => laws_heldIntSS.l0.eq_2 ..) ?_
    rw [List.take_length]
    exact Ev.neg (by rw [mk2_len]; omega) (Ev.ret rfl)
  · intro i hi ih
    have e1 := tot_take u hi
    have e2 := tot_take_le u (i + 1)
    refine Ev.step (fun k => laws_heldIntSS.l0.eq_2 ..) ?_
    refine Ev.pos (by rw [mk2_len]; omega) (Ev.pos (by omega) ?_)
    rw [mk2_at u a hi]
    refine Ev.bind (heldIntS_ev _ _ (by omega) (by omega)) (Ev.neg (by omega) ?_)
    rw [wrap_succ' i (by omega), show a + (tot (u.take i) : Int) + (u[i].length : Nat) = a + (tot (u.take (i + 1)) : Nat) by omega]
    exact ih
end Go.Proofs.Ytilgbnbeonlbnaa.Q


namespace Go.Proofs.Ytilgbnbeonlbnaa.P
open Go.RowKit Go.Proofs.YtilgbnbeonlbnaaW.PrintWords Go.Proofs.YtilgbnbeonlbnaaW.PrintLast Go.Proofs.YtilgbnbeonlbnaaW.PrintMore Go.Proofs.Cl
set_option linter.unusedVariables false
set_option linter.unusedSimpArgs false
set_option maxHeartbeats 4000000 in
set_option maxRecDepth 100000 in
theorem marks_calls {w0 w : World} (ok : Nat → Prop) (A : Option Addr) (c : Nat) (u : List (List Int)) (a : Int) (h0 : 0 ≤ a) (hm : a + Q.tot u ≤ 9223372036854775807) (hl : u.length ≤ 1048576)
    (hB : Below w0.heap.size w0 w) (ho : Kd.S (Kd.slice 3 (Kd.int .i64)) 32 w w0.heap.size ok (.slice A u.length c) u) :
    Calls Try.prog 31 #[.slice A u.length c, .int .i64 a] w fun e w' => e = .returned (.int .i64 (a + Q.tot u)) ∧ Kd.S (Kd.slice 3 (Kd.int .i64)) 32 w' w0.heap.size ok (.slice A u.length c) (Q.mk2 u a) ∧ Below w0.heap.size w0 w' ∧ Kept w w' ok := by
  have HO := Aside0.mk ho
  have HB := Aside0.mk hB
  have HM := Aside0.mk hm
  have H0 := Aside0.mk h0
  clear ho hB hm h0
  go_enter Try.func31, Try.ntmps31
  go_wp2
  go_loopw [1, 5] (fun v1 v5 wr => ∃ i : Nat, i ≤ u.length ∧ v1 = .int .i64 (a + Q.tot (u.take i)) ∧ v5 = .int .i64 i ∧ Aside0 (Kd.S (Kd.slice 3 (Kd.int .i64)) 32 wr w0.heap.size ok (.slice A u.length c) (Q.cur u a i)) ∧ Aside0 (Below w0.heap.size w0 wr) ∧ Aside0 (Kept w wr ok)) (fun _ v5 _ => u.length - (intOf v5).toNat)
  case atStart => exact ⟨0, Nat.zero_le _, by simp [Q.tot], rfl, ⟨by rw [Q.cur_zero]; exact Kd.S_step HO.out (fun k _ _ => rfl)⟩, ⟨(by repeat (first | (with_reducible first | exact HB.out | apply below_alloc | apply pw_below_drewN | apply below_drew1) | exact HB.out))⟩, ⟨Kept.refl _ _⟩⟩
  case round =>
    obtain ⟨i, hi, rfl, rfl, HS, HB1, HK⟩ := hrel
    by_cases hlt : i < u.length
    · have hcl := Q.cur_len u a hi
      obtain ⟨ad, A1, c1, eA, _, _, _⟩ := at_L1 (Kd.S_reads' HS.out).2.2 (i : Int) (by omega) (by rw [hcl]; omega)
      clear hcl
      subst eA
      obtain ⟨g, eg⟩ := Kd.R_head (Kd.S_R HS.out)
      subst eg
      obtain ⟨oki, cl, hcl, hMM, hcc, hoki, hH⟩ := Kd.S_lend HS.out ([] : List Int) (i : Int) (by omega) (by omega)
      obtain ⟨v, ev, hR⟩ := hMM
      subst ev
      have e1 : (Q.cur u a i).getD (i : Int).toNat [] = u[i] := Q.cur_at u a hlt
      rw [e1] at hR
      clear e1
      obtain ⟨A2, c2, e2⟩ := Kd.R_slice hR
      subst e2
      have hcell : wr.cell? ⟨g, i, none⟩ = some (.slice A2 u[i].length c2) := by
        have q := hcc 0 _ rfl
        simpa [Kd.slice] using q
      have HH := Aside0.mk hH
      have HR := Aside0.mk hR
      have e3 := Q.tot_take u hlt
      have e4 := Q.tot_take_le u (i + 1)
      have hm := HM.out
      have h0 := H0.out
      obtain ⟨km, hkm⟩ := Ev.rounds (Q.markIntS_ev u[i] (a + Q.tot (u.take i)) (by omega) (by omega))
      rw [show a + (Q.tot (u.take i) : Int) + (u[i].length : Nat) = a + (Q.tot (u.take (i + 1)) : Nat) by omega] at hkm
      have HKM := Aside0.mk hkm
      have HI := Aside0.mk hlt
      clear hcc hoki hH hR hkm e3 e4 hm h0 hcl
      go_wp2_with (go_at_call 44; (with_reducible refine (laws_markIntS.calls km oki _ u[i] _ _ _ w0 _ (by repeat (first | (with_reducible first | exact HB1.out | apply below_alloc | apply pw_below_drewN | apply below_drew1) | exact HB1.out)) (xR HR.out) HKM.out).mono ?_); rintro e w2 ⟨rfl, hr, hb, hk⟩; have HR2 := Aside0.mk hr; have HB2 := Aside0.mk hb; have HK2 := Aside0.mk hk; have HH2 := Aside0.mk (Kd.H_kept (by repeat (first | exact HH.out | apply Kd.H_drewN | apply Kd.H_drew)) hk (fun k _ hn hs => hn hs)); have HKK := Aside0.mk (Kept.then_ (by repeat (first | exact HK.out | apply Kept.drewN | apply Kept.drew)) hk (fun k hs => .inl (HH.out.1 k hs))); clear hr hb hk HH HK)
      go_roundw
      case rel =>
        refine ⟨i + 1, by omega, rfl, by go_num, ⟨?_⟩, ⟨(by repeat (first | (with_reducible first | exact HB2.out | apply below_alloc | apply pw_below_drewN | apply below_drew1) | exact HB2.out))⟩, ⟨by repeat (first | exact HKK.out | apply Kept.drewN | apply Kept.drew)⟩⟩
        have q := Kd.H_back HH2.out (okp := fun k => some k = (Value.slice A2 u[i].length c2).ownBlock) (x' := Q.mk1 u[i].length (a + Q.tot (u.take i))) ⟨_, rfl, Kd.R_tight rfl HR2.out⟩ (fun k hk => HR.out.1 k hk.symm)
        rw [Int.toNat_natCast, Q.cur_set u a HI.out] at q
        exact xS q
      case measure => simp [intOf]; omega
    · have e : i = u.length := by omega
      subst e
      go_wp2
      go_ret
      refine ⟨by rw [List.take_length]; rfl, ?_, (by repeat (first | (with_reducible first | exact HB1.out | apply below_alloc | apply pw_below_drewN | apply below_drew1) | exact HB1.out)), by repeat (first | exact HK.out | apply Kept.drewN | apply Kept.drew)⟩
      have q := HS.out
      rw [Q.cur_full] at q
      exact xS q
theorem mark1_calls {w0 w : World} (ok : Nat → Prop) (A : Option Addr) (c : Nat) (n : List Int) (a : Int) (h0 : 0 ≤ a) (hm : a + n.length ≤ 9223372036854775807)
    (hB : Below w0.heap.size w0 w) (ho : Kd.R (Kd.int .i64) 3 w w0.heap.size ok (.slice A n.length c) n) :
    Calls Try.prog 44 #[.slice A n.length c, .int .i64 a] w fun e w' => e = .returned (.int .i64 (a + n.length)) ∧ Kd.R (Kd.int .i64) 3 w' w0.heap.size ok (.slice A n.length c) (Q.mk1 n.length a) ∧ Below w0.heap.size w0 w' ∧ Kept w w' ok := by
  obtain ⟨km, hkm⟩ := Ev.rounds (Q.markIntS_ev n a h0 hm)
  refine (laws_markIntS.calls km ok _ n a _ _ w0 w hB ho hkm).mono ?_
  rintro e w' ⟨rfl, hr, hb, hk⟩
  exact ⟨rfl, Kd.R_mono (Kd.R_tight rfl hr) (fun k hk => ho.1 k hk.symm), hb, hk⟩
theorem held1_calls {w : World} (A : Option Addr) (c m : Nat) (a : Int) (h0 : 0 ≤ a) (hm : a + m ≤ 9223372036854775807) (hr : Kd.C (Kd.int .i64) w A m (Q.mk1 m a)) (hc : m ≤ c) :
    Calls Try.prog 45 #[.slice A m c, .int .i64 a] w fun e w' => e = .returned (.int .i64 (a + m)) ∧ Drawn0 w w' := by
  obtain ⟨k, hk⟩ := Ev.rounds (Q.heldIntS_ev m a h0 hm)
  have q := laws_heldIntS.calls k A c (Q.mk1 m a) a (a + m) w
  rw [Q.mk1_len] at q
  exact q hr hc hk
theorem held2_calls {w : World} (A : Option Addr) (c : Nat) (u : List (List Int)) (a : Int) (h0 : 0 ≤ a) (hm : a + Q.tot u ≤ 9223372036854775807) (hl : u.length ≤ 1048576) (hr : Kd.C (Kd.slice 3 (Kd.int .i64)) w A u.length (Q.mk2 u a)) (hc : u.length ≤ c) :
    Calls Try.prog 32 #[.slice A u.length c, .int .i64 a] w fun e w' => e = .returned (.int .i64 (a + Q.tot u)) ∧ Drawn0 w w' := by
  obtain ⟨k, hk⟩ := Ev.rounds (Q.heldIntSS_ev u a h0 hm (by omega))
  have q := laws_heldIntSS.calls k A c (Q.mk2 u a) a (a + Q.tot u) w
  rw [Q.mk2_len] at q
  exact q hr hc hk
end Go.Proofs.Ytilgbnbeonlbnaa.P


namespace Go.Proofs.Ytilgbnbeonlbnaa.Q
open Go.RowKit Go.Proofs.YtilgbnbeonlbnaaW.PrintWords Go.Proofs.YtilgbnbeonlbnaaW.PrintLast Go.Proofs.YtilgbnbeonlbnaaW.PrintMore Go.Proofs.Ytilgbnbeonlbnaa.P Go.Proofs.Cl
set_option linter.unusedVariables false
theorem tot_b (u : List (List Int)) (hl : u.length ≤ 1048576) (hz : ∀ i (k : i < u.length), u[i].length ≤ 1048576) : (1 : Int) + (tot u : Nat) ≤ 9223372036854775807 := by
  have h1 := tot_le 1048576 u (fun x hx => by
    obtain ⟨i, hi, rfl⟩ := List.getElem_of_mem hx
    exact hz i hi)
  have h2 : u.length * 1048576 ≤ 1048576 * 1048576 := Nat.mul_le_mul_right _ hl
  omega
theorem atomsL_le (u : List (List Int)) : (atomsL u).length ≤ u.length := by
  unfold atomsL
  split
  · rw [List.length_map]
    refine Nat.le_trans (List.length_filter_le _ _) ?_
    rw [List.length_range]
    exact Nat.le_refl _
  · exact Nat.zero_le _
theorem turnOf_b (u : List (List Int)) (hl : u.length ≤ 1048576) : (turnOf u).length ≤ 1048576 ∧ ∀ i (k : i < (turnOf u).length), (turnOf u)[i].length ≤ 1048576 := by
  unfold turnOf
  split
  · refine ⟨by rw [turn_len]; exact hl, fun i k => ?_⟩
    have h2 : i < u.length := by rw [turn_len] at k; exact k
    have h3 := turn_row u h2
    rw [List.getD_eq_getElem?_getD, List.getElem?_eq_getElem k, Option.getD_some] at h3
    rw [h3, List.length_map, List.length_range]
    exact hl
  · exact ⟨Nat.zero_le _, fun i k => absurd k (Nat.not_lt_zero _)⟩
end Go.Proofs.Ytilgbnbeonlbnaa.Q


namespace Go.Proofs.Ytilgbnbeonlbnaa.Q
open Go.RowKit Go.Proofs.YtilgbnbeonlbnaaW.PrintWords Go.Proofs.YtilgbnbeonlbnaaW.PrintLast Go.Proofs.YtilgbnbeonlbnaaW.PrintMore Go.Proofs.Ytilgbnbeonlbnaa.P Go.Proofs.Cl
set_option linter.unusedVariables false

theorem l1In_eq (a b c : Int) : spec_l1In.f a b c = some (decide (b ≤ a ∧ a ≤ c)) := by
  unfold spec_l1In.f
  by_cases h : a ≥ b
  · rw [if_pos h]
    congr 1
    rw [decide_eq_decide]
    exact ⟨fun k => ⟨h, k⟩, fun k => k.2⟩
  · rw [if_neg h]
    congr 1
    symm
    rw [decide_eq_false_iff_not]
    exact fun k => h k.1

section
variable (u : List (List Int))
def p4 (a b c : Nat) : Bool := !(decide (rdN u a b = 1) && decide (rdN u b c = 1) && decide (rdN u a c = 0))
def p3 (a b : Nat) : Bool := !(if a = b then decide (rdN u a b = 0) else (decide (rdN u a b = 1) && decide (rdN u b a = 1))) && allF u.length (p4 u a b) 0
def p1 (a b : Nat) : Bool := decide (0 ≤ rdN u a b ∧ rdN u a b ≤ 1)
def p0 (a : Nat) : Bool := decide ((u.getD a []).length = u.length) && allF u.length (p1 u a) 0
variable {u}
variable (hn : u.length ≤ 12)
theorem so_l4 (hn : u.length ≤ 12) (HR : ∀ a, a < u.length → (rd_L1 u (a : Int)).length = u.length) {a b : Nat} (ha : a < u.length) (hb : b < u.length) {r : Bool}
    (H : Ev (fun k => spec_OrderOk.l3 k u u.length a ((b + 1 : Nat) : Int)) r) (c : Nat) (hc : c ≤ u.length) :
    Ev (fun k => spec_OrderOk.l4 k u u.length a b c) (allF u.length (p4 u a b) c && r) := by
  refine down u.length (fun c => Ev (fun k => spec_OrderOk.l4 k u u.length a b c) (allF u.length (p4 u a b) c && r)) ?_ ?_ c hc
  · refine Ev.step (fun k => spec_OrderOk.l4.eq_2 ..) ?_
    refine Ev.neg (by omega) ?_
    rw [allF_end (Nat.le_refl _), Bool.true_and, wrap_succ b (by omega)]
    exact H
  · intro c hc ih
    have h1 := HR a ha
    have h2 := HR b hb
    refine Ev.step (fun k => spec_OrderOk.l4.eq_2 ..) ?_
    repeat (refine Ev.pos (by omega) ?_)
    rw [allF_step hc, wrap_succ c (by omega)]
    by_cases k1 : rdN u a b = 1
    · refine Ev.pos k1 ?_
      repeat (refine Ev.pos (by omega) ?_)
      by_cases k2 : rdN u b c = 1
      · refine Ev.pos k2 ?_
        repeat (refine Ev.pos (by omega) ?_)
        by_cases k3 : rdN u a c = 0
        · refine Ev.pos k3 ?_
          exact Ev.ret (by simp [p4, k1, k2, k3])
        · refine Ev.neg k3 ?_
          exact Ev.to ih (by simp [p4, k3])
      · refine Ev.neg k2 ?_
        exact Ev.to ih (by simp [p4, k2])
    · refine Ev.neg k1 ?_
      exact Ev.to ih (by simp [p4, k1])
theorem so_l3 (hn : u.length ≤ 12) (HR : ∀ a, a < u.length → (rd_L1 u (a : Int)).length = u.length) {a : Nat} (ha : a < u.length) {r : Bool}
    (H : Ev (fun k => spec_OrderOk.l2 k u u.length ((a + 1 : Nat) : Int)) r) (b : Nat) (hb : b ≤ u.length) :
    Ev (fun k => spec_OrderOk.l3 k u u.length a b) (allF u.length (p3 u a) b && r) := by
  refine down u.length (fun b => Ev (fun k => spec_OrderOk.l3 k u u.length a b) (allF u.length (p3 u a) b && r)) ?_ ?_ b hb
  · refine Ev.step (fun k => spec_OrderOk.l3.eq_2 ..) ?_
    refine Ev.neg (by omega) ?_
    rw [allF_end (Nat.le_refl _), Bool.true_and, wrap_succ a (by omega)]
    exact H
  · intro b hb ih
    have h1 := HR a ha
    have h2 := HR b hb
    have key : ∀ x : Bool, Ev (fun k => spec_OrderOk.j4 k u u.length a b x) (!x && allF u.length (p4 u a b) 0 && allF u.length (p3 u a) (b + 1) && r) := by
      intro x
      refine Ev.step (fun k => spec_OrderOk.j4.eq_2 ..) ?_
      cases x with
      | true => exact Ev.pos rfl (Ev.ret (by simp))
      | false =>
        refine Ev.neg Bool.false_ne_true ?_
        exact Ev.to (so_l4 hn HR ha hb ih 0 (Nat.zero_le _)) (by simp [Bool.and_assoc])
    refine Ev.step (fun k => spec_OrderOk.l3.eq_2 ..) ?_
    refine Ev.pos (by omega) ?_
    rw [allF_step hb]
    by_cases e : a = b
    · refine Ev.pos (by omega) ?_
      repeat (refine Ev.pos (by omega) ?_)
      by_cases k1 : rdN u a b = 0
      · exact Ev.pos k1 (Ev.to (key true) (by rw [p3, if_pos e, decide_eq_true k1]))
      · exact Ev.neg k1 (Ev.to (key false) (by rw [p3, if_pos e, decide_eq_false k1]))
    · refine Ev.neg (by omega) ?_
      repeat (refine Ev.pos (by omega) ?_)
      by_cases k1 : rdN u a b = 1
      · refine Ev.pos k1 ?_
        repeat (refine Ev.pos (by omega) ?_)
        refine Ev.to (key _) ?_
        rw [p3, if_neg e, decide_eq_true k1, Bool.true_and]
        rfl
      · refine Ev.neg k1 (Ev.to (key false) ?_)
        rw [p3, if_neg e, decide_eq_false k1, Bool.false_and]
theorem so_l2 (hn : u.length ≤ 12) (HR : ∀ a, a < u.length → (rd_L1 u (a : Int)).length = u.length) (a : Nat) (ha : a ≤ u.length) :
    Ev (fun k => spec_OrderOk.l2 k u u.length a) (allF u.length (fun a => allF u.length (p3 u a) 0) a) := by
  refine down u.length (fun a => Ev (fun k => spec_OrderOk.l2 k u u.length a) (allF u.length (fun a => allF u.length (p3 u a) 0) a)) ?_ ?_ a ha
  · refine Ev.step (fun k => spec_OrderOk.l2.eq_2 ..) ?_
    refine Ev.neg (by omega) ?_
    exact Ev.ret (allF_end (Nat.le_refl _)).symm
  · intro a ha ih
    refine Ev.step (fun k => spec_OrderOk.l2.eq_2 ..) ?_
    refine Ev.pos (by omega) ?_
    rw [allF_step ha]
    exact so_l3 hn HR ha ih 0 (Nat.zero_le _)
theorem so_l1 (hn : u.length ≤ 12) {a : Nat} (ha : a < u.length) (HR : (rd_L1 u (a : Int)).length = u.length) {r : Bool}
    (H : Ev (fun k => spec_OrderOk.l0 k u u.length ((a + 1 : Nat) : Int)) r) (b : Nat) (hb : b ≤ u.length) :
    Ev (fun k => spec_OrderOk.l1 k u u.length a b) (allF u.length (p1 u a) b && r) := by
  refine down u.length (fun b => Ev (fun k => spec_OrderOk.l1 k u u.length a b) (allF u.length (p1 u a) b && r)) ?_ ?_ b hb
  · refine Ev.step (fun k => spec_OrderOk.l1.eq_2 ..) ?_
    refine Ev.neg (by omega) ?_
    rw [allF_end (Nat.le_refl _), Bool.true_and, wrap_succ a (by omega)]
    exact H
  · intro b hb ih
    refine Ev.step (fun k => spec_OrderOk.l1.eq_2 ..) ?_
    repeat (refine Ev.pos (by omega) ?_)
    refine Ev.bindc (l1In_eq _ _ _) ?_
    rw [allF_step hb, wrap_succ b (by omega)]
    cases hp : p1 u a b with
    | true => exact Ev.tt hp (Ev.to ih (by simp))
    | false => exact Ev.ff hp (Ev.ret (by simp))
theorem so_l0 (hn : u.length ≤ 12) (a : Nat) (ha : a ≤ u.length) : (∀ c, c < a → (rd_L1 u (c : Int)).length = u.length) →
    Ev (fun k => spec_OrderOk.l0 k u u.length a) (allF u.length (p0 u) a && allF u.length (fun a => allF u.length (p3 u a) 0) 0) := by
  refine down u.length (fun a => (∀ c, c < a → (rd_L1 u (c : Int)).length = u.length) →
    Ev (fun k => spec_OrderOk.l0 k u u.length a) (allF u.length (p0 u) a && allF u.length (fun a => allF u.length (p3 u a) 0) 0)) ?_ ?_ a ha
  · intro HR
    refine Ev.step (fun k => spec_OrderOk.l0.eq_2 ..) ?_
    refine Ev.neg (by omega) ?_
    rw [allF_end (Nat.le_refl _), Bool.true_and]
    exact so_l2 hn HR 0 (Nat.zero_le _)
  · intro a ha ih HR
    refine Ev.step (fun k => spec_OrderOk.l0.eq_2 ..) ?_
    repeat (refine Ev.pos (by omega) ?_)
    rw [allF_step ha]
    by_cases e : (rd_L1 u (a : Int)).length = u.length
    · refine Ev.pos (by omega) ?_
      have k := so_l1 hn ha e (ih (fun c hc => by
        by_cases e2 : c = a
        · rw [e2]; exact e
        · exact HR c (by omega))) 0 (Nat.zero_le _)
      refine Ev.to k ?_
      rw [p0, decide_eq_true (show (u.getD a []).length = u.length from e), Bool.true_and, Bool.and_assoc]
    · refine Ev.neg (by omega) ?_
      refine Ev.ret ?_
      rw [p0, decide_eq_false (show ¬ (u.getD a []).length = u.length from e)]
      simp
end
theorem ord_of_loops (u : List (List Int)) (h1 : 1 ≤ u.length) (h2 : u.length ≤ 12) :
    (allF u.length (p0 u) 0 && allF u.length (fun a => allF u.length (p3 u a) 0) 0) = decide (Ord u) := by
  rw [Bool.eq_iff_iff, Bool.and_eq_true, allF0, allF0, decide_eq_true_iff]
  constructor
  · intro ⟨k0, k3⟩
    have rows : ∀ a, a < u.length → (u.getD a []).length = u.length := fun a ha => by
      have := k0 a ha
      rw [p0, Bool.and_eq_true] at this
      exact of_decide_eq_true this.1
    have bits : ∀ a, a < u.length → ∀ b, b < u.length → rdN u a b = 0 ∨ rdN u a b = 1 := fun a ha b hb => by
      have := k0 a ha
      rw [p0, Bool.and_eq_true, allF0] at this
      have := of_decide_eq_true (this.2 b hb)
      omega
    have ps : ∀ a, a < u.length → ∀ b, b < u.length → p3 u a b = true := fun a ha b hb => allF0.1 (k3 a ha) b hb
    refine ⟨h1, h2, rows, bits, ?_, ?_, ?_⟩
    · intro a ha
      have := ps a ha a ha
      rw [p3, if_pos rfl, Bool.and_eq_true, Bool.not_eq_true', decide_eq_false_iff_not] at this
      rcases bits a ha a ha with k | k
      · exact absurd k this.1
      · exact k
    · intro a ha b hb k l
      have := ps a ha b hb
      by_cases e : a = b
      · exact e
      · rw [p3, if_neg e, k, l] at this
        simp at this
    · intro a ha b hb c hc k l
      have := ps a ha b hb
      rw [p3, Bool.and_eq_true, allF0] at this
      have := this.2 c hc
      rcases bits a ha c hc with m | m
      · rw [p4, k, l, m] at this
        simp at this
      · exact m
  · intro h
    refine ⟨fun a ha => ?_, fun a ha => allF0.2 fun b hb => ?_⟩
    · rw [p0, Bool.and_eq_true, allF0]
      refine ⟨decide_eq_true (h.row ha), fun b hb => decide_eq_true ?_⟩
      have := h.bit ha hb
      omega
    · rw [p3, Bool.and_eq_true, allF0]
      constructor
      · by_cases e : a = b
        · subst e
          rw [if_pos rfl, h.refl ha]
          rfl
        · rw [if_neg e, Bool.not_eq_true', Bool.and_eq_false_iff, decide_eq_false_iff_not, decide_eq_false_iff_not]
          by_cases k : rdN u a b = 1
          · exact .inr fun l => e (h.anti ha hb k l)
          · exact .inl k
      · intro c hc
        rw [p4, Bool.not_eq_true']
        by_cases k : rdN u a b = 1
        · by_cases l : rdN u b c = 1
          · rw [h.trans ha hb hc k l]
            simp
          · simp [l]
        · simp [k]
theorem spec_ord (u : List (List Int)) : Ev (fun k => spec_OrderOk.f k u) (decide (Ord u)) := by
  unfold spec_OrderOk.f
  refine Ev.bindc (l1In_eq _ _ _) ?_
  by_cases h : 1 ≤ u.length ∧ u.length ≤ 12
  · refine Ev.tt (decide_eq_true (by omega)) ?_
    exact Ev.to (so_l0 h.2 0 (Nat.zero_le _) (fun c hc => by omega)) (ord_of_loops u h.1 h.2)
  · refine Ev.ff (decide_eq_false (by omega)) ?_
    exact Ev.ret (decide_eq_false (fun k => h ⟨k.1, k.2.1⟩)).symm
end Go.Proofs.Ytilgbnbeonlbnaa.Q


namespace Go.Proofs.Ytilgbnbeonlbnaa.Q
open Go.RowKit Go.Proofs.YtilgbnbeonlbnaaW.PrintWords Go.Proofs.YtilgbnbeonlbnaaW.PrintLast Go.Proofs.YtilgbnbeonlbnaaW.PrintMore Go.Proofs.Ytilgbnbeonlbnaa.P Go.Proofs.Cl
set_option linter.unusedVariables false

section
variable (u : List (List Int))
def q4 (a b c : Nat) : Bool := !(decide (rdN u a b = 1) && decide (rdN u b c = 1) && !decide (rdN u a c = 1))
def q1 (a b : Nat) : Bool := (decide (rdN u a b = 0) || decide (rdN u a b = 1)) && decide ((u.getD b []).length = u.length) && !(decide (rdN u a b = 1) && !decide (a = b) && decide (rdN u b a = 1))
def q0 (a : Nat) : Bool := decide ((u.getD a []).length = u.length) && decide (rdN u a a = 1) && allF u.length (q1 u a) 0
variable {u}
theorem io_l4 (hn : u.length ≤ 12) (HR : ∀ a, a < u.length → (rd_L1 u (a : Int)).length = u.length) {a b : Nat} (ha : a < u.length) (hb : b < u.length) {r : Bool}
    (H : Ev (fun k => impl_OrderOk.l3 k u u.length a u.length a u.length ((b + 1 : Nat) : Int)) r) (c : Nat) (hc : c ≤ u.length) :
    Ev (fun k => impl_OrderOk.l4 k u u.length a b u.length a u.length b u.length c) (allF u.length (q4 u a b) c && r) := by
  refine down u.length (fun c => Ev (fun k => impl_OrderOk.l4 k u u.length a b u.length a u.length b u.length c) (allF u.length (q4 u a b) c && r)) ?_ ?_ c hc
  · refine Ev.step (fun k => impl_OrderOk.l4.eq_2 ..) ?_
    refine Ev.neg (by omega) ?_
    rw [allF_end (Nat.le_refl _), Bool.true_and, wrap_succ b (by omega)]
    exact H
  · intro c hc ih
    have h1 := HR a ha
    have h2 := HR b hb
    refine Ev.step (fun k => impl_OrderOk.l4.eq_2 ..) ?_
    repeat (refine Ev.pos (by omega) ?_)
    rw [allF_step hc, wrap_succ c (by omega)]
    by_cases k1 : rdN u a b = 1
    · refine Ev.pos k1 ?_
      repeat (refine Ev.pos (by omega) ?_)
      by_cases k2 : rdN u b c = 1
      · refine Ev.pos k2 ?_
        repeat (refine Ev.pos (by omega) ?_)
        by_cases k3 : rdN u a c = 1
        · refine Ev.pos k3 ?_
          exact Ev.to ih (by simp [q4, k3])
        · refine Ev.neg k3 ?_
          exact Ev.ret (by simp [q4, k1, k2, k3])
      · refine Ev.neg k2 ?_
        exact Ev.to ih (by simp [q4, k2])
    · refine Ev.neg k1 ?_
      exact Ev.to ih (by simp [q4, k1])
theorem io_l3 (hn : u.length ≤ 12) (HR : ∀ a, a < u.length → (rd_L1 u (a : Int)).length = u.length) {a : Nat} (ha : a < u.length) {r : Bool}
    (H : Ev (fun k => impl_OrderOk.l2 k u u.length u.length ((a + 1 : Nat) : Int)) r) (b : Nat) (hb : b ≤ u.length) :
    Ev (fun k => impl_OrderOk.l3 k u u.length a u.length a u.length b) (allF u.length (fun b => allF u.length (q4 u a b) 0) b && r) := by
  refine down u.length (fun b => Ev (fun k => impl_OrderOk.l3 k u u.length a u.length a u.length b) (allF u.length (fun b => allF u.length (q4 u a b) 0) b && r)) ?_ ?_ b hb
  · refine Ev.step (fun k => impl_OrderOk.l3.eq_2 ..) ?_
    refine Ev.neg (by omega) ?_
    rw [allF_end (Nat.le_refl _), Bool.true_and, wrap_succ a (by omega)]
    exact H
  · intro b hb ih
    refine Ev.step (fun k => impl_OrderOk.l3.eq_2 ..) ?_
    refine Ev.pos (by omega) ?_
    rw [allF_step hb, Bool.and_assoc]
    exact io_l4 hn HR ha hb ih 0 (Nat.zero_le _)
theorem io_l2 (hn : u.length ≤ 12) (HR : ∀ a, a < u.length → (rd_L1 u (a : Int)).length = u.length) (a : Nat) (ha : a ≤ u.length) :
    Ev (fun k => impl_OrderOk.l2 k u u.length u.length a) (allF u.length (fun a => allF u.length (fun b => allF u.length (q4 u a b) 0) 0) a) := by
  refine down u.length (fun a => Ev (fun k => impl_OrderOk.l2 k u u.length u.length a) (allF u.length (fun a => allF u.length (fun b => allF u.length (q4 u a b) 0) 0) a)) ?_ ?_ a ha
  · refine Ev.step (fun k => impl_OrderOk.l2.eq_2 ..) ?_
    refine Ev.neg (by omega) ?_
    exact Ev.ret (allF_end (Nat.le_refl _)).symm
  · intro a ha ih
    refine Ev.step (fun k => impl_OrderOk.l2.eq_2 ..) ?_
    refine Ev.pos (by omega) ?_
    rw [allF_step ha]
    exact io_l3 hn HR ha ih 0 (Nat.zero_le _)
theorem io_l1 (hn : u.length ≤ 12) {a : Nat} (ha : a < u.length) (h1 : (rd_L1 u (a : Int)).length = u.length) {r : Bool}
    (H : Ev (fun k => impl_OrderOk.l0 k u u.length u u.length ((a + 1 : Nat) : Int)) r) (b : Nat) (hb : b ≤ u.length) :
    Ev (fun k => impl_OrderOk.l1 k u u.length a u u.length a (rd_L1 u (a : Int)) u.length b) (allF u.length (q1 u a) b && r) := by
  refine down u.length (fun b => Ev (fun k => impl_OrderOk.l1 k u u.length a u u.length a (rd_L1 u (a : Int)) u.length b) (allF u.length (q1 u a) b && r)) ?_ ?_ b hb
  · refine Ev.step (fun k => impl_OrderOk.l1.eq_2 ..) ?_
    refine Ev.neg (by omega) ?_
    rw [allF_end (Nat.le_refl _), Bool.true_and, wrap_succ a (by omega)]
    exact H
  · intro b hb ih
    have key : ∀ x : Bool, x = !(decide (rdN u a b = 0) || decide (rdN u a b = 1)) → Ev (fun k => impl_OrderOk.j4 k u u.length a b (rd (rd_L1 u (a : Int)) (b : Int)) u u.length a (rd_L1 u (a : Int)) u.length b x) (q1 u a b && allF u.length (q1 u a) (b + 1) && r) := by
      intro x hx
      refine Ev.step (fun k => impl_OrderOk.j4.eq_2 ..) ?_
      have hx' : (decide (rdN u a b = 0) || decide (rdN u a b = 1)) = !x := by rw [hx, Bool.not_not]
      cases x with
      | true => exact Ev.pos rfl (Ev.ret (by simp [q1, hx']))
      | false =>
        refine Ev.neg Bool.false_ne_true ?_
        repeat (refine Ev.pos (by omega) ?_)
        by_cases k1 : (rd_L1 u (b : Int)).length = u.length
        · refine Ev.pos (by omega) ?_
          have k1' : (u.getD b []).length = u.length := k1
          rw [wrap_succ b (by omega)]
          by_cases k2 : rdN u a b = 1
          · refine Ev.pos k2 ?_
            by_cases e : a = b
            · refine Ev.pos (by omega) ?_
              exact Ev.to ih (by rw [q1, hx', decide_eq_true k1', decide_eq_true e]; simp)
            · refine Ev.neg (by omega) ?_
              repeat (refine Ev.pos (by omega) ?_)
              by_cases k3 : rdN u b a = 1
              · exact Ev.pos k3 (Ev.ret (by rw [q1, hx', decide_eq_true k1', decide_eq_true k2, decide_eq_true k3, decide_eq_false e]; simp))
              · exact Ev.neg k3 (Ev.to ih (by rw [q1, hx', decide_eq_true k1', decide_eq_false k3]; simp))
          · exact Ev.neg k2 (Ev.to ih (by rw [q1, hx', decide_eq_true k1', decide_eq_false k2]; simp))
        · refine Ev.neg (by omega) ?_
          have k1' : ¬ (u.getD b []).length = u.length := k1
          exact Ev.ret (by rw [q1, decide_eq_false k1']; simp)
    refine Ev.step (fun k => impl_OrderOk.l1.eq_2 ..) ?_
    rw [h1]
    repeat (refine Ev.pos (by omega) ?_)
    rw [allF_step hb]
    by_cases k1 : rdN u a b = 0
    · exact Ev.pos k1 (key false (by rw [decide_eq_true k1]; rfl))
    · refine Ev.neg k1 (key _ ?_)
      rw [decide_eq_false k1, Bool.false_or]
      rfl
theorem io_l0 (hn : u.length ≤ 12) (a : Nat) (ha : a ≤ u.length) : (∀ c, c < a → (rd_L1 u (c : Int)).length = u.length) →
    Ev (fun k => impl_OrderOk.l0 k u u.length u u.length a) (allF u.length (q0 u) a && allF u.length (fun a => allF u.length (fun b => allF u.length (q4 u a b) 0) 0) 0) := by
  refine down u.length (fun a => (∀ c, c < a → (rd_L1 u (c : Int)).length = u.length) →
    Ev (fun k => impl_OrderOk.l0 k u u.length u u.length a) (allF u.length (q0 u) a && allF u.length (fun a => allF u.length (fun b => allF u.length (q4 u a b) 0) 0) 0)) ?_ ?_ a ha
  · intro HR
    refine Ev.step (fun k => impl_OrderOk.l0.eq_2 ..) ?_
    refine Ev.neg (by omega) ?_
    rw [allF_end (Nat.le_refl _), Bool.true_and]
    exact io_l2 hn HR 0 (Nat.zero_le _)
  · intro a ha ih HR
    refine Ev.step (fun k => impl_OrderOk.l0.eq_2 ..) ?_
    repeat (refine Ev.pos (by omega) ?_)
    rw [allF_step ha]
    by_cases e : (rd_L1 u (a : Int)).length = u.length
    · refine Ev.pos (by omega) ?_
      refine Ev.pos (by omega) ?_
      have e' : (u.getD a []).length = u.length := e
      refine Ev.step (fun k => impl_OrderOk.j2.eq_2 ..) ?_
      by_cases k1 : rdN u a a = 1
      · refine Ev.ff (show (rd (rd_L1 u (a : Int)) (a : Int) != 1) = false from bne_eq_false_iff_eq.2 k1) ?_
        rw [e]
        refine Ev.to (io_l1 hn ha e (ih (fun c hc => by
          by_cases e2 : c = a
          · rw [e2]; exact e
          · exact HR c (by omega))) 0 (Nat.zero_le _)) ?_
        rw [q0, decide_eq_true e', decide_eq_true k1, Bool.true_and, Bool.true_and, Bool.and_assoc]
      · refine Ev.tt (show (rd (rd_L1 u (a : Int)) (a : Int) != 1) = true from bne_iff_ne.2 k1) ?_
        exact Ev.ret (by rw [q0, decide_eq_false k1]; simp)
    · refine Ev.neg (by omega) ?_
      refine Ev.step (fun k => impl_OrderOk.j2.eq_2 ..) ?_
      refine Ev.pos rfl (Ev.ret ?_)
      rw [q0, decide_eq_false (show ¬ (u.getD a []).length = u.length from e)]
      simp
end
theorem ord_of_loops' (u : List (List Int)) (h1 : 1 ≤ u.length) (h2 : u.length ≤ 12) :
    (allF u.length (q0 u) 0 && allF u.length (fun a => allF u.length (fun b => allF u.length (q4 u a b) 0) 0) 0) = decide (Ord u) := by
  rw [Bool.eq_iff_iff, Bool.and_eq_true, allF0, allF0, decide_eq_true_iff]
  constructor
  · intro ⟨k0, k4⟩
    have all0 : ∀ a, a < u.length → (u.getD a []).length = u.length ∧ rdN u a a = 1 ∧ ∀ b, b < u.length → q1 u a b = true := fun a ha => by
      have := k0 a ha
      rw [q0, Bool.and_eq_true, Bool.and_eq_true, decide_eq_true_iff, decide_eq_true_iff, allF0] at this
      exact ⟨this.1.1, this.1.2, this.2⟩
    refine ⟨h1, h2, fun a ha => (all0 a ha).1, ?_, fun a ha => (all0 a ha).2.1, ?_, ?_⟩
    · intro a ha b hb
      have := (all0 a ha).2.2 b hb
      simp only [q1, Bool.and_eq_true, Bool.or_eq_true, decide_eq_true_iff] at this
      exact this.1.1
    · intro a ha b hb k l
      have := (all0 a ha).2.2 b hb
      by_cases e : a = b
      · exact e
      · simp [q1, k, l, e] at this
    · intro a ha b hb c hc k l
      have := allF0.1 (allF0.1 (k4 a ha) b hb) c hc
      simpa [q4, k, l] using this
  · intro h
    refine ⟨fun a ha => ?_, fun a ha => allF0.2 fun b hb => allF0.2 fun c hc => ?_⟩
    · rw [q0, Bool.and_eq_true, Bool.and_eq_true, decide_eq_true_iff, decide_eq_true_iff, allF0]
      refine ⟨⟨h.row ha, h.refl ha⟩, fun b hb => ?_⟩
      rw [q1, Bool.and_eq_true, Bool.and_eq_true, Bool.or_eq_true, decide_eq_true_iff, decide_eq_true_iff, decide_eq_true_iff, Bool.not_eq_true']
      refine ⟨⟨h.bit ha hb, h.row hb⟩, ?_⟩
      by_cases k : rdN u a b = 1
      · by_cases l : rdN u b a = 1
        · simp [h.anti ha hb k l]
        · simp [l]
      · simp [k]
    · rw [q4, Bool.not_eq_true']
      by_cases k : rdN u a b = 1
      · by_cases l : rdN u b c = 1
        · simp [h.trans ha hb hc k l]
        · simp [l]
      · simp [k]
theorem impl_ord (u : List (List Int)) : Ev (fun k => impl_OrderOk.f k u) (decide (Ord u)) := by
  unfold impl_OrderOk.f
  by_cases h1 : 1 ≤ u.length
  · refine Ev.neg (by omega) ?_
    refine Ev.step (fun k => impl_OrderOk.j0.eq_2 ..) ?_
    by_cases h2 : u.length ≤ 12
    · refine Ev.ff (decide_eq_false (by omega)) ?_
      exact Ev.to (io_l0 h2 0 (Nat.zero_le _) (fun c hc => by omega)) (ord_of_loops' u h1 h2)
    · refine Ev.tt (decide_eq_true (by omega)) ?_
      exact Ev.ret (decide_eq_false (fun k => h2 k.2.1)).symm
  · refine Ev.pos (by omega) ?_
    refine Ev.step (fun k => impl_OrderOk.j0.eq_2 ..) ?_
    exact Ev.pos rfl (Ev.ret (decide_eq_false (fun k => h1 k.1)).symm)
end Go.Proofs.Ytilgbnbeonlbnaa.Q


namespace Go.Proofs.Ytilgbnbeonlbnaa.Q
open Go.RowKit Go.Proofs.YtilgbnbeonlbnaaW.PrintWords Go.Proofs.YtilgbnbeonlbnaaW.PrintLast Go.Proofs.YtilgbnbeonlbnaaW.PrintMore Go.Proofs.Ytilgbnbeonlbnaa.P Go.Proofs.Cl
set_option linter.unusedVariables false

section
variable (u : List (List Int))
variable {u}
theorem row_len (h : Ord u) {a : Nat} (ha : a < u.length) : (rd_L1 u (a : Int)).length = u.length := h.row ha
variable (u) in
end
end Go.Proofs.Ytilgbnbeonlbnaa.Q


namespace Go.Proofs.Ytilgbnbeonlbnaa.Q
open Go.RowKit Go.Proofs.YtilgbnbeonlbnaaW.PrintWords Go.Proofs.YtilgbnbeonlbnaaW.PrintLast Go.Proofs.YtilgbnbeonlbnaaW.PrintMore Go.Proofs.Ytilgbnbeonlbnaa.P Go.Proofs.Cl
set_option linter.unusedVariables false

def trow (u : List (List Int)) (a : Nat) : List Int := (List.range u.length).map fun b => rdN u b a
def mid (u : List (List Int)) (a : Nat) (row : List Int) : List (List Int) := (List.range a).map (trow u) ++ row :: List.replicate (u.length - (a + 1)) []
theorem mid_len {u : List (List Int)} {a : Nat} (ha : a < u.length) (row : List Int) : (mid u a row).length = u.length := by
  simp [mid]
  omega
theorem mid_row {u : List (List Int)} {a : Nat} (row : List Int) : rd_L1 (mid u a row) (a : Int) = row := by
  rw [row_nat, List.getD_eq_getElem?_getD, mid, List.getElem?_append_right (by simp)]
  simp
theorem mid_set {u : List (List Int)} {a : Nat} (row row' : List Int) : (mid u a row).set a row' = mid u a row' := by
  unfold mid
  rw [List.set_append, if_neg (by simp)]
  simp
theorem it_l1 {u : List (List Int)} (h : Ord u) {a : Nat} (ha : a < u.length) {r : List (List Int)} (H : Ev (fun k => impl_turned.l0 k u (mid u a (trow u a)) u.length ((a + 1 : Nat) : Int)) r) (b : Nat) (hb : b ≤ u.length) :
    Ev (fun k => impl_turned.l1 k u (mid u a ((trow u a).take b ++ List.replicate (u.length - b) 0)) a u.length a u.length b) r := by
  have hn := h.le12
  have ht : (trow u a).length = u.length := by simp [trow]
  refine down u.length (fun b => Ev (fun k => impl_turned.l1 k u (mid u a ((trow u a).take b ++ List.replicate (u.length - b) 0)) a u.length a u.length b) r) ?_ ?_ b hb
  · refine Ev.step (fun k => impl_turned.l1.eq_2 ..) (Ev.neg (by omega) ?_)
    rw [wrap_succ a (by omega), Nat.sub_self, List.take_of_length_le (by omega)]
    simpa using H
  · intro b hb ih
    have r1 := row_len h hb
    have hr : ((trow u a).take b ++ List.replicate (u.length - b) (0 : Int)).length = u.length := by simp [ht]; omega
    refine Ev.step (fun k => impl_turned.l1.eq_2 ..) ?_
    rw [mid_row, mid_len ha, hr]
    repeat (refine Ev.pos (by omega) ?_)
    rw [wrap_succ b (by omega), show ((b : Int)).toNat = b from rfl, show ((a : Int)).toNat = a from rfl, mid_set]
    have e : rd (rd_L1 u (b : Int)) (a : Int) = (trow u a)[b]'(by omega) := by
      rw [at_nat]
      simp [trow]
    have st := set_step (trow u a) (0 : Int) b (by omega)
    simp only [ht] at st
    rw [e, st]
    exact ih
theorem it_l0 {u : List (List Int)} (h : Ord u) (a : Nat) (ha : a ≤ u.length) :
    Ev (fun k => impl_turned.l0 k u ((List.range a).map (trow u) ++ List.replicate (u.length - a) []) u.length a) (turn u) := by
  have hn := h.le12
  refine down u.length (fun a => Ev (fun k => impl_turned.l0 k u ((List.range a).map (trow u) ++ List.replicate (u.length - a) []) u.length a) (turn u)) ?_ ?_ a ha
  · refine Ev.step (fun k => impl_turned.l0.eq_2 ..) (Ev.neg (by omega) (Ev.ret ?_))
    rw [Nat.sub_self]
    simp [turn, trow]
  · intro a ha ih
    refine Ev.step (fun k => impl_turned.l0.eq_2 ..) ?_
    refine Ev.pos (by omega) (Ev.pos (by omega) (Ev.pos (by omega) (Ev.pos (by omega) (Ev.pos (by simp; omega) ?_))))
    have e : ((List.range a).map (trow u) ++ List.replicate (u.length - a) ([] : List Int)).set ((a : Int)).toNat (List.replicate ((u.length : Int)).toNat 0) = mid u a ((trow u a).take 0 ++ List.replicate (u.length - 0) 0) := by
      rw [show ((a : Int)).toNat = a from rfl, show ((u.length : Int)).toNat = u.length from rfl, show u.length - a = (u.length - (a + 1)) + 1 by omega, List.replicate_succ]
      exact mid_set [] _
    rw [e]
    refine it_l1 h ha ?_ 0 (Nat.zero_le _)
    have e2 : (List.range (a + 1)).map (trow u) ++ List.replicate (u.length - (a + 1)) [] = mid u a (trow u a) := by
      rw [List.range_succ, List.map_append, mid, List.append_assoc]
      rfl
    rw [e2] at ih
    exact ih
theorem turned_ev {u : List (List Int)} (h : Ord u) : Ev (fun k => impl_turned.f k u) (turn u) := by
  have hn := h.le12
  unfold impl_turned.f
  refine Ev.pos (by omega) (Ev.pos (by omega) ?_)
  have := it_l0 h 0 (Nat.zero_le _)
  simpa using this
theorem sl_l1 {u : List (List Int)} (h : Ord u) {a : Nat} (ha : a < u.length) {r : Int × Bool} (H : Ev (fun k => spec_LeastOf.l0 k u ((a + 1 : Nat) : Int)) r) (b : Nat) (hb : b ≤ u.length) :
    ∀ g : Bool, Ev (fun k => spec_LeastOf.l1 k u a g b) (if (g && allF u.length (fun b => decide (rdN u a b = 1)) b) = true then ((a : Int), true) else r) := by
  have hn := h.le12
  have h1 := row_len h ha
  refine down u.length (fun b => ∀ g : Bool, Ev (fun k => spec_LeastOf.l1 k u a g b) (if (g && allF u.length (fun b => decide (rdN u a b = 1)) b) = true then ((a : Int), true) else r)) ?_ ?_ b hb
  · intro g
    refine Ev.step (fun k => spec_LeastOf.l1.eq_2 ..) ?_
    refine Ev.neg (by omega) ?_
    rw [allF_end (Nat.le_refl _), wrap_succ a (by omega)]
    cases g with
    | true => exact Ev.pos rfl (Ev.ret (by simp))
    | false => exact Ev.neg Bool.false_ne_true (Ev.to H (by simp))
  · intro b hb ih g
    refine Ev.step (fun k => spec_LeastOf.l1.eq_2 ..) ?_
    refine Ev.pos (by omega) ?_
    rw [allF_step hb, wrap_succ b (by omega)]
    cases g with
    | true =>
      refine Ev.pos rfl ?_
      repeat (refine Ev.pos (by omega) ?_)
      exact Ev.to (ih _) (by rw [Bool.true_and]; rfl)
    | false => exact Ev.neg Bool.false_ne_true (Ev.to (ih false) (by simp))
theorem sl_l0 {u : List (List Int)} (h : Ord u) (a : Nat) (ha : a ≤ u.length) :
    Ev (fun k => spec_LeastOf.l0 k u a) (let i := firstF u.length (fun a => decide (IsLeast u a)) a; (i, decide (0 ≤ i))) := by
  have hn := h.le12
  refine down u.length (fun a => Ev (fun k => spec_LeastOf.l0 k u a) (let i := firstF u.length (fun a => decide (IsLeast u a)) a; (i, decide (0 ≤ i)))) ?_ ?_ a ha
  · refine Ev.step (fun k => spec_LeastOf.l0.eq_2 ..) ?_
    refine Ev.neg (by omega) ?_
    refine Ev.step (fun k => spec_LeastOf.j1.eq_2 ..) ?_
    exact Ev.neg Bool.false_ne_true (Ev.ret (by rw [firstF_end (Nat.le_refl _)]; rfl))
  · intro a ha ih
    refine Ev.step (fun k => spec_LeastOf.l0.eq_2 ..) ?_
    refine Ev.pos (by omega) ?_
    refine Ev.bind (spec_ord u) ?_
    refine Ev.step (fun k => spec_LeastOf.j1.eq_2 ..) ?_
    refine Ev.tt (decide_eq_true h) ?_
    refine Ev.to (sl_l1 h ha ih 0 (Nat.zero_le _) true) ?_
    rw [firstF_step ha]
    by_cases e : IsLeast u a
    · rw [if_pos (by rw [Bool.true_and, allF0]; exact fun c hc => decide_eq_true (e c hc)), if_pos (decide_eq_true e)]
      simp
    · rw [if_neg (by rw [Bool.true_and, allF0]; exact fun k => e fun c hc => of_decide_eq_true (k c hc)), if_neg (by rw [decide_eq_true_iff]; exact e)]
theorem spec_least_ev (u : List (List Int)) : Ev (fun k => spec_LeastOf.f k u) (leastOfP u) := by
  unfold spec_LeastOf.f
  by_cases h : Ord u
  · exact Ev.to (sl_l0 h 0 (Nat.zero_le _)) (by rw [leastOfP, if_pos h]; rfl)
  · rw [leastOfP, if_neg h]
    refine Ev.step (fun k => spec_LeastOf.l0.eq_2 ..) ?_
    by_cases e : (0 : Int) < u.length
    · refine Ev.pos e ?_
      refine Ev.bind (spec_ord u) ?_
      refine Ev.step (fun k => spec_LeastOf.j1.eq_2 ..) ?_
      exact Ev.ff (decide_eq_false h) (Ev.ret rfl)
    · refine Ev.neg e ?_
      refine Ev.step (fun k => spec_LeastOf.j1.eq_2 ..) ?_
      exact Ev.neg Bool.false_ne_true (Ev.ret rfl)
theorem il_l1 {u : List (List Int)} (h : Ord u) {a : Nat} (ha : a < u.length) {r : Int × Bool} (H : Ev (fun k => impl_LeastOf.l0 k u u.length ((a + 1 : Nat) : Int)) r) (b : Nat) (hb : b ≤ u.length) :
    ∀ g : Bool, Ev (fun k => impl_LeastOf.l1 k a g u u.length a (rd_L1 u (a : Int)) u.length b) (if (g && allF u.length (fun b => decide (rdN u a b = 1)) b) = true then ((a : Int), true) else r) := by
  have hn := h.le12
  have h1 := row_len h ha
  refine down u.length (fun b => ∀ g : Bool, Ev (fun k => impl_LeastOf.l1 k a g u u.length a (rd_L1 u (a : Int)) u.length b) (if (g && allF u.length (fun b => decide (rdN u a b = 1)) b) = true then ((a : Int), true) else r)) ?_ ?_ b hb
  · intro g
    refine Ev.step (fun k => impl_LeastOf.l1.eq_2 ..) ?_
    refine Ev.neg (by omega) ?_
    rw [allF_end (Nat.le_refl _), wrap_succ a (by omega)]
    cases g with
    | true => exact Ev.pos rfl (Ev.ret (by simp))
    | false => exact Ev.neg Bool.false_ne_true (Ev.to H (by simp))
  · intro b hb ih g
    refine Ev.step (fun k => impl_LeastOf.l1.eq_2 ..) ?_
    repeat (refine Ev.pos (by omega) ?_)
    rw [allF_step hb, wrap_succ b (by omega)]
    cases g with
    | true =>
      refine Ev.pos rfl ?_
      exact Ev.to (ih _) (by rw [Bool.true_and]; rfl)
    | false => exact Ev.neg Bool.false_ne_true (Ev.to (ih false) (by simp))
theorem il_l0 {u : List (List Int)} (h : Ord u) (a : Nat) (ha : a ≤ u.length) :
    Ev (fun k => impl_LeastOf.l0 k u u.length a) (let i := firstF u.length (fun a => decide (IsLeast u a)) a; (i, decide (0 ≤ i))) := by
  have hn := h.le12
  refine down u.length (fun a => Ev (fun k => impl_LeastOf.l0 k u u.length a) (let i := firstF u.length (fun a => decide (IsLeast u a)) a; (i, decide (0 ≤ i)))) ?_ ?_ a ha
  · refine Ev.step (fun k => impl_LeastOf.l0.eq_2 ..) ?_
    refine Ev.neg (by omega) ?_
    exact Ev.ret (by rw [firstF_end (Nat.le_refl _)]; rfl)
  · intro a ha ih
    refine Ev.step (fun k => impl_LeastOf.l0.eq_2 ..) ?_
    repeat (refine Ev.pos (by omega) ?_)
    rw [row_len h ha]
    refine Ev.to (il_l1 h ha ih 0 (Nat.zero_le _) true) ?_
    rw [firstF_step ha]
    by_cases e : IsLeast u a
    · rw [if_pos (by rw [Bool.true_and, allF0]; exact fun c hc => decide_eq_true (e c hc)), if_pos (decide_eq_true e)]
      simp
    · rw [if_neg (by rw [Bool.true_and, allF0]; exact fun k => e fun c hc => of_decide_eq_true (k c hc)), if_neg (by rw [decide_eq_true_iff]; exact e)]
theorem impl_least_ev (u : List (List Int)) : Ev (fun k => impl_LeastOf.f k u) (leastOfP u) := by
  unfold impl_LeastOf.f
  refine Ev.bind (impl_ord u) ?_
  by_cases h : Ord u
  · refine Ev.tt (decide_eq_true h) ?_
    exact Ev.to (il_l0 h 0 (Nat.zero_le _)) (by rw [leastOfP, if_pos h]; rfl)
  · exact Ev.ff (decide_eq_false h) (Ev.ret (by rw [leastOfP, if_neg h]))

end Go.Proofs.Ytilgbnbeonlbnaa.Q


namespace Go.Proofs.Ytilgbnbeonlbnaa.Q
open Go.RowKit Go.Proofs.YtilgbnbeonlbnaaW.PrintWords Go.Proofs.YtilgbnbeonlbnaaW.PrintLast Go.Proofs.YtilgbnbeonlbnaaW.PrintMore Go.Proofs.Ytilgbnbeonlbnaa.P Go.Proofs.Cl
set_option linter.unusedVariables false

theorem toIntS_ev (xs : List Int) (h : xs.length ≤ 35184372088832) : Ev (fun k => laws_toIntS.f k xs) xs := by
  unfold laws_toIntS.f
  refine Ev.pos (by omega) (Ev.pos (by omega) ?_)
  have key : ∀ i, i ≤ xs.length → Ev (fun k => laws_toIntS.l0 k xs (xs.take i ++ List.replicate (xs.length - i) 0) i) xs := by
    intro i hi
    refine down xs.length (fun i => Ev (fun k => laws_toIntS.l0 k xs (xs.take i ++ List.replicate (xs.length - i) 0) i) xs) ?_ ?_ i hi
    · refine Ev.step (fun k => laws_toIntS.l0.eq_2 ..) ?_
      exact Ev.neg (by omega) (Ev.ret (by simp))
    · intro i hi ih
      refine Ev.step (fun k => laws_toIntS.l0.eq_2 ..) ?_
      refine Ev.pos (by omega) (Ev.pos (by omega) (Ev.pos (by simp; omega) ?_))
      rw [wrap_succ' i (by omega), rd_lt xs hi, show ((i : Int)).toNat = i from rfl, set_step xs 0 i hi]
      exact ih
  have := key 0 (Nat.zero_le _)
  simpa using this
theorem toIntSS_ev (u : List (List Int)) (h : u.length ≤ 11728124029610) (hr : ∀ i (k : i < u.length), u[i].length ≤ 35184372088832) : Ev (fun k => laws_toIntSS.f k u) u := by
  unfold laws_toIntSS.f
  refine Ev.pos (by omega) (Ev.pos (by omega) ?_)
  have key : ∀ i, i ≤ u.length → Ev (fun k => laws_toIntSS.l0 k u (u.take i ++ List.replicate (u.length - i) []) i) u := by
    intro i hi
    refine down u.length (fun i => Ev (fun k => laws_toIntSS.l0 k u (u.take i ++ List.replicate (u.length - i) []) i) u) ?_ ?_ i hi
    · refine Ev.step (fun k => laws_toIntSS.l0.eq_2 ..) ?_
      exact Ev.neg (by omega) (Ev.ret (by simp))
    · intro i hi ih
      refine Ev.step (fun k => laws_toIntSS.l0.eq_2 ..) ?_
      refine Ev.pos (by omega) (Ev.pos (by omega) ?_)
      rw [row_lt u hi]
      refine Ev.bind (toIntS_ev _ (hr i hi)) ?_
      refine Ev.pos (by simp; omega) ?_
      rw [wrap_succ' i (by omega), show ((i : Int)).toNat = i from rfl, set_step u [] i hi]
      exact ih
  have := key 0 (Nat.zero_le _)
  simpa using this
theorem eqIntS_ev (xs : List Int) (h : xs.length < 9223372036854775807) : Ev (fun k => laws_eqIntS.f k xs xs) true := by
  unfold laws_eqIntS.f
  refine Ev.pos rfl ?_
  refine down xs.length (fun i => Ev (fun k => laws_eqIntS.l0 k xs xs i) true) ?_ ?_ 0 (Nat.zero_le _)
  · refine Ev.step (fun k => laws_eqIntS.l0.eq_2 ..) ?_
    exact Ev.neg (by omega) (Ev.ret rfl)
  · intro i hi ih
    refine Ev.step (fun k => laws_eqIntS.l0.eq_2 ..) ?_
    refine Ev.pos (by omega) (Ev.pos (by omega) (Ev.pos (by omega) (Ev.pos rfl ?_)))
    rw [wrap_succ' i (by omega)]
    exact ih
theorem eqIntSS_ev (u : List (List Int)) (h : u.length < 9223372036854775807) (hr : ∀ i (k : i < u.length), u[i].length < 9223372036854775807) : Ev (fun k => laws_eqIntSS.f k u u) true := by
  unfold laws_eqIntSS.f
  refine Ev.pos rfl ?_
  refine down u.length (fun i => Ev (fun k => laws_eqIntSS.l0 k u u i) true) ?_ ?_ 0 (Nat.zero_le _)
  · refine Ev.step (fun k => laws_eqIntSS.l0.eq_2 ..) ?_
    exact Ev.neg (by omega) (Ev.ret rfl)
  · intro i hi ih
    refine Ev.step (fun k => laws_eqIntSS.l0.eq_2 ..) ?_
    refine Ev.pos (by omega) (Ev.pos (by omega) (Ev.pos (by omega) ?_))
    rw [row_lt u hi]
    refine Ev.bind (eqIntS_ev _ (hr i hi)) (Ev.pos rfl ?_)
    rw [wrap_succ' i (by omega)]
    exact ih
theorem szIntS_eq (xs : List Int) (a : Int) (h0 : 0 ≤ a) (h1 : a ≤ 1048576) (hx : xs.length ≤ 9223372036854775807) : laws_szIntS.f xs a = some (if a - xs.length < 0 then -1 else a - xs.length) := by
  unfold laws_szIntS.f
  rw [wrap_of _ (by omega) (by omega)]
  by_cases h : a - xs.length < 0
  · rw [if_pos h, if_pos h]
  · rw [if_neg h, if_neg h]
theorem szIntSS_ev (u : List (List Int)) (a : Int) (h0 : 0 ≤ a) (h1 : a ≤ 1048576) (hu : u.length ≤ 9223372036854775807) (hr : ∀ i (k : i < u.length), u[i].length ≤ 9223372036854775807) :
    ∃ r, Ev (fun k => laws_szIntSS.f k u a) r ∧ r ≤ 1048576 ∧ (0 ≤ r → u.length ≤ 1048576 ∧ ∀ i (k : i < u.length), u[i].length ≤ 1048576) := by
  unfold laws_szIntSS.f
  rw [wrap_of _ (by omega) (by omega)]
  by_cases e : a - u.length < 0
  · exact ⟨-1, Ev.pos e (Ev.ret rfl), by omega, fun h => by omega⟩
  · have key : ∀ i, i ≤ u.length → ∀ b : Int, 0 ≤ b → b ≤ 1048576 → ∃ r, Ev (fun k => laws_szIntSS.l0 k u b i) r ∧ r ≤ 1048576 ∧ (0 ≤ r → ∀ j (k : j < u.length), i ≤ j → u[j].length ≤ 1048576) := by
      intro i hi
      refine down u.length (fun i => ∀ b : Int, 0 ≤ b → b ≤ 1048576 → ∃ r, Ev (fun k => laws_szIntSS.l0 k u b i) r ∧ r ≤ 1048576 ∧ (0 ≤ r → ∀ j (k : j < u.length), i ≤ j → u[j].length ≤ 1048576)) ?_ ?_ i hi
      · intro b b0 b1
        refine ⟨b, Ev.step (fun k => laws_szIntSS.l0.eq_2 ..) (Ev.neg (by omega) (Ev.ret rfl)), b1, fun _ j hj k => by omega⟩
      · intro i hi ih b b0 b1
        have hs := szIntS_eq u[i] b b0 b1 (hr i hi)
        by_cases e2 : b - u[i].length < 0
        · rw [if_pos e2] at hs
          refine ⟨-1, Ev.step (fun k => laws_szIntSS.l0.eq_2 ..) ?_, by omega, fun h => by omega⟩
          refine Ev.pos (by omega) (Ev.pos (by omega) ?_)
          rw [row_lt u hi]
          exact Ev.bindc hs (Ev.pos (by omega) (Ev.ret rfl))
        · rw [if_neg e2] at hs
          obtain ⟨r, k1, k3, k2⟩ := ih (b - u[i].length) (by omega) (by omega)
          refine ⟨r, Ev.step (fun k => laws_szIntSS.l0.eq_2 ..) ?_, k3, fun h j hj k => ?_⟩
          · refine Ev.pos (by omega) (Ev.pos (by omega) ?_)
            rw [row_lt u hi]
            refine Ev.bindc hs (Ev.neg (by omega) ?_)
            rw [wrap_succ' i (by omega)]
            exact k1
          · by_cases e3 : j = i
            · subst e3
              omega
            · exact k2 h j hj (by omega)
    obtain ⟨r, k1, k3, k2⟩ := key 0 (Nat.zero_le _) (a - u.length) (by omega) (by omega)
    exact ⟨r, Ev.neg e k1, k3, fun h => ⟨by omega, fun i hi => k2 h i hi (Nat.zero_le _)⟩⟩
end Go.Proofs.Ytilgbnbeonlbnaa.Q


namespace Go.Proofs.Ytilgbnbeonlbnaa.Q
open Go.RowKit Go.Proofs.YtilgbnbeonlbnaaW.PrintWords Go.Proofs.YtilgbnbeonlbnaaW.PrintLast Go.Proofs.YtilgbnbeonlbnaaW.PrintMore Go.Proofs.Ytilgbnbeonlbnaa.P Go.Proofs.Cl
set_option linter.unusedVariables false

theorem sx_l1 {u : List (List Int)} (h : Ord u) {a : Nat} (ha : a < u.length) {acc : List Int} (hacc : acc.length ≤ 12) {least : Int} {r : List Int}
    (H : Ev (fun k => spec_AtomsOf.l0 k u (if atomB u least a = true then acc ++ [(a : Int)] else acc) least true ((a + 1 : Nat) : Int)) r) (b : Nat) (hb : b ≤ u.length) :
    Ev (fun k => spec_AtomsOf.l1 k u acc least true a (belowN u a b) b) r := by
  have hn := h.le12
  refine down u.length (fun b => Ev (fun k => spec_AtomsOf.l1 k u acc least true a (belowN u a b) b) r) ?_ ?_ b hb
  · refine Ev.step (fun k => spec_AtomsOf.l1.eq_2 ..) ?_
    refine Ev.neg (by omega) ?_
    rw [wrap_succ a (by omega)]
    by_cases k1 : belowN u a u.length = 2
    · refine Ev.pos k1 ?_
      by_cases k2 : (a : Int) = least
      · refine Ev.pos k2 ?_
        rw [if_neg (by simp [atomB, k2])] at H
        exact H
      · refine Ev.neg k2 (Ev.pos (by omega) ?_)
        rw [if_pos (by simp [atomB, k1, k2])] at H
        exact H
    · refine Ev.neg k1 ?_
      rw [if_neg (by simp [atomB, k1])] at H
      exact H
  · intro b hb ih
    have h1 := row_len h hb
    have h2 := belowN_bound h ha b (by omega)
    have h3 := h.bit hb ha
    refine Ev.step (fun k => spec_AtomsOf.l1.eq_2 ..) ?_
    repeat (refine Ev.pos (by omega) ?_)
    rw [wrap_succ b (by omega), show wrap64 (belowN u a b + rd (rd_L1 u (b : Int)) (a : Int)) = belowN u a (b + 1) from by
      rw [at_nat, wrap_of _ (by omega) (by omega)]; rfl]
    exact ih
def atomsTo (u : List (List Int)) (least : Int) (m : Nat) : List Int := ((List.range m).filter (atomB u least)).map (fun (a : Nat) => (a : Int))
theorem atomsTo_succ (u : List (List Int)) (least : Int) (m : Nat) : atomsTo u least (m + 1) = if atomB u least m = true then atomsTo u least m ++ [(m : Int)] else atomsTo u least m := by
  unfold atomsTo
  rw [List.range_succ, List.filter_append, List.map_append]
  by_cases e : atomB u least m = true
  · simp [e]
  · simp [e]
theorem atomsTo_len (u : List (List Int)) (least : Int) (m : Nat) : (atomsTo u least m).length ≤ m := by
  unfold atomsTo
  rw [List.length_map]
  exact Nat.le_trans (List.length_filter_le _ _) (by simp)
theorem sx_l0 {u : List (List Int)} (h : Ord u) (least : Int) (a : Nat) (ha : a ≤ u.length) :
    Ev (fun k => spec_AtomsOf.l0 k u (atomsTo u least a) least true a) (atomsTo u least u.length) := by
  have hn := h.le12
  refine down u.length (fun a => Ev (fun k => spec_AtomsOf.l0 k u (atomsTo u least a) least true a) (atomsTo u least u.length)) ?_ ?_ a ha
  · refine Ev.step (fun k => spec_AtomsOf.l0.eq_2 ..) ?_
    refine Ev.neg (by omega) ?_
    refine Ev.step (fun k => spec_AtomsOf.j1.eq_2 ..) ?_
    exact Ev.neg Bool.false_ne_true (Ev.ret rfl)
  · intro a ha ih
    refine Ev.step (fun k => spec_AtomsOf.l0.eq_2 ..) ?_
    refine Ev.pos (by omega) ?_
    refine Ev.step (fun k => spec_AtomsOf.j1.eq_2 ..) ?_
    refine Ev.pos rfl ?_
    rw [atomsTo_succ] at ih
    have := atomsTo_len u least a
    exact sx_l1 h ha (by omega) ih 0 (Nat.zero_le _)
theorem spec_atoms_ev (u : List (List Int)) : Ev (fun k => spec_AtomsOf.f k u) (atomsL u) := by
  unfold spec_AtomsOf.f
  refine Ev.bind (spec_least_ev u) ?_
  by_cases h : Ord u ∧ 0 ≤ leastI u
  · rw [atomsL, if_pos h, leastOfP, if_pos h.1, decide_eq_true h.2]
    exact sx_l0 h.1 (leastI u) 0 (Nat.zero_le _)
  · rw [atomsL, if_neg h, leastOfP_no h]
    have fin : Ev (fun k => spec_AtomsOf.j1 k u [] (-1) false 0 false) [] := by
      refine Ev.step (fun k => spec_AtomsOf.j1.eq_2 ..) ?_
      exact Ev.neg Bool.false_ne_true (Ev.ret rfl)
    refine Ev.step (fun k => spec_AtomsOf.l0.eq_2 ..) ?_
    by_cases e : (0 : Int) < u.length
    · exact Ev.pos e fin
    · exact Ev.neg e fin
theorem ix_l1 {u : List (List Int)} (h : Ord u) {a : Nat} (ha : a < u.length) {acc : List Int} (hacc : acc.length ≤ 12) {least : Int} {r : List Int}
    (H : Ev (fun k => impl_AtomsOf.l0 k u least (if atomB u least a = true then acc ++ [(a : Int)] else acc) u.length ((a + 1 : Nat) : Int)) r) (b : Nat) (hb : b ≤ u.length) :
    Ev (fun k => impl_AtomsOf.l1 k u least acc a (belowN u a b) u.length a u.length b) r := by
  have hn := h.le12
  refine down u.length (fun b => Ev (fun k => impl_AtomsOf.l1 k u least acc a (belowN u a b) u.length a u.length b) r) ?_ ?_ b hb
  · refine Ev.step (fun k => impl_AtomsOf.l1.eq_2 ..) ?_
    refine Ev.neg (by omega) ?_
    rw [wrap_succ a (by omega)]
    by_cases k2 : (a : Int) = least
    · refine Ev.pos k2 ?_
      rw [if_neg (by simp [atomB, k2])] at H
      exact H
    · refine Ev.neg k2 ?_
      by_cases k1 : belowN u a u.length = 2
      · refine Ev.pos k1 (Ev.pos (by omega) ?_)
        rw [if_pos (by simp [atomB, k1, k2])] at H
        exact H
      · refine Ev.neg k1 ?_
        rw [if_neg (by simp [atomB, k1])] at H
        exact H
  · intro b hb ih
    have h1 := row_len h hb
    have h2 := belowN_bound h ha b (by omega)
    have h3 := h.bit hb ha
    refine Ev.step (fun k => impl_AtomsOf.l1.eq_2 ..) ?_
    repeat (refine Ev.pos (by omega) ?_)
    rw [wrap_succ b (by omega), show wrap64 (belowN u a b + rd (rd_L1 u (b : Int)) (a : Int)) = belowN u a (b + 1) from by
      rw [at_nat, wrap_of _ (by omega) (by omega)]; rfl]
    exact ih
theorem ix_l0 {u : List (List Int)} (h : Ord u) (least : Int) (a : Nat) (ha : a ≤ u.length) :
    Ev (fun k => impl_AtomsOf.l0 k u least (atomsTo u least a) u.length a) (atomsTo u least u.length) := by
  have hn := h.le12
  refine down u.length (fun a => Ev (fun k => impl_AtomsOf.l0 k u least (atomsTo u least a) u.length a) (atomsTo u least u.length)) ?_ ?_ a ha
  · refine Ev.step (fun k => impl_AtomsOf.l0.eq_2 ..) ?_
    exact Ev.neg (by omega) (Ev.ret rfl)
  · intro a ha ih
    refine Ev.step (fun k => impl_AtomsOf.l0.eq_2 ..) ?_
    refine Ev.pos (by omega) ?_
    rw [atomsTo_succ] at ih
    have := atomsTo_len u least a
    exact ix_l1 h ha (by omega) ih 0 (Nat.zero_le _)
theorem impl_atoms_ev (u : List (List Int)) : Ev (fun k => impl_AtomsOf.f k u) (atomsL u) := by
  unfold impl_AtomsOf.f
  refine Ev.bind (impl_least_ev u) ?_
  by_cases h : Ord u ∧ 0 ≤ leastI u
  · rw [atomsL, if_pos h, leastOfP, if_pos h.1, decide_eq_true h.2]
    refine Ev.pos rfl ?_
    exact ix_l0 h.1 (leastI u) 0 (Nat.zero_le _)
  · rw [atomsL, if_neg h, leastOfP_no h]
    exact Ev.neg Bool.false_ne_true (Ev.ret rfl)
end Go.Proofs.Ytilgbnbeonlbnaa.Q

