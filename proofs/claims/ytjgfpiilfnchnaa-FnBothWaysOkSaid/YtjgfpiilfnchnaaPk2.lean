/- 11 texts of this seat joined: walks, and the laws of what they compute. -/
import Derived.Below
import Derived.Deep.Draws
import Derived.Deep.AppendLies
import Derived.Maps.AppendAt
import Derived.OwnWalk
import Derived.Laws.BytesArg
import Derived.Laws.MakeOwn
import Derived.Laws.OwnMore
import Derived.Deep.OwnRows
import Derived.Tactics
import Derived.Lib.ConvBytes
import Derived.Laws.Slices
import Derived.WalkKit
import Derived.KernelRfl
import Derived.RowKit3
import Derived.Deep.LoopGhost
import Derived.Deep.QuietTactic
import Derived.BigQuiet
import Derived.WideLaws
import Derived.Deep.DeepCutAuto
import Derived.Deep.CutBlock
import Derived.Deep.RegionHeld3
import Derived.Laws.Rows
import Derived.Lib.AppendStr
import Derived.ArgAppend
import Derived.Laws.IdiomCopy
import Derived.OrdersHeld
import Derived.Laws.BitsLemmas
import Derived.RowKit
import Derived.Test.YtjgfpiilfnchnaaPk1
import Derived.Test.YtjgfpiilfnchnaaProg
namespace Go.Proofs.Cl
set_option linter.unusedVariables false

def allG (p : Nat → Bool) : Nat → Nat → Bool
  | 0, _ => true
  | d + 1, i => p i && allG p d (i + 1)
def allF (n : Nat) (p : Nat → Bool) (i : Nat) : Bool := allG p (n - i) i
theorem allF_end {n : Nat} {p : Nat → Bool} {i : Nat} (h : n ≤ i) : allF n p i = true := by
  unfold allF
  rw [show n - i = 0 by omega]
  rfl
theorem allF_step {n : Nat} {p : Nat → Bool} {i : Nat} (h : i < n) : allF n p i = (p i && allF n p (i + 1)) := by
  unfold allF
  rw [show n - i = (n - (i + 1)) + 1 by omega]
  rfl
theorem allG_iff (p : Nat → Bool) : ∀ d i, allG p d i = true ↔ ∀ c, i ≤ c → c < i + d → p c = true
  | 0, i => by simp only [allG, true_iff]; intro c h1 h2; omega
  | d + 1, i => by
    simp only [allG, Bool.and_eq_true, allG_iff p d (i + 1)]
    constructor
    · intro ⟨h1, h2⟩ c h3 h4
      by_cases e : c = i
      · rw [e]; exact h1
      · exact h2 c (by omega) (by omega)
    · intro h
      exact ⟨h i (by omega) (by omega), fun c h3 h4 => h c (by omega) (by omega)⟩
theorem allF_iff {n : Nat} {p : Nat → Bool} {i : Nat} : allF n p i = true ↔ ∀ c, i ≤ c → c < n → p c = true := by
  unfold allF
  rw [allG_iff]
  constructor
  · intro h c h1 h2
    exact h c h1 (by omega)
  · intro h c h1 h2
    exact h c h1 (by omega)
theorem allF0 {n : Nat} {p : Nat → Bool} : allF n p 0 = true ↔ ∀ c, c < n → p c = true := by
  rw [allF_iff]
  exact ⟨fun h c => h c (Nat.zero_le _), fun h c _ => h c⟩
def firstG (p : Nat → Bool) : Nat → Nat → Int
  | 0, _ => -1
  | d + 1, i => if p i = true then (i : Int) else firstG p d (i + 1)
def firstF (n : Nat) (p : Nat → Bool) (i : Nat) : Int := firstG p (n - i) i
theorem firstF_end {n : Nat} {p : Nat → Bool} {i : Nat} (h : n ≤ i) : firstF n p i = -1 := by
  unfold firstF
  rw [show n - i = 0 by omega]
  rfl
theorem firstF_step {n : Nat} {p : Nat → Bool} {i : Nat} (h : i < n) : firstF n p i = if p i = true then (i : Int) else firstF n p (i + 1) := by
  unfold firstF
  rw [show n - i = (n - (i + 1)) + 1 by omega]
  rfl
theorem down (n : Nat) (P : Nat → Prop) (hend : P n) (hstep : ∀ i, i < n → P (i + 1) → P i) (i : Nat) (hi : i ≤ n) : P i := by
  obtain ⟨d, hd⟩ : ∃ d, n - i = d := ⟨_, rfl⟩
  induction d generalizing i with
  | zero => obtain rfl : i = n := by omega
            exact hend
  | succ d ih => exact hstep i (by omega) (ih (i + 1) (by omega) (by omega))
theorem firstF_spec {n : Nat} {p : Nat → Bool} : ∀ i, i ≤ n → (firstF n p i = -1 ∧ ∀ c, i ≤ c → c < n → p c = false) ∨ (∃ c : Nat, firstF n p i = c ∧ i ≤ c ∧ c < n ∧ p c = true ∧ ∀ c', i ≤ c' → c' < c → p c' = false) := by
  intro i hi
  refine down n (fun i => (firstF n p i = -1 ∧ ∀ c, i ≤ c → c < n → p c = false) ∨ (∃ c : Nat, firstF n p i = c ∧ i ≤ c ∧ c < n ∧ p c = true ∧ ∀ c', i ≤ c' → c' < c → p c' = false)) ?_ ?_ i hi
  · exact .inl ⟨firstF_end (Nat.le_refl _), fun c h1 h2 => by omega⟩
  · intro i hi ih
    rw [firstF_step hi]
    cases hp : p i with
    | true => exact .inr ⟨i, by simp, Nat.le_refl _, hi, hp, fun c' h1 h2 => by omega⟩
    | false =>
      simp only [Bool.false_eq_true, if_false]
      rcases ih with ⟨h1, h2⟩ | ⟨c, h1, h2, h3, h4, h5⟩
      · refine .inl ⟨h1, fun c h3 h4 => ?_⟩
        by_cases e : c = i
        · rw [e]; exact hp
        · exact h2 c (by omega) h4
      · refine .inr ⟨c, h1, by omega, h3, h4, fun c' h6 h7 => ?_⟩
        by_cases e : c' = i
        · rw [e]; exact hp
        · exact h5 c' (by omega) h7

def rdN (u : List (List Int)) (a b : Nat) : Int := (u.getD a []).getD b 0
def Ord (u : List (List Int)) : Prop :=
  1 ≤ u.length ∧ u.length ≤ 12 ∧ (∀ a, a < u.length → (u.getD a []).length = u.length) ∧
  (∀ a, a < u.length → ∀ b, b < u.length → rdN u a b = 0 ∨ rdN u a b = 1) ∧
  (∀ a, a < u.length → rdN u a a = 1) ∧
  (∀ a, a < u.length → ∀ b, b < u.length → rdN u a b = 1 → rdN u b a = 1 → a = b) ∧
  (∀ a, a < u.length → ∀ b, b < u.length → ∀ c, c < u.length → rdN u a b = 1 → rdN u b c = 1 → rdN u a c = 1)
instance (u : List (List Int)) : Decidable (Ord u) := by
  have d1 : Decidable (∀ a, a < u.length → (u.getD a []).length = u.length) := inferInstance
  have d2 : Decidable (∀ a, a < u.length → ∀ b, b < u.length → rdN u a b = 0 ∨ rdN u a b = 1) := inferInstance
  have d3 : Decidable (∀ a, a < u.length → rdN u a a = 1) := inferInstance
  have d4 : Decidable (∀ a, a < u.length → ∀ b, b < u.length → rdN u a b = 1 → rdN u b a = 1 → a = b) := inferInstance
  have d5 : Decidable (∀ a, a < u.length → ∀ b, b < u.length → ∀ c, c < u.length → rdN u a b = 1 → rdN u b c = 1 → rdN u a c = 1) := inferInstance
  unfold Ord
  exact instDecidableAnd

namespace Ord
variable {u : List (List Int)} (h : Ord u)
theorem pos (h : Ord u) : 1 ≤ u.length := h.1
theorem le12 (h : Ord u) : u.length ≤ 12 := h.2.1
theorem row (h : Ord u) {a : Nat} (ha : a < u.length) : (u.getD a []).length = u.length := h.2.2.1 a ha
theorem bit (h : Ord u) {a b : Nat} (ha : a < u.length) (hb : b < u.length) : rdN u a b = 0 ∨ rdN u a b = 1 := h.2.2.2.1 a ha b hb
theorem refl (h : Ord u) {a : Nat} (ha : a < u.length) : rdN u a a = 1 := h.2.2.2.2.1 a ha
theorem anti (h : Ord u) {a b : Nat} (ha : a < u.length) (hb : b < u.length) (k : rdN u a b = 1) (l : rdN u b a = 1) : a = b := h.2.2.2.2.2.1 a ha b hb k l
theorem trans (h : Ord u) {a b c : Nat} (ha : a < u.length) (hb : b < u.length) (hc : c < u.length) (k : rdN u a b = 1) (l : rdN u b c = 1) : rdN u a c = 1 := h.2.2.2.2.2.2 a ha b hb c hc k l
theorem ne0 (h : Ord u) {a b : Nat} (ha : a < u.length) (hb : b < u.length) : rdN u a b ≠ 0 ↔ rdN u a b = 1 := by
  rcases h.bit ha hb with k | k <;> omega
theorem ne1 (h : Ord u) {a b : Nat} (ha : a < u.length) (hb : b < u.length) : rdN u a b ≠ 1 ↔ rdN u a b = 0 := by
  rcases h.bit ha hb with k | k <;> omega
end Ord

def IsMeet (u : List (List Int)) (a b c : Nat) : Prop :=
  c < u.length ∧ rdN u c a = 1 ∧ rdN u c b = 1 ∧ ∀ d, d < u.length → rdN u d a = 1 → rdN u d b = 1 → rdN u d c = 1
def IsJoin (u : List (List Int)) (a b c : Nat) : Prop :=
  c < u.length ∧ rdN u a c = 1 ∧ rdN u b c = 1 ∧ ∀ d, d < u.length → rdN u a d = 1 → rdN u b d = 1 → rdN u c d = 1
instance (u : List (List Int)) (a b c : Nat) : Decidable (IsMeet u a b c) := by unfold IsMeet; infer_instance
instance (u : List (List Int)) (a b c : Nat) : Decidable (IsJoin u a b c) := by unfold IsJoin; infer_instance
def meetI (u : List (List Int)) (a b : Nat) : Int := firstF u.length (fun c => decide (IsMeet u a b c)) 0
def joinI (u : List (List Int)) (a b : Nat) : Int := firstF u.length (fun c => decide (IsJoin u a b c)) 0
theorem IsMeet.uniq {u : List (List Int)} (h : Ord u) {a b c d : Nat} (hc : IsMeet u a b c) (hd : IsMeet u a b d) : c = d :=
  h.anti hc.1 hd.1 (hd.2.2.2 c hc.1 hc.2.1 hc.2.2.1) (hc.2.2.2 d hd.1 hd.2.1 hd.2.2.1)
theorem IsJoin.uniq {u : List (List Int)} (h : Ord u) {a b c d : Nat} (hc : IsJoin u a b c) (hd : IsJoin u a b d) : c = d :=
  h.anti hc.1 hd.1 (hc.2.2.2 d hd.1 hd.2.1 hd.2.2.1) (hd.2.2.2 c hc.1 hc.2.1 hc.2.2.1)
theorem meetI_of {u : List (List Int)} (h : Ord u) {a b c : Nat} (hc : IsMeet u a b c) : meetI u a b = c := by
  rcases firstF_spec (n := u.length) (p := fun c => decide (IsMeet u a b c)) 0 (Nat.zero_le _) with ⟨_, k⟩ | ⟨d, e, _, hd, k, _⟩
  · have := k c (Nat.zero_le _) hc.1
    simp [hc] at this
  · unfold meetI
    rw [e, (of_decide_eq_true k).uniq h hc]
theorem joinI_of {u : List (List Int)} (h : Ord u) {a b c : Nat} (hc : IsJoin u a b c) : joinI u a b = c := by
  rcases firstF_spec (n := u.length) (p := fun c => decide (IsJoin u a b c)) 0 (Nat.zero_le _) with ⟨_, k⟩ | ⟨d, e, _, hd, k, _⟩
  · have := k c (Nat.zero_le _) hc.1
    simp [hc] at this
  · unfold joinI
    rw [e, (of_decide_eq_true k).uniq h hc]
theorem meetI_cases (u : List (List Int)) (a b : Nat) : (meetI u a b = -1 ∧ ∀ c, ¬ IsMeet u a b c) ∨ ∃ c : Nat, meetI u a b = c ∧ IsMeet u a b c := by
  rcases firstF_spec (n := u.length) (p := fun c => decide (IsMeet u a b c)) 0 (Nat.zero_le _) with ⟨e, k⟩ | ⟨d, e, _, hd, k, _⟩
  · exact .inl ⟨e, fun c hc => by have := k c (Nat.zero_le _) hc.1; simp [hc] at this⟩
  · exact .inr ⟨d, e, of_decide_eq_true k⟩
theorem joinI_cases (u : List (List Int)) (a b : Nat) : (joinI u a b = -1 ∧ ∀ c, ¬ IsJoin u a b c) ∨ ∃ c : Nat, joinI u a b = c ∧ IsJoin u a b c := by
  rcases firstF_spec (n := u.length) (p := fun c => decide (IsJoin u a b c)) 0 (Nat.zero_le _) with ⟨e, k⟩ | ⟨d, e, _, hd, k, _⟩
  · exact .inl ⟨e, fun c hc => by have := k c (Nat.zero_le _) hc.1; simp [hc] at this⟩
  · exact .inr ⟨d, e, of_decide_eq_true k⟩
theorem IsMeet.comm {u : List (List Int)} {a b c : Nat} (h : IsMeet u a b c) : IsMeet u b a c := ⟨h.1, h.2.2.1, h.2.1, fun d hd k l => h.2.2.2 d hd l k⟩
theorem IsJoin.comm {u : List (List Int)} {a b c : Nat} (h : IsJoin u a b c) : IsJoin u b a c := ⟨h.1, h.2.2.1, h.2.1, fun d hd k l => h.2.2.2 d hd l k⟩
theorem meetI_comm {u : List (List Int)} (h : Ord u) (a b : Nat) : meetI u a b = meetI u b a := by
  rcases meetI_cases u b a with ⟨e, k⟩ | ⟨c, e, k⟩
  · rcases meetI_cases u a b with ⟨e', _⟩ | ⟨c, e', k'⟩
    · rw [e, e']
    · exact absurd k'.comm (k c)
  · rw [e, meetI_of h k.comm]
theorem joinI_comm {u : List (List Int)} (h : Ord u) (a b : Nat) : joinI u a b = joinI u b a := by
  rcases joinI_cases u b a with ⟨e, k⟩ | ⟨c, e, k⟩
  · rcases joinI_cases u a b with ⟨e', _⟩ | ⟨c, e', k'⟩
    · rw [e, e']
    · exact absurd k'.comm (k c)
  · rw [e, joinI_of h k.comm]
theorem isMeet_self {u : List (List Int)} (h : Ord u) {a b : Nat} (ha : a < u.length) (hb : b < u.length) (k : rdN u a b = 1) : IsMeet u a b a := ⟨ha, h.refl ha, k, fun _ _ l _ => l⟩
theorem isJoin_self {u : List (List Int)} (h : Ord u) {a b : Nat} (ha : a < u.length) (hb : b < u.length) (k : rdN u a b = 1) : IsJoin u a b b := ⟨hb, k, h.refl hb, fun _ _ _ l => l⟩

def turn (u : List (List Int)) : List (List Int) := (List.range u.length).map fun a => (List.range u.length).map fun b => rdN u b a
theorem turn_len (u : List (List Int)) : (turn u).length = u.length := by simp [turn]
theorem getD_map_range {α : Type} (f : Nat → α) (z : α) {n a : Nat} (h : a < n) : ((List.range n).map f).getD a z = f a := by
  simp [List.getD_eq_getElem?_getD, h]
theorem turn_row (u : List (List Int)) {a : Nat} (ha : a < u.length) : (turn u).getD a [] = (List.range u.length).map fun b => rdN u b a := by
  unfold turn
  rw [getD_map_range _ _ ha]
theorem turn_at (u : List (List Int)) {a b : Nat} (ha : a < u.length) (hb : b < u.length) : rdN (turn u) a b = rdN u b a := by
  unfold rdN
  rw [turn_row u ha, getD_map_range _ _ hb]
  rfl
theorem turn_ord {u : List (List Int)} (h : Ord u) : Ord (turn u) := by
  refine ⟨by rw [turn_len]; exact h.1, by rw [turn_len]; exact h.2.1, ?_, ?_, ?_, ?_, ?_⟩
  · intro a ha
    rw [turn_len] at *
    rw [turn_row u ha]
    simp
  · intro a ha b hb
    rw [turn_len] at *
    rw [turn_at u ha hb]
    exact h.bit hb ha
  · intro a ha
    rw [turn_len] at *
    rw [turn_at u ha ha]
    exact h.refl ha
  · intro a ha b hb
    rw [turn_len] at *
    rw [turn_at u ha hb, turn_at u hb ha]
    exact fun k l => h.anti ha hb l k
  · intro a ha b hb c hc
    rw [turn_len] at *
    rw [turn_at u ha hb, turn_at u hb hc, turn_at u ha hc]
    exact fun k l => h.trans hc hb ha l k
theorem isMeet_turn {u : List (List Int)} {a b c : Nat} (ha : a < u.length) (hb : b < u.length) : IsMeet (turn u) a b c ↔ IsJoin u a b c := by
  unfold IsMeet IsJoin
  rw [turn_len]
  constructor
  · intro ⟨h1, h2, h3, h4⟩
    rw [turn_at u h1 ha] at h2
    rw [turn_at u h1 hb] at h3
    refine ⟨h1, h2, h3, fun d hd k l => ?_⟩
    have := h4 d hd (by rw [turn_at u hd ha]; exact k) (by rw [turn_at u hd hb]; exact l)
    rwa [turn_at u hd h1] at this
  · intro ⟨h1, h2, h3, h4⟩
    refine ⟨h1, by rw [turn_at u h1 ha]; exact h2, by rw [turn_at u h1 hb]; exact h3, fun d hd k l => ?_⟩
    rw [turn_at u hd ha] at k
    rw [turn_at u hd hb] at l
    rw [turn_at u hd h1]
    exact h4 d hd k l
theorem firstF_congr {n : Nat} {p q : Nat → Bool} (h : ∀ c, c < n → p c = q c) (i : Nat) (hi : i ≤ n) : firstF n p i = firstF n q i := by
  refine down n (fun i => firstF n p i = firstF n q i) ?_ ?_ i hi
  · rw [firstF_end (Nat.le_refl _), firstF_end (Nat.le_refl _)]
  · intro i hi ih
    rw [firstF_step hi, firstF_step hi, h i hi, ih]
theorem meetI_turn {u : List (List Int)} {a b : Nat} (ha : a < u.length) (hb : b < u.length) : meetI (turn u) a b = joinI u a b := by
  unfold meetI joinI
  rw [turn_len]
  exact firstF_congr (fun c _ => by rw [decide_eq_decide]; exact isMeet_turn ha hb) 0 (Nat.zero_le _)

def Lat (u : List (List Int)) : Prop := Ord u ∧ ∀ a, a < u.length → ∀ b, b < u.length → 0 ≤ meetI u a b ∧ 0 ≤ joinI u a b
instance (u : List (List Int)) : Decidable (Lat u) := by unfold Lat; infer_instance
def IsLeast (u : List (List Int)) (a : Nat) : Prop := ∀ b, b < u.length → rdN u a b = 1
instance (u : List (List Int)) (a : Nat) : Decidable (IsLeast u a) := by unfold IsLeast; infer_instance
def leastI (u : List (List Int)) : Int := firstF u.length (fun a => decide (IsLeast u a)) 0
theorem leastI_cases (u : List (List Int)) : (leastI u = -1 ∧ ∀ a, a < u.length → ¬ IsLeast u a) ∨ ∃ a : Nat, leastI u = a ∧ a < u.length ∧ IsLeast u a := by
  rcases firstF_spec (n := u.length) (p := fun a => decide (IsLeast u a)) 0 (Nat.zero_le _) with ⟨e, k⟩ | ⟨d, e, _, hd, k, _⟩
  · exact .inl ⟨e, fun c hc hl => by have := k c (Nat.zero_le _) hc; simp [hl] at this⟩
  · exact .inr ⟨d, e, hd, of_decide_eq_true k⟩
theorem leastI_of {u : List (List Int)} (h : Ord u) {a : Nat} (ha : a < u.length) (hl : IsLeast u a) : leastI u = a := by
  rcases leastI_cases u with ⟨_, k⟩ | ⟨d, e, hd, k⟩
  · exact absurd hl (k a ha)
  · rw [e, h.anti hd ha (k a ha) (hl d hd)]
namespace Lat
variable {u : List (List Int)}
theorem meet (h : Lat u) {a b : Nat} (ha : a < u.length) (hb : b < u.length) : ∃ c : Nat, meetI u a b = c ∧ IsMeet u a b c := by
  rcases meetI_cases u a b with ⟨e, _⟩ | k
  · have := (h.2 a ha b hb).1
    omega
  · exact k
theorem join (h : Lat u) {a b : Nat} (ha : a < u.length) (hb : b < u.length) : ∃ c : Nat, joinI u a b = c ∧ IsJoin u a b c := by
  rcases joinI_cases u a b with ⟨e, _⟩ | k
  · have := (h.2 a ha b hb).2
    omega
  · exact k
theorem low (h : Lat u) : ∀ m, m ≤ u.length → ∃ a, a < u.length ∧ ∀ b, b < m → rdN u a b = 1
  | 0, _ => ⟨0, h.1.pos, fun b hb => by omega⟩
  | m + 1, hm => by
    obtain ⟨a, ha, k⟩ := low h m (by omega)
    obtain ⟨c, _, hc⟩ := h.meet ha (show m < u.length by omega)
    refine ⟨c, hc.1, fun b hb => ?_⟩
    by_cases e : b = m
    · rw [e]; exact hc.2.2.1
    · exact h.1.trans hc.1 ha (by omega) hc.2.1 (k b (by omega))
theorem least (h : Lat u) : ∃ a : Nat, leastI u = a ∧ a < u.length ∧ IsLeast u a := by
  obtain ⟨a, ha, k⟩ := h.low u.length (Nat.le_refl _)
  exact ⟨a, leastI_of h.1 ha k, ha, k⟩
end Lat
def leastOfP (u : List (List Int)) : Int × Bool := if Ord u then (leastI u, decide (0 ≤ leastI u)) else (-1, false)
def turnOf (u : List (List Int)) : List (List Int) := if Ord u then turn u else []
end Go.Proofs.Cl


-- written by gen.py (a program of this session) out of the kit's print of this seat's translation
namespace Go.Proofs.Ytjgfpiilfnchnaa.P
open Go.RowKit Go.Proofs.YtjgfpiilfnchnaaW.PrintWords Go.Proofs.YtjgfpiilfnchnaaW.PrintLast Go.Proofs.YtjgfpiilfnchnaaW.PrintMore
set_option linter.unusedVariables false
set_option linter.unusedSimpArgs false
def errW : Option Int → Value
  | none => .nilIface
  | some c => .iface 0 (.int .i64 c)
theorem errW_none : errW none = .nilIface := rfl
theorem errW_some (c : Int) : errW (some c) = .iface 0 (.int .i64 c) := rfl

def rd_L1 (xs : List (List Int)) (i : Int) : (List Int) := xs.getD i.toNat ([] : List Int)
theorem at_L1 {w : World} {A : Option Addr} {n : Nat} {xs : List (List Int)} (h : Kd.C (Kd.slice 3 (Kd.int .i64)) w A n xs) (i : Int) (h0 : 0 ≤ i) (h1 : i < n) : ∃ ad A0 c0, A = some ad ∧ w.cell? (ad.add i.toNat) = some (.slice A0 (rd_L1 xs i).length c0) ∧ (rd_L1 xs i).length ≤ c0 ∧ (Kd.int .i64).C w A0 (rd_L1 xs i).length (rd_L1 xs i) := by
  obtain ⟨ad, c, e, _, hK, hc0⟩ := Kd.C_get h ([] : List Int) i h0 h1
  have hc : ∀ j u, c[j]? = some u → w.cell? (ad.add (i.toNat * 1 + j)) = some u := hc0
  obtain ⟨A0, c0, rfl, l0, g0⟩ := hK
  exact ⟨ad, A0, c0, e, by have hq := hc 0 _ rfl; rwa [Nat.mul_one, Nat.add_zero] at hq, l0, g0⟩

def rd_L3 (xs : List (List (List Int))) (i : Int) : (List (List Int)) := xs.getD i.toNat ([] : List (List Int))
theorem at_L3 {w : World} {A : Option Addr} {n : Nat} {xs : List (List (List Int))} (h : Kd.C (Kd.slice 24 (Kd.slice 3 (Kd.int .i64))) w A n xs) (i : Int) (h0 : 0 ≤ i) (h1 : i < n) : ∃ ad A0 c0, A = some ad ∧ w.cell? (ad.add i.toNat) = some (.slice A0 (rd_L3 xs i).length c0) ∧ (rd_L3 xs i).length ≤ c0 ∧ (Kd.slice 3 (Kd.int .i64)).C w A0 (rd_L3 xs i).length (rd_L3 xs i) := by
  obtain ⟨ad, c, e, _, hK, hc0⟩ := Kd.C_get h ([] : List (List Int)) i h0 h1
  have hc : ∀ j u, c[j]? = some u → w.cell? (ad.add (i.toNat * 1 + j)) = some u := hc0
  obtain ⟨A0, c0, rfl, l0, g0⟩ := hK
  exact ⟨ad, A0, c0, e, by have hq := hc 0 _ rfl; rwa [Nat.mul_one, Nat.add_zero] at hq, l0, g0⟩

/-! #### struct type 26 -/
structure S26 where
  f0 : (List (List Int))
  f1 : (List Int)
def z26 : S26 := ⟨([] : List (List Int)), ([] : List Int)⟩
def k26 : Kd S26 := Kd.iso (Kd.pair (Kd.slice 24 (Kd.slice 3 (Kd.int .i64))) (Kd.slice 3 (Kd.int .i64))) (fun x : S26 => (x.f0, x.f1))
theorem k26_open {w : World} {x : S26} {cs : List Value} (h : k26.K w x cs) : ∃ A0 c0 A1 c1, cs = [.slice A0 x.f0.length c0, .slice A1 x.f1.length c1] ∧ x.f0.length ≤ c0 ∧ (Kd.slice 3 (Kd.int .i64)).C w A0 x.f0.length x.f0 ∧ x.f1.length ≤ c1 ∧ (Kd.int .i64).C w A1 x.f1.length x.f1 := by
  obtain ⟨_, _, rfl, ⟨A0, c0, rfl, l0, g0⟩, ⟨A1, c1, rfl, l1, g1⟩⟩ := h
  exact ⟨A0, c0, A1, c1, rfl, l0, g0, l1, g1⟩
theorem k26_openM {w : World} {base : Nat} {ok : Nat → Prop} {x : S26} {cs : List Value} (h : k26.M w base ok x cs) : ∃ v0 v1, cs = [v0, v1] ∧ (Kd.slice 3 (Kd.int .i64)).R 24 w base ok v0 x.f0 ∧ (Kd.int .i64).R 3 w base ok v1 x.f1 := by
  obtain ⟨_, _, rfl, ⟨v0, rfl, g0⟩, ⟨v1, rfl, g1⟩⟩ := h
  exact ⟨v0, v1, rfl, g0, g1⟩
theorem k26_mk (w : World) (x : S26) {A0 : Option Addr} {c0 : Nat} (l0 : x.f0.length ≤ c0) (g0 : (Kd.slice 3 (Kd.int .i64)).C w A0 x.f0.length x.f0) {A1 : Option Addr} {c1 : Nat} (l1 : x.f1.length ≤ c1) (g1 : (Kd.int .i64).C w A1 x.f1.length x.f1) : k26.K w x [.slice A0 x.f0.length c0, .slice A1 x.f1.length c1] := ⟨[.slice A0 x.f0.length c0], [.slice A1 x.f1.length c1], rfl, ⟨A0, c0, rfl, l0, g0⟩, ⟨A1, c1, rfl, l1, g1⟩⟩
theorem k26_mkM (w : World) (base : Nat) (ok : Nat → Prop) (x : S26) {v0 : Value} (g0 : (Kd.slice 3 (Kd.int .i64)).R 24 w base ok v0 x.f0) {v1 : Value} (g1 : (Kd.int .i64).R 3 w base ok v1 x.f1) : k26.M w base ok x [v0, v1] := ⟨[v0], [v1], rfl, ⟨v0, rfl, g0⟩, ⟨v1, rfl, g1⟩⟩
theorem k26_openF {W : World} {ok : Nat → Prop} {x : S26} {cs : List Value} (h : Kd.FK k26 W ok x cs) : ∃ A0 c0 A1 c1, cs = [.slice A0 x.f0.length c0, .slice A1 x.f1.length c1] ∧ x.f0.length ≤ c0 ∧ Kd.F (Kd.slice 3 (Kd.int .i64)) W ok A0 x.f0.length x.f0 ∧ x.f1.length ≤ c1 ∧ Kd.F (Kd.int .i64) W ok A1 x.f1.length x.f1 := by
  obtain ⟨A0, c0, A1, c1, rfl, l0, _, l1, _⟩ := k26_open (Kd.FK_now h)
  exact ⟨A0, c0, A1, c1, rfl, l0, (fun W' hW => by obtain ⟨A0_, c0_, A1_, c1_, he, l0_, g0_, l1_, g1_⟩ := k26_open (h W' hW); injection (Option.some.inj (show some (Value.slice A0 x.f0.length c0) = some (Value.slice A0_ x.f0.length c0_) from congrArg (fun l => l[0]?) he)) with ha_ _ _; rw [ha_]; exact g0_), l1, (fun W' hW => by obtain ⟨A0_, c0_, A1_, c1_, he, l0_, g0_, l1_, g1_⟩ := k26_open (h W' hW); injection (Option.some.inj (show some (Value.slice A1 x.f1.length c1) = some (Value.slice A1_ x.f1.length c1_) from congrArg (fun l => l[1]?) he)) with ha_ _ _; rw [ha_]; exact g1_)⟩
theorem k26_mkF (W : World) (ok : Nat → Prop) (x : S26) {A0 : Option Addr} {c0 : Nat} (l0 : x.f0.length ≤ c0) (g0 : Kd.F (Kd.slice 3 (Kd.int .i64)) W ok A0 x.f0.length x.f0) {A1 : Option Addr} {c1 : Nat} (l1 : x.f1.length ≤ c1) (g1 : Kd.F (Kd.int .i64) W ok A1 x.f1.length x.f1) : Kd.FK k26 W ok x [.slice A0 x.f0.length c0, .slice A1 x.f1.length c1] := fun W2 hW => k26_mk W2 x l0 (g0 W2 hW) l1 (g1 W2 hW)
def rd_T26 (xs : List S26) (i : Int) : S26 := xs.getD i.toNat z26
theorem at_T26 {w : World} {A : Option Addr} {n : Nat} {xs : List S26} (h : Kd.C k26 w A n xs) (i : Int) (h0 : 0 ≤ i) (h1 : i < n) : ∃ ad A0 c0 A1 c1, A = some ad ∧ w.cell? (ad.add (i.toNat * 2)) = some (.slice A0 (rd_T26 xs i).f0.length c0) ∧ w.cell? ⟨(ad.add (i.toNat * 2)).block, (ad.add (i.toNat * 2)).off + 1, none⟩ = some (.slice A1 (rd_T26 xs i).f1.length c1) ∧ (rd_T26 xs i).f0.length ≤ c0 ∧ (Kd.slice 3 (Kd.int .i64)).C w A0 (rd_T26 xs i).f0.length (rd_T26 xs i).f0 ∧ (rd_T26 xs i).f1.length ≤ c1 ∧ (Kd.int .i64).C w A1 (rd_T26 xs i).f1.length (rd_T26 xs i).f1 := by
  obtain ⟨ad, c, e, _, hK, hc0⟩ := Kd.C_get h z26 i h0 h1
  have hc : ∀ j u, c[j]? = some u → w.cell? (ad.add (i.toNat * 2 + j)) = some u := hc0
  obtain ⟨A0, c0, A1, c1, rfl, l0, g0, l1, g1⟩ := k26_open hK
  exact ⟨ad, A0, c0, A1, c1, e, hc 0 _ rfl, by rw [← add_field _ _ 1 (by omega)]; exact hc 1 _ rfl, l0, g0, l1, g1⟩

end Go.Proofs.Ytjgfpiilfnchnaa.P

namespace Go.Proofs.Ytjgfpiilfnchnaa.P
open Go.RowKit Go.Proofs.YtjgfpiilfnchnaaW.PrintWords Go.Proofs.YtjgfpiilfnchnaaW.PrintLast Go.Proofs.YtjgfpiilfnchnaaW.PrintMore Go.Proofs.Cl
set_option linter.unusedVariables false
def mrow (u : List (List Int)) (a : Nat) : List Int := (List.range u.length).map fun b => meetI u a b
def jrow (u : List (List Int)) (a : Nat) : List Int := (List.range u.length).map fun b => joinI u a b
def mtab (u : List (List Int)) : List (List Int) := (List.range u.length).map (mrow u)
def jtab (u : List (List Int)) : List (List Int) := (List.range u.length).map (jrow u)
def OppAt (u : List (List Int)) (nt : List Int) (c : Nat) : Prop := (0 ≤ rd nt c ∧ rd nt c < u.length) ∧ rd nt (rd nt c) = c ∧ meetI u c (rd nt c).toNat = leastI u
def OppTo (u : List (List Int)) (nt : List Int) (c d : Nat) : Prop := rdN u c d = 1 → rdN u (rd nt d).toNat (rd nt c).toNat = 1
def OL (u : List (List Int)) (nt : List Int) : Prop := Lat u ∧ nt.length = u.length ∧ (∀ c, c < u.length → OppAt u nt c) ∧ (∀ c, c < u.length → ∀ d, d < u.length → OppTo u nt c d)
instance (u : List (List Int)) (nt : List Int) (c : Nat) : Decidable (OppAt u nt c) := by unfold OppAt; infer_instance
instance (u : List (List Int)) (nt : List Int) (c d : Nat) : Decidable (OppTo u nt c d) := by unfold OppTo; infer_instance
instance (u : List (List Int)) (nt : List Int) : Decidable (OL u nt) := by unfold OL; infer_instance
def okAll (n : Nat) (xs : List Int) : Bool := xs.all fun a => decide (0 ≤ a ∧ a < n)
abbrev mt (u : List (List Int)) (a b : Int) : Int := meetI u a.toNat b.toNat
abbrev jn (u : List (List Int)) (a b : Int) : Int := joinI u a.toNat b.toNat
def logicF (u : List (List Int)) (nt : List Int) : Bool := decide (OL u nt)
def noF (u : List (List Int)) (nt : List Int) : Int := if OL u nt then leastI u else -1
def yesF (u : List (List Int)) (nt : List Int) : Int := if OL u nt then rd nt (leastI u) else -1
def andF (u : List (List Int)) (nt : List Int) (a b : Int) : Int := if OL u nt ∧ okAll u.length [a, b] = true then mt u a b else -1
def orF (u : List (List Int)) (nt : List Int) (a b : Int) : Int := if OL u nt ∧ okAll u.length [a, b] = true then jn u a b else -1
def notF (u : List (List Int)) (nt : List Int) (a : Int) : Int := if OL u nt ∧ okAll u.length [a] = true then rd nt a else -1
def apartF (u : List (List Int)) (nt : List Int) (a b : Int) : Bool := decide (OL u nt ∧ okAll u.length [a, b] = true ∧ rdN u a.toNat (rd nt b).toNat = 1)
def withB (u : List (List Int)) (nt : List Int) (a b : Int) : Prop := jn u (mt u a b) (mt u a (rd nt b)) = a
instance (u : List (List Int)) (nt : List Int) (a b : Int) : Decidable (withB u nt a b) := by unfold withB; infer_instance
def withF (u : List (List Int)) (nt : List Int) (a b : Int) : Bool := decide (OL u nt ∧ okAll u.length [a, b] = true ∧ withB u nt a b)
def splitF (u : List (List Int)) (nt : List Int) (a b c : Int) : Bool := decide (OL u nt ∧ okAll u.length [a, b, c] = true ∧ mt u a (jn u b c) = jn u (mt u a b) (mt u a c))
def fromF (u : List (List Int)) (nt : List Int) (a b : Int) : Int := if OL u nt ∧ okAll u.length [a, b] = true then jn u (jn u (mt u a b) (mt u a (rd nt b))) (jn u (mt u (rd nt a) b) (mt u (rd nt a) (rd nt b))) else -1
def keepsF (u : List (List Int)) (nt : List Int) : Bool := decide (OL u nt ∧ ∀ a, a < u.length → ∀ b, b < u.length → rdN u a b = 0 ∨ jn u a (mt u b (rd nt a)) = b)
def waysF (u : List (List Int)) (nt : List Int) : Bool := decide (OL u nt ∧ ∀ a, a < u.length → ∀ b, b < u.length → withB u nt a b → withB u nt b a)
end Go.Proofs.Ytjgfpiilfnchnaa.P


namespace Go.Proofs.Ytjgfpiilfnchnaa.P
open Go.RowKit Go.Proofs.YtjgfpiilfnchnaaW.PrintWords Go.Proofs.YtjgfpiilfnchnaaW.PrintLast Go.Proofs.YtjgfpiilfnchnaaW.PrintMore Go.Proofs.Cl
set_option linter.unusedVariables false
def Cls (u : List (List Int)) (nt : List Int) (S : Nat) : Prop :=
  ∀ a, a < u.length → S.testBit a = true → S.testBit (rd nt a).toNat = true ∧ ∀ b, b < u.length → S.testBit b = true → S.testBit (mt u a b).toNat = true ∧ S.testBit (jn u a b).toNat = true
instance (u : List (List Int)) (nt : List Int) (S : Nat) : Decidable (Cls u nt S) := by unfold Cls; infer_instance
def SubS (n S T : Nat) : Prop := ∀ a, a < n → S.testBit a = true → T.testBit a = true
instance (n S T : Nat) : Decidable (SubS n S T) := by unfold SubS; infer_instance
def AgreeS (u : List (List Int)) (nt : List Int) (S : Nat) : Prop := ∀ a, a < u.length → S.testBit a = true → ∀ b, b < u.length → S.testBit b = true → withB u nt a b ∧ withB u nt b a
instance (u : List (List Int)) (nt : List Int) (a b : Int) : Decidable (withB u nt a b) := by unfold withB; infer_instance
instance (u : List (List Int)) (nt : List Int) (S : Nat) : Decidable (AgreeS u nt S) := by unfold AgreeS; infer_instance
def splitB (u : List (List Int)) (a b c : Int) : Prop := mt u a (jn u b c) = jn u (mt u a b) (mt u a c)
instance (u : List (List Int)) (a b c : Int) : Decidable (splitB u a b c) := by unfold splitB; infer_instance
def sixU : List (List Int) := [[1, 1, 1, 1, 1, 1], [0, 1, 1, 0, 0, 1], [0, 0, 1, 0, 0, 1], [0, 0, 0, 1, 1, 1], [0, 0, 0, 0, 1, 1], [0, 0, 0, 0, 0, 1]]
def sixN : List Int := [5, 4, 3, 2, 1, 0]
def madeU (n : Nat) (U : Nat → Nat → Bool) : List (List Int) := (List.range n).map fun a => (List.range n).map fun b => if U a b = true then 1 else 0
def madeN (n : Nat) (N : Nat → Int) : List Int := (List.range n).map N
def ringB (a b : Nat) : Bool := decide (a = b ∨ a = 0 ∨ b = 5 ∨ (a = 1 ∧ b = 2) ∨ (a = 3 ∧ b = 4))
def ringF (n : Int) : List (List Int) × List Int × Bool := if n = 6 then (madeU 6 ringB, madeN 6 (fun a => 5 - (a : Int)), true) else ([], [], false)
def renB (n : Nat) (o : List Int) : Prop := o.length = n ∧ okAll n o = true ∧ o.Nodup
instance (n : Nat) (o : List Int) : Decidable (renB n o) := by unfold renB; infer_instance
end Go.Proofs.Ytjgfpiilfnchnaa.P


-- written by gen.py (a program of this session) out of the kit's print of this seat's translation
namespace Go.Proofs.Ytjgfpiilfnchnaa.P
open Go.RowKit Go.Proofs.YtjgfpiilfnchnaaW.PrintWords Go.Proofs.YtjgfpiilfnchnaaW.PrintLast Go.Proofs.YtjgfpiilfnchnaaW.PrintMore
set_option linter.unusedVariables false
set_option linter.unusedSimpArgs false
open Go.Proofs.Cl
/-- A state of type 70 at block g of W; what its slices lead to came in by w0. -/
def IsS70 (w0 W : World) (g : Nat) (f0 : List Int) (f1 : Int) : Prop := ∃ A0 c0, W.heap[g]? = some (.cells #[.slice A0 f0.length c0, .int .i64 f1] 70 (0, 0)) ∧ w0.heap.size ≤ g ∧ Kd.C (Kd.int .u8) w0 A0 f0.length f0
/-! ### spec_l20Rd_pick: function 76 -/
def spec_l20Rd_pick.j0 : Nat → Int → Bool → List Int → Int → Option (Int × Int)
  | 0, _, _, _, _ => none
  | k + 1, x1, x24, x1000, x1001 => if x24 = true then (some (0, x1001)) else (if (wrap64 (x1001 - 1)) < (x1000.length : Int) then (if 0 ≤ (wrap64 (x1001 - 1)) then (if x1 = 0 then (none) else (some (Int.tmod (wrap64 (rd x1000 (wrap64 (x1001 - 1)))) x1, x1001))) else (none)) else (if (x1000.length : Int) = 0 then (none) else (if 0 ≤ (Int.tmod (wrap64 (x1001 - 1)) (x1000.length : Int)) then (if (Int.tmod (wrap64 (x1001 - 1)) (x1000.length : Int)) < (x1000.length : Int) then (if 0 ≤ (Int.tmod (wrap64 ((wrap64 ((wrap64 (x1001 - 1)) * 7)) + 3)) (x1000.length : Int)) then (if (Int.tmod (wrap64 ((wrap64 ((wrap64 (x1001 - 1)) * 7)) + 3)) (x1000.length : Int)) < (x1000.length : Int) then (if x1 = 0 then (none) else (some (Int.tmod (Go.bits .xor .i64 (wrap64 ((wrap64 ((wrap64 ((wrap64 ((wrap64 (rd x1000 (Int.tmod (wrap64 (x1001 - 1)) (x1000.length : Int)))) * 131)) + (wrap64 ((wrap64 (rd x1000 (Int.tmod (wrap64 ((wrap64 ((wrap64 (x1001 - 1)) * 7)) + 3)) (x1000.length : Int)))) * 1117)))) + (wrap64 ((wrap64 (x1001 - 1)) * 29)))) + (wrap64 ((wrap64 (Int.tdiv (wrap64 (x1001 - 1)) (x1000.length : Int))) * 53)))) (wrap64 (Int.tdiv (wrap64 ((wrap64 ((wrap64 ((wrap64 ((wrap64 (rd x1000 (Int.tmod (wrap64 (x1001 - 1)) (x1000.length : Int)))) * 131)) + (wrap64 ((wrap64 (rd x1000 (Int.tmod (wrap64 ((wrap64 ((wrap64 (x1001 - 1)) * 7)) + 3)) (x1000.length : Int)))) * 1117)))) + (wrap64 ((wrap64 (x1001 - 1)) * 29)))) + (wrap64 ((wrap64 (Int.tdiv (wrap64 (x1001 - 1)) (x1000.length : Int))) * 53)))) 64))) x1, x1001))) else (none)) else (none)) else (none)) else (none))))
def spec_l20Rd_pick.f (k : Nat) (s0_0 : List Int) (s0_1 : Int) (a1 : Int) : Option (Int × Int) := if a1 < 1 then (spec_l20Rd_pick.j0 k a1 true s0_0 (wrap64 (s0_1 + 1))) else (spec_l20Rd_pick.j0 k a1 ((s0_0.length : Int) == 0) s0_0 (wrap64 (s0_1 + 1)))
/-! ### spec_l20Sets: function 87 -/
mutual
def spec_l20Sets.l0 : Nat → Int → List (List Int) → Int → Option ((List (List Int)))
  | 0, _, _, _ => none
  | k + 1, x0, x3, x4 => if 0 ≤ x0 then (if x4 < (shl .i64 1 x0) then (spec_l20Sets.l1 k x0 x3 x4 (([] : List Int)) 0) else (some x3)) else (none)
def spec_l20Sets.l1 : Nat → Int → List (List Int) → Int → List Int → Int → Option ((List (List Int)))
  | 0, _, _, _, _, _ => none
  | k + 1, x0, x3, x4, x5, x6 => if 0 ≤ x0 then (if x6 < (shl .i64 1 x0) then (if (Go.bits .and .i64 x4 x6) = x4 then (if x5.length < 17592186044416 then (spec_l20Sets.l1 k x0 x3 x4 (x5 ++ [1]) (wrap64 (x6 + 1))) else (none)) else (if x5.length < 17592186044416 then (spec_l20Sets.l1 k x0 x3 x4 (x5 ++ [0]) (wrap64 (x6 + 1))) else (none))) else (if x3.length < 5864062014805 then (spec_l20Sets.l0 k x0 (x3 ++ [x5]) (wrap64 (x4 + 1))) else (none))) else (none)
end
def spec_l20Sets.f (k : Nat) (a0 : Int) : Option ((List (List Int))) := spec_l20Sets.l0 k a0 (([] : List (List Int))) 0
/-! ### spec_l20Boole: function 77 -/
def spec_l20Boole.l0 : Nat → Int → Int → List (List Int) → List Int → Option ((List (List Int)) × List Int)
  | 0, _, _, _, _ => none
  | k + 1, x0, x4, x124000, x124001 => if 0 ≤ x0 then (if x4 < (shl .i64 1 x0) then (if x124001.length < 17592186044416 then (spec_l20Boole.l0 k x0 (wrap64 (x4 + 1)) x124000 (x124001 ++ [wrap64 ((wrap64 ((shl .i64 1 x0) - 1)) - x4)])) else (none)) else (some (x124000, x124001))) else (none)
def spec_l20Boole.f (k : Nat) (a0 : Int) : Option ((List (List Int)) × List Int) := (spec_l20Sets.f k a0).bind fun t120 => (spec_l20Boole.l0 k a0 0 t120 ([] : List Int))
/-! ### spec_l20Glued: function 78 -/
mutual
def spec_l20Glued.l0 : Nat → Int → Int → Int → List (List Int) → List Int → List (List Int) → List Int → List (List Int) → List Int → Option ((List (List Int)) × List Int)
  | 0, _, _, _, _, _, _, _, _, _ => none
  | k + 1, x5, x6, x8, x128000, x128001, x129000, x129001, x131000, x131001 => if x8 < (wrap64 ((wrap64 (x5 + x6)) - 2)) then (spec_l20Glued.l1 k x5 x6 x8 (([] : List Int)) 0 x128000 x128001 x129000 x129001 x131000 x131001) else (some (x131000, x131001))
def spec_l20Glued.l1 : Nat → Int → Int → Int → List Int → Int → List (List Int) → List Int → List (List Int) → List Int → List (List Int) → List Int → Option ((List (List Int)) × List Int)
  | 0, _, _, _, _, _, _, _, _, _, _, _ => none
  | k + 1, x5, x6, x8, x9, x10, x128000, x128001, x129000, x129001, x131000, x131001 => if x10 < (wrap64 ((wrap64 (x5 + x6)) - 2)) then (if x8 = 0 then (spec_l20Glued.j2 k x5 x6 x8 x9 x10 0 true x128000 x128001 x129000 x129001 x131000 x131001) else (spec_l20Glued.j2 k x5 x6 x8 x9 x10 0 (x10 == (wrap64 ((wrap64 (x5 + x6)) - 3))) x128000 x128001 x129000 x129001 x131000 x131001)) else (if x131000.length < 5864062014805 then ((some (x131000 ++ [x9] : List (List Int))).bind fun y153 => (if x8 = 0 then (if x131001.length < 17592186044416 then (spec_l20Glued.l0 k x5 x6 (wrap64 (x8 + 1)) x128000 x128001 x129000 x129001 y153 (x131001 ++ [wrap64 ((wrap64 (x5 + x6)) - 3)])) else (none)) else (if x8 = (wrap64 ((wrap64 (x5 + x6)) - 3)) then (if x131001.length < 17592186044416 then (spec_l20Glued.l0 k x5 x6 (wrap64 (x8 + 1)) x128000 x128001 x129000 x129001 y153 (x131001 ++ [0])) else (none)) else (if x8 < (wrap64 (x5 - 1)) then (if 0 ≤ x8 then (if x8 < (x128001.length : Int) then (if x131001.length < 17592186044416 then (spec_l20Glued.l0 k x5 x6 (wrap64 (x8 + 1)) x128000 x128001 x129000 x129001 y153 (x131001 ++ [rd x128001 x8])) else (none)) else (none)) else (none)) else (if 0 ≤ (wrap64 ((wrap64 (x8 - x5)) + 2)) then (if (wrap64 ((wrap64 (x8 - x5)) + 2)) < (x129001.length : Int) then (if x131001.length < 17592186044416 then (spec_l20Glued.l0 k x5 x6 (wrap64 (x8 + 1)) x128000 x128001 x129000 x129001 y153 (x131001 ++ [wrap64 ((wrap64 ((rd x129001 (wrap64 ((wrap64 (x8 - x5)) + 2))) + x5)) - 2)])) else (none)) else (none)) else (none)))))) else (none))
def spec_l20Glued.j2 : Nat → Int → Int → Int → List Int → Int → Int → Bool → List (List Int) → List Int → List (List Int) → List Int → List (List Int) → List Int → Option ((List (List Int)) × List Int)
  | 0, _, _, _, _, _, _, _, _, _, _, _, _, _ => none
  | k + 1, x5, x6, x8, x9, x10, x11, x36, x128000, x128001, x129000, x129001, x131000, x131001 => if x36 = true then (if x9.length < 17592186044416 then (spec_l20Glued.l1 k x5 x6 x8 (x9 ++ [1]) (wrap64 (x10 + 1)) x128000 x128001 x129000 x129001 x131000 x131001) else (none)) else (if x8 < (wrap64 (x5 - 1)) then (spec_l20Glued.j3 k x5 x6 x8 x9 x10 x11 (decide (x10 < (wrap64 (x5 - 1)))) x128000 x128001 x129000 x129001 x131000 x131001) else (spec_l20Glued.j3 k x5 x6 x8 x9 x10 x11 false x128000 x128001 x129000 x129001 x131000 x131001))
def spec_l20Glued.j3 : Nat → Int → Int → Int → List Int → Int → Int → Bool → List (List Int) → List Int → List (List Int) → List Int → List (List Int) → List Int → Option ((List (List Int)) × List Int)
  | 0, _, _, _, _, _, _, _, _, _, _, _, _, _ => none
  | k + 1, x5, x6, x8, x9, x10, x11, x47, x128000, x128001, x129000, x129001, x131000, x131001 => if x47 = true then (if 0 ≤ x8 then (if x8 < (x128000.length : Int) then (if 0 ≤ x10 then (if x10 < ((rd_L1 x128000 x8).length : Int) then (if x9.length < 17592186044416 then (spec_l20Glued.l1 k x5 x6 x8 (x9 ++ [rd (rd_L1 x128000 x8) x10]) (wrap64 (x10 + 1)) x128000 x128001 x129000 x129001 x131000 x131001) else (none)) else (none)) else (none)) else (none)) else (none)) else (if x8 ≥ (wrap64 (x5 - 1)) then (if x10 ≥ (wrap64 (x5 - 1)) then (spec_l20Glued.j4 k x5 x6 x8 x9 x10 x11 (decide (x8 < (wrap64 ((wrap64 (x5 + x6)) - 3)))) x128000 x128001 x129000 x129001 x131000 x131001) else (spec_l20Glued.j4 k x5 x6 x8 x9 x10 x11 false x128000 x128001 x129000 x129001 x131000 x131001)) else (spec_l20Glued.j4 k x5 x6 x8 x9 x10 x11 false x128000 x128001 x129000 x129001 x131000 x131001))
def spec_l20Glued.j4 : Nat → Int → Int → Int → List Int → Int → Int → Bool → List (List Int) → List Int → List (List Int) → List Int → List (List Int) → List Int → Option ((List (List Int)) × List Int)
  | 0, _, _, _, _, _, _, _, _, _, _, _, _, _ => none
  | k + 1, x5, x6, x8, x9, x10, x11, x66, x128000, x128001, x129000, x129001, x131000, x131001 => if x66 = true then (if 0 ≤ (wrap64 ((wrap64 (x8 - x5)) + 2)) then (if (wrap64 ((wrap64 (x8 - x5)) + 2)) < (x129000.length : Int) then (if 0 ≤ (wrap64 ((wrap64 (x10 - x5)) + 2)) then (if (wrap64 ((wrap64 (x10 - x5)) + 2)) < ((rd_L1 x129000 (wrap64 ((wrap64 (x8 - x5)) + 2))).length : Int) then (if x9.length < 17592186044416 then (spec_l20Glued.l1 k x5 x6 x8 (x9 ++ [rd (rd_L1 x129000 (wrap64 ((wrap64 (x8 - x5)) + 2))) (wrap64 ((wrap64 (x10 - x5)) + 2))]) (wrap64 (x10 + 1)) x128000 x128001 x129000 x129001 x131000 x131001) else (none)) else (none)) else (none)) else (none)) else (none)) else (if x8 = x10 then (if x9.length < 17592186044416 then (spec_l20Glued.l1 k x5 x6 x8 (x9 ++ [1]) (wrap64 (x10 + 1)) x128000 x128001 x129000 x129001 x131000 x131001) else (none)) else (if x9.length < 17592186044416 then (spec_l20Glued.l1 k x5 x6 x8 (x9 ++ [x11]) (wrap64 (x10 + 1)) x128000 x128001 x129000 x129001 x131000 x131001) else (none)))
end
def spec_l20Glued.f (k : Nat) (l0_0 : List (List Int)) (l0_1 : List Int) (l1_0 : List (List Int)) (l1_1 : List Int) : Option ((List (List Int)) × List Int) := spec_l20Glued.l0 k (l0_1.length : Int) (l1_1.length : Int) 0 l0_0 l0_1 l1_0 l1_1 ([] : List (List Int)) ([] : List Int)
/-! ### spec_l20Six: own -/
def spec_l20Six.f  : Option ((List (List Int)) × List Int) := some (sixU, sixN)
/-! ### spec_l1In: function 58 -/
def spec_l1In.f (a0 : Int) (a1 : Int) (a2 : Int) : Option (Bool) := if a0 ≥ a1 then (some (decide (a0 ≤ a2))) else (some false)
/-! ### spec_l20Pasted: function 80 -/
mutual
def spec_l20Pasted.l0 : Nat → Int → List (List Int) → Option ((List (List Int)) × List Int)
  | 0, _, _ => none
  | k + 1, x2, x172000 => if x2 < 12 then (spec_l20Pasted.l1 k x2 (([] : List Int)) 0 x172000) else (some (x172000, (([11, 6, 7, 8, 9, 10, 1, 2, 3, 4, 5, 0] : List Int))))
def spec_l20Pasted.l1 : Nat → Int → List Int → Int → List (List Int) → Option ((List (List Int)) × List Int)
  | 0, _, _, _, _ => none
  | k + 1, x2, x3, x4, x172000 => if x4 < 12 then (if x2 = x4 then (spec_l20Pasted.j2 k x2 x3 x4 0 true x172000) else (if x2 = 0 then (spec_l20Pasted.j2 k x2 x3 x4 0 true x172000) else (spec_l20Pasted.j2 k x2 x3 x4 0 (x4 == 11) x172000))) else (if x172000.length < 5864062014805 then (spec_l20Pasted.l0 k (wrap64 (x2 + 1)) (x172000 ++ [x3])) else (none))
def spec_l20Pasted.j2 : Nat → Int → List Int → Int → Int → Bool → List (List Int) → Option ((List (List Int)) × List Int)
  | 0, _, _, _, _, _, _ => none
  | k + 1, x2, x3, x4, x5, x17, x172000 => if x17 = true then (if x3.length < 17592186044416 then (spec_l20Pasted.l1 k x2 (x3 ++ [1]) (wrap64 (x4 + 1)) x172000) else (none)) else ((spec_l1In.f x2 1 5).bind fun t184 => (if t184 = true then ((spec_l1In.f x4 6 10).bind fun t185 => (if t185 = true then (spec_l20Pasted.j3 k x2 x3 x4 x5 (x2 != (wrap64 (x4 - 5))) x172000) else (spec_l20Pasted.j3 k x2 x3 x4 x5 false x172000))) else (spec_l20Pasted.j3 k x2 x3 x4 x5 false x172000)))
def spec_l20Pasted.j3 : Nat → Int → List Int → Int → Int → Bool → List (List Int) → Option ((List (List Int)) × List Int)
  | 0, _, _, _, _, _, _ => none
  | k + 1, x2, x3, x4, x5, x29, x172000 => if x29 = true then (if x2 ≤ 3 then (if (wrap64 (x4 - 5)) ≤ 3 then (if x3.length < 17592186044416 then (spec_l20Pasted.l1 k x2 (x3 ++ [1]) (wrap64 (x4 + 1)) x172000) else (none)) else (if x2 ≥ 3 then (if (wrap64 (x4 - 5)) ≥ 3 then (if x3.length < 17592186044416 then (spec_l20Pasted.l1 k x2 (x3 ++ [1]) (wrap64 (x4 + 1)) x172000) else (none)) else (if x3.length < 17592186044416 then (spec_l20Pasted.l1 k x2 (x3 ++ [x5]) (wrap64 (x4 + 1)) x172000) else (none))) else (if x3.length < 17592186044416 then (spec_l20Pasted.l1 k x2 (x3 ++ [x5]) (wrap64 (x4 + 1)) x172000) else (none)))) else (if x2 ≥ 3 then (if (wrap64 (x4 - 5)) ≥ 3 then (if x3.length < 17592186044416 then (spec_l20Pasted.l1 k x2 (x3 ++ [1]) (wrap64 (x4 + 1)) x172000) else (none)) else (if x3.length < 17592186044416 then (spec_l20Pasted.l1 k x2 (x3 ++ [x5]) (wrap64 (x4 + 1)) x172000) else (none))) else (if x3.length < 17592186044416 then (spec_l20Pasted.l1 k x2 (x3 ++ [x5]) (wrap64 (x4 + 1)) x172000) else (none)))) else (if x3.length < 17592186044416 then (spec_l20Pasted.l1 k x2 (x3 ++ [x5]) (wrap64 (x4 + 1)) x172000) else (none))
end
def spec_l20Pasted.f (k : Nat)  : Option ((List (List Int)) × List Int) := spec_l20Pasted.l0 k 0 ([] : List (List Int))
/-! ### spec_l20Rename: function 81 -/
mutual
def spec_l20Rename.l0 : Nat → List Int → List Int → Int → List (List Int) → List Int → Option ((List (List Int)) × List Int)
  | 0, _, _, _, _, _ => none
  | k + 1, x1, x5, x6, x211000, x211001 => if x6 < (x1.length : Int) then (if 0 ≤ x6 then (if 0 ≤ (rd x1 x6) then (if (rd x1 x6) < (x5.length : Int) then (spec_l20Rename.l0 k x1 (x5.set ((rd x1 x6) : Int).toNat x6) (wrap64 (x6 + 1)) x211000 x211001) else (none)) else (none)) else (none)) else (spec_l20Rename.l1 k x1 x5 0 x211000 x211001 ([] : List (List Int)) ([] : List Int))
def spec_l20Rename.l1 : Nat → List Int → List Int → Int → List (List Int) → List Int → List (List Int) → List Int → Option ((List (List Int)) × List Int)
  | 0, _, _, _, _, _, _, _ => none
  | k + 1, x1, x5, x8, x211000, x211001, x218000, x218001 => if x8 < (x1.length : Int) then (spec_l20Rename.l2 k x1 x5 x8 (([] : List Int)) 0 x211000 x211001 x218000 x218001) else (some (x218000, x218001))
def spec_l20Rename.l2 : Nat → List Int → List Int → Int → List Int → Int → List (List Int) → List Int → List (List Int) → List Int → Option ((List (List Int)) × List Int)
  | 0, _, _, _, _, _, _, _, _, _ => none
  | k + 1, x1, x5, x8, x9, x10, x211000, x211001, x218000, x218001 => if x10 < (x1.length : Int) then (if 0 ≤ x8 then (if x8 < (x1.length : Int) then (if 0 ≤ (rd x1 x8) then (if (rd x1 x8) < (x211000.length : Int) then (if 0 ≤ x10 then (if 0 ≤ (rd x1 x10) then (if (rd x1 x10) < ((rd_L1 x211000 (rd x1 x8)).length : Int) then (if x9.length < 17592186044416 then (spec_l20Rename.l2 k x1 x5 x8 (x9 ++ [rd (rd_L1 x211000 (rd x1 x8)) (rd x1 x10)]) (wrap64 (x10 + 1)) x211000 x211001 x218000 x218001) else (none)) else (none)) else (none)) else (none)) else (none)) else (none)) else (none)) else (none)) else (if x218000.length < 5864062014805 then (if 0 ≤ x8 then (if x8 < (x1.length : Int) then (if 0 ≤ (rd x1 x8) then (if (rd x1 x8) < (x211001.length : Int) then (if 0 ≤ (rd x211001 (rd x1 x8)) then (if (rd x211001 (rd x1 x8)) < (x5.length : Int) then (if x218001.length < 17592186044416 then (spec_l20Rename.l1 k x1 x5 (wrap64 (x8 + 1)) x211000 x211001 (x218000 ++ [x9]) (x218001 ++ [rd x5 (rd x211001 (rd x1 x8))])) else (none)) else (none)) else (none)) else (none)) else (none)) else (none)) else (none)) else (none))
end
def spec_l20Rename.f (k : Nat) (l0_0 : List (List Int)) (l0_1 : List Int) (l1 : List Int) : Option ((List (List Int)) × List Int) := if 0 ≤ (l1.length : Int) then (if ((l1.length : Int) : Int).toNat ≤ 35184372088832 then (spec_l20Rename.l0 k l1 (List.replicate ((l1.length : Int) : Int).toNat 0) 0 l0_0 l0_1) else (none)) else (none)
/-! ### spec_l20Rd_odd: function 82 -/
def spec_l20Rd_odd.f (k : Nat) (s0_0 : List Int) (s0_1 : Int) (a1 : Int) : Option (Bool × Int) := if a1 > 0 then ((spec_l20Rd_pick.f k s0_0 s0_1 a1).bind fun bt237 => (some ((bt237.1 == (wrap64 (a1 - 1))), bt237.2))) else (some (false, s0_1))
/-! ### spec_l20Logic: function 54 -/
mutual
def spec_l20Logic.j2 : Nat → Int → List Int → Int → List (List Int) → List Int → Option ((List (List Int)) × List Int × Int)
  | 0, _, _, _, _, _ => none
  | k + 1, x1, x1000, x1001, x241000, x241001 => spec_l20Logic.l0 k x1 (([] : List Int)) 0 x1000 x1001 x241000 x241001
def spec_l20Logic.l0 : Nat → Int → List Int → Int → List Int → Int → List (List Int) → List Int → Option ((List (List Int)) × List Int × Int)
  | 0, _, _, _, _, _, _, _ => none
  | k + 1, x1, x6, x7, x1000, x1001, x241000, x241001 => if x7 < (x241001.length : Int) then ((spec_l20Rd_pick.f k x1000 x1001 (wrap64 (x7 + 1))).bind fun bt350 => (if x6.length < 17592186044416 then (spec_l20Logic.l1 k x1 (x6 ++ [x7]) x7 bt350.1 x7 x1000 bt350.2 x241000 x241001) else (none))) else ((spec_l20Rd_pick.f k x1000 x1001 2).bind fun bt358 => (if bt358.1 = 0 then ((spec_l20Rename.f k x241000 x241001 x6).bind fun bt360 => (spec_l20Logic.j5 k x1 x1000 bt358.2 bt360.1 bt360.2)) else (spec_l20Logic.j5 k x1 x1000 bt358.2 x241000 x241001)))
def spec_l20Logic.l1 : Nat → Int → List Int → Int → Int → Int → List Int → Int → List (List Int) → List Int → Option ((List (List Int)) × List Int × Int)
  | 0, _, _, _, _, _, _, _, _, _ => none
  | k + 1, x1, x6, x7, x8, x9, x1000, x1001, x241000, x241001 => if x9 > x8 then (if 0 ≤ (wrap64 (x9 - 1)) then (if (wrap64 (x9 - 1)) < (x6.length : Int) then (if 0 ≤ x9 then (if x9 < (x6.length : Int) then (spec_l20Logic.l1 k x1 (x6.set (x9 : Int).toNat (rd x6 (wrap64 (x9 - 1)))) x7 x8 (wrap64 (x9 - 1)) x1000 x1001 x241000 x241001) else (none)) else (none)) else (none)) else (none)) else (if 0 ≤ x8 then (if x8 < (x6.length : Int) then (spec_l20Logic.l0 k x1 (x6.set (x8 : Int).toNat x7) (wrap64 (x7 + 1)) x1000 x1001 x241000 x241001) else (none)) else (none))
def spec_l20Logic.j5 : Nat → Int → List Int → Int → List (List Int) → List Int → Option ((List (List Int)) × List Int × Int)
  | 0, _, _, _, _, _ => none
  | k + 1, x1, x1000, x1001, x241000, x241001 => (spec_l20Rd_odd.f k x1000 x1001 x1).bind fun bt366 => (if bt366.1 = true then ((spec_l20Rd_pick.f k x1000 bt366.2 4).bind fun bt368 => (if bt368.1 = 0 then (some (([] : List (List Int)), ([] : List Int), bt368.2)) else (if bt368.1 = 1 then (if 1 ≤ (x241001.length : Int) then (some (x241000, (x241001.drop (1 : Int).toNat), bt368.2)) else (none)) else (if bt368.1 = 2 then ((spec_l20Rd_pick.f k x1000 bt368.2 (x241001.length : Int)).bind fun bt373 => ((spec_l20Rd_pick.f k x1000 bt373.2 (wrap64 ((x241001.length : Int) + 1))).bind fun bt375 => (if 0 ≤ bt373.1 then (if bt373.1 < (x241001.length : Int) then (some (x241000, (x241001.set (bt373.1 : Int).toNat bt375.1), bt375.2)) else (none)) else (none)))) else (if 0 ≤ (wrap64 ((x241000.length : Int) - 1)) then (if (wrap64 ((x241000.length : Int) - 1)) < (x241000.length : Int) then (if 0 < ((rd_L1 x241000 (wrap64 ((x241000.length : Int) - 1))).length : Int) then (some ((x241000.set ((wrap64 ((x241000.length : Int) - 1)) : Int).toNat ((rd_L1 x241000 (wrap64 ((x241000.length : Int) - 1))).set (0 : Int).toNat 1)), x241001, bt368.2)) else (none)) else (none)) else (none)))))) else (some (x241000, x241001, bt366.2)))
def spec_l20Logic.j0 : Nat → Int → Int → Bool → List Int → Int → Option ((List (List Int)) × List Int × Int)
  | 0, _, _, _, _, _ => none
  | k + 1, x1, x12, x14, x1000, x1001 => if x14 = true then ((spec_l20Rd_pick.f k x1000 x1001 4).bind fun bt243 => ((spec_l20Boole.f k bt243.1).bind fun bt245 => (spec_l20Logic.j2 k x1 x1000 bt243.2 bt245.1 bt245.2))) else (if x12 = 2 then (spec_l20Logic.j1 k x1 x12 (x12 == 2) x1000 x1001) else (spec_l20Logic.j1 k x1 x12 (x12 == 3) x1000 x1001))
def spec_l20Logic.j1 : Nat → Int → Int → Bool → List Int → Int → Option ((List (List Int)) × List Int × Int)
  | 0, _, _, _, _, _ => none
  | k + 1, x1, x12, x20, x1000, x1001 => if x20 = true then ((spec_l20Boole.f k 2).bind fun bt251 => ((spec_l20Boole.f k 2).bind fun bt257 => ((spec_l20Glued.f k bt251.1 bt251.2 bt257.1 bt257.2).bind fun bt263 => (spec_l20Logic.j2 k x1 x1000 x1001 bt263.1 bt263.2)))) else (if x12 = 4 then ((spec_l20Boole.f k 2).bind fun bt269 => ((spec_l20Boole.f k 3).bind fun bt275 => ((spec_l20Glued.f k bt269.1 bt269.2 bt275.1 bt275.2).bind fun bt281 => (spec_l20Logic.j2 k x1 x1000 x1001 bt281.1 bt281.2)))) else (if x12 = 5 then ((spec_l20Boole.f k 2).bind fun bt287 => ((spec_l20Boole.f k 2).bind fun bt293 => ((spec_l20Glued.f k bt287.1 bt287.2 bt293.1 bt293.2).bind fun bt299 => ((spec_l20Boole.f k 2).bind fun bt305 => ((spec_l20Glued.f k bt299.1 bt299.2 bt305.1 bt305.2).bind fun bt311 => (spec_l20Logic.j2 k x1 x1000 x1001 bt311.1 bt311.2)))))) else (if x12 = 6 then ((spec_l20Six.f).bind fun bt317 => (spec_l20Logic.j2 k x1 x1000 x1001 bt317.1 bt317.2)) else (if x12 = 7 then ((spec_l20Six.f).bind fun bt323 => ((spec_l20Boole.f k 2).bind fun bt329 => ((spec_l20Glued.f k bt323.1 bt323.2 bt329.1 bt329.2).bind fun bt335 => (spec_l20Logic.j2 k x1 x1000 x1001 bt335.1 bt335.2)))) else ((spec_l20Pasted.f k).bind fun bt341 => (spec_l20Logic.j2 k x1 x1000 x1001 bt341.1 bt341.2))))))
end
def spec_l20Logic.f (k : Nat) (s0_0 : List Int) (s0_1 : Int) (a1 : Int) : Option ((List (List Int)) × List Int × Int) := (spec_l20Rd_pick.f k s0_0 s0_1 9).bind fun bt241 => (if bt241.1 = 0 then (spec_l20Logic.j0 k a1 bt241.1 (bt241.1 == 0) s0_0 bt241.2) else (spec_l20Logic.j0 k a1 bt241.1 (bt241.1 == 1) s0_0 bt241.2))
/-! ### spec_l20Open: function 55 -/
def spec_l20Open.f (l0 : List Int) : Option (List Int × Int) := if (l0.length : Int) > 2000 then (if 2000 ≤ (l0.length : Int) then (some (l0.take 2000, 0)) else (none)) else (some (l0, 0))
/-! ### spec_DrawLogicOk: function 14 -/
def spec_DrawLogicOk.f (k : Nat) (l0 : List Int) : Option ((List (List Int)) × List Int) := (spec_l20Open.f l0).bind fun bt387 => ((spec_l20Logic.f k bt387.1 bt387.2 2).bind fun bt390 => (some (bt390.1, bt390.2.1)))
/-! ### impl_OrderOk: function 43 -/
mutual
def impl_OrderOk.j0 : Nat → List (List Int) → Int → Bool → Option (Bool)
  | 0, _, _, _ => none
  | k + 1, x0, x3, x18 => if x18 = true then (some false) else (impl_OrderOk.l0 k x0 x3 x0 (x0.length : Int) 0)
def impl_OrderOk.l0 : Nat → List (List Int) → Int → List (List Int) → Int → Int → Option (Bool)
  | 0, _, _, _, _, _ => none
  | k + 1, x0, x3, x19, x20, x21 => if x21 < x20 then (if 0 ≤ x21 then (if x21 < (x19.length : Int) then (if ((rd_L1 x19 x21).length : Int) = x3 then (if x21 < ((rd_L1 x19 x21).length : Int) then (impl_OrderOk.j2 k x0 x3 x21 (rd_L1 x19 x21) x19 x20 x21 ((rd (rd_L1 x19 x21) x21) != 1)) else (none)) else (impl_OrderOk.j2 k x0 x3 x21 (rd_L1 x19 x21) x19 x20 x21 true)) else (none)) else (none)) else (impl_OrderOk.l2 k x0 x3 x3 0)
def impl_OrderOk.j2 : Nat → List (List Int) → Int → Int → List Int → List (List Int) → Int → Int → Bool → Option (Bool)
  | 0, _, _, _, _, _, _, _, _ => none
  | k + 1, x0, x3, x4, x5, x19, x20, x21, x36 => if x36 = true then (some false) else (impl_OrderOk.l1 k x0 x3 x4 x19 x20 x21 x5 (x5.length : Int) 0)
def impl_OrderOk.l1 : Nat → List (List Int) → Int → Int → List (List Int) → Int → Int → List Int → Int → Int → Option (Bool)
  | 0, _, _, _, _, _, _, _, _, _ => none
  | k + 1, x0, x3, x4, x19, x20, x21, x37, x38, x39 => if x39 < x38 then (if 0 ≤ x39 then (if x39 < (x37.length : Int) then (if (rd x37 x39) = 0 then (impl_OrderOk.j4 k x0 x3 x4 x39 (rd x37 x39) x19 x20 x21 x37 x38 x39 false) else (impl_OrderOk.j4 k x0 x3 x4 x39 (rd x37 x39) x19 x20 x21 x37 x38 x39 ((rd x37 x39) != 1))) else (none)) else (none)) else (impl_OrderOk.l0 k x0 x3 x19 x20 (wrap64 (x21 + 1)))
def impl_OrderOk.j4 : Nat → List (List Int) → Int → Int → Int → Int → List (List Int) → Int → Int → List Int → Int → Int → Bool → Option (Bool)
  | 0, _, _, _, _, _, _, _, _, _, _, _, _ => none
  | k + 1, x0, x3, x4, x6, x7, x19, x20, x21, x37, x38, x39, x49 => if x49 = true then (some false) else (if 0 ≤ x6 then (if x6 < (x0.length : Int) then (if ((rd_L1 x0 x6).length : Int) = x3 then (if x7 = 1 then (if x4 = x6 then (impl_OrderOk.l1 k x0 x3 x4 x19 x20 x21 x37 x38 (wrap64 (x39 + 1))) else (if 0 ≤ x4 then (if x4 < ((rd_L1 x0 x6).length : Int) then (if (rd (rd_L1 x0 x6) x4) = 1 then (some false) else (impl_OrderOk.l1 k x0 x3 x4 x19 x20 x21 x37 x38 (wrap64 (x39 + 1)))) else (none)) else (none))) else (impl_OrderOk.l1 k x0 x3 x4 x19 x20 x21 x37 x38 (wrap64 (x39 + 1)))) else (some false)) else (none)) else (none))
def impl_OrderOk.l2 : Nat → List (List Int) → Int → Int → Int → Option (Bool)
  | 0, _, _, _, _ => none
  | k + 1, x0, x3, x78, x79 => if x79 < x78 then (impl_OrderOk.l3 k x0 x3 x79 x78 x79 x3 0) else (some true)
def impl_OrderOk.l3 : Nat → List (List Int) → Int → Int → Int → Int → Int → Int → Option (Bool)
  | 0, _, _, _, _, _, _, _ => none
  | k + 1, x0, x3, x8, x78, x79, x82, x83 => if x83 < x82 then (impl_OrderOk.l4 k x0 x3 x8 x83 x78 x79 x82 x83 x3 0) else (impl_OrderOk.l2 k x0 x3 x78 (wrap64 (x79 + 1)))
def impl_OrderOk.l4 : Nat → List (List Int) → Int → Int → Int → Int → Int → Int → Int → Int → Int → Option (Bool)
  | 0, _, _, _, _, _, _, _, _, _, _ => none
  | k + 1, x0, x3, x8, x9, x78, x79, x82, x83, x86, x87 => if x87 < x86 then (if 0 ≤ x8 then (if x8 < (x0.length : Int) then (if 0 ≤ x9 then (if x9 < ((rd_L1 x0 x8).length : Int) then (if (rd (rd_L1 x0 x8) x9) = 1 then (if x9 < (x0.length : Int) then (if 0 ≤ x87 then (if x87 < ((rd_L1 x0 x9).length : Int) then (if (rd (rd_L1 x0 x9) x87) = 1 then (if x87 < ((rd_L1 x0 x8).length : Int) then (if (rd (rd_L1 x0 x8) x87) = 1 then (impl_OrderOk.l4 k x0 x3 x8 x9 x78 x79 x82 x83 x86 (wrap64 (x87 + 1))) else (some false)) else (none)) else (impl_OrderOk.l4 k x0 x3 x8 x9 x78 x79 x82 x83 x86 (wrap64 (x87 + 1)))) else (none)) else (none)) else (none)) else (impl_OrderOk.l4 k x0 x3 x8 x9 x78 x79 x82 x83 x86 (wrap64 (x87 + 1)))) else (none)) else (none)) else (none)) else (none)) else (impl_OrderOk.l3 k x0 x3 x8 x78 x79 x82 (wrap64 (x83 + 1)))
end
def impl_OrderOk.f (k : Nat) (l0 : List (List Int)) : Option (Bool) := if (l0.length : Int) < 1 then (impl_OrderOk.j0 k l0 (l0.length : Int) true) else (impl_OrderOk.j0 k l0 (l0.length : Int) (decide ((l0.length : Int) > 12)))
/-! ### impl_LeastOf: function 21 -/
mutual
def impl_LeastOf.l0 : Nat → List (List Int) → Int → Int → Option (Int × Bool)
  | 0, _, _, _ => none
  | k + 1, x12, x13, x14 => if x14 < x13 then (if 0 ≤ x14 then (if x14 < (x12.length : Int) then (impl_LeastOf.l1 k x14 true x12 x13 x14 (rd_L1 x12 x14) ((rd_L1 x12 x14).length : Int) 0) else (none)) else (none)) else (some ((-1), false))
def impl_LeastOf.l1 : Nat → Int → Bool → List (List Int) → Int → Int → List Int → Int → Int → Option (Int × Bool)
  | 0, _, _, _, _, _, _, _, _ => none
  | k + 1, x4, x6, x12, x13, x14, x19, x20, x21 => if x21 < x20 then (if 0 ≤ x21 then (if x21 < (x19.length : Int) then (if x6 = true then (impl_LeastOf.l1 k x4 ((rd x19 x21) == 1) x12 x13 x14 x19 x20 (wrap64 (x21 + 1))) else (impl_LeastOf.l1 k x4 false x12 x13 x14 x19 x20 (wrap64 (x21 + 1)))) else (none)) else (none)) else (if x6 = true then (some (x4, true)) else (impl_LeastOf.l0 k x12 x13 (wrap64 (x14 + 1))))
end
def impl_LeastOf.f (k : Nat) (l0 : List (List Int)) : Option (Int × Bool) := (impl_OrderOk.f k l0).bind fun t409 => (if t409 = true then (impl_LeastOf.l0 k l0 (l0.length : Int) 0) else (some ((-1), false)))
/-! ### impl_turned: function 61 -/
mutual
def impl_turned.l0 : Nat → List (List Int) → List (List Int) → Int → Int → Option ((List (List Int)))
  | 0, _, _, _, _ => none
  | k + 1, x0, x3, x10, x11 => if x11 < x10 then (if 0 ≤ (x0.length : Int) then (if ((x0.length : Int) : Int).toNat ≤ 35184372088832 then (if 0 ≤ x11 then (if x11 < (x3.length : Int) then (impl_turned.l1 k x0 (x3.set (x11 : Int).toNat (List.replicate ((x0.length : Int) : Int).toNat 0)) x11 x10 x11 (x0.length : Int) 0) else (none)) else (none)) else (none)) else (none)) else (some x3)
def impl_turned.l1 : Nat → List (List Int) → List (List Int) → Int → Int → Int → Int → Int → Option ((List (List Int)))
  | 0, _, _, _, _, _, _, _ => none
  | k + 1, x0, x3, x4, x10, x11, x21, x22 => if x22 < x21 then (if 0 ≤ x4 then (if x4 < (x3.length : Int) then (if 0 ≤ x22 then (if x22 < (x0.length : Int) then (if x4 < ((rd_L1 x0 x22).length : Int) then (if x22 < ((rd_L1 x3 x4).length : Int) then (impl_turned.l1 k x0 (x3.set (x4 : Int).toNat ((rd_L1 x3 x4).set (x22 : Int).toNat (rd (rd_L1 x0 x22) x4))) x4 x10 x11 x21 (wrap64 (x22 + 1))) else (none)) else (none)) else (none)) else (none)) else (none)) else (none)) else (impl_turned.l0 k x0 x3 x10 (wrap64 (x11 + 1)))
end
def impl_turned.f (k : Nat) (l0 : List (List Int)) : Option ((List (List Int))) := if 0 ≤ (l0.length : Int) then (if ((l0.length : Int) : Int).toNat ≤ 11728124029610 then (impl_turned.l0 k l0 (List.replicate ((l0.length : Int) : Int).toNat []) (l0.length : Int) 0) else (none)) else (none)
/-! ### impl_meet: function 84 -/
mutual
def impl_meet.l0 : Nat → List (List Int) → Int → Int → Int → Int → Option (Int)
  | 0, _, _, _, _, _ => none
  | k + 1, x0, x1, x2, x11, x12 => if x12 < x11 then (if 0 ≤ x12 then (if x12 < (x0.length : Int) then (if 0 ≤ x1 then (if x1 < ((rd_L1 x0 x12).length : Int) then (if (rd (rd_L1 x0 x12) x1) = 0 then (impl_meet.j1 k x0 x1 x2 x12 x11 x12 true) else (if 0 ≤ x2 then (if x2 < ((rd_L1 x0 x12).length : Int) then (impl_meet.j1 k x0 x1 x2 x12 x11 x12 ((rd (rd_L1 x0 x12) x2) == 0)) else (none)) else (none))) else (none)) else (none)) else (none)) else (none)) else (some (-1))
def impl_meet.j1 : Nat → List (List Int) → Int → Int → Int → Int → Int → Bool → Option (Int)
  | 0, _, _, _, _, _, _, _ => none
  | k + 1, x0, x1, x2, x7, x11, x12, x32 => if x32 = true then (impl_meet.l0 k x0 x1 x2 x11 (wrap64 (x12 + 1))) else (impl_meet.l1 k x0 x1 x2 x7 true x11 x12 (x0.length : Int) 0)
def impl_meet.l1 : Nat → List (List Int) → Int → Int → Int → Bool → Int → Int → Int → Int → Option (Int)
  | 0, _, _, _, _, _, _, _, _, _ => none
  | k + 1, x0, x1, x2, x7, x8, x11, x12, x34, x35 => if x35 < x34 then (if x8 = true then (if 0 ≤ x35 then (if x35 < (x0.length : Int) then (if 0 ≤ x1 then (if x1 < ((rd_L1 x0 x35).length : Int) then (if (rd (rd_L1 x0 x35) x1) = 0 then (impl_meet.l1 k x0 x1 x2 x7 true x11 x12 x34 (wrap64 (x35 + 1))) else (if 0 ≤ x2 then (if x2 < ((rd_L1 x0 x35).length : Int) then (if (rd (rd_L1 x0 x35) x2) = 0 then (impl_meet.l1 k x0 x1 x2 x7 true x11 x12 x34 (wrap64 (x35 + 1))) else (if 0 ≤ x7 then (if x7 < ((rd_L1 x0 x35).length : Int) then (impl_meet.l1 k x0 x1 x2 x7 ((rd (rd_L1 x0 x35) x7) == 1) x11 x12 x34 (wrap64 (x35 + 1))) else (none)) else (none))) else (none)) else (none))) else (none)) else (none)) else (none)) else (none)) else (impl_meet.l1 k x0 x1 x2 x7 false x11 x12 x34 (wrap64 (x35 + 1)))) else (if x8 = true then (some x7) else (impl_meet.l0 k x0 x1 x2 x11 (wrap64 (x12 + 1))))
end
def impl_meet.f (k : Nat) (l0 : List (List Int)) (a1 : Int) (a2 : Int) : Option (Int) := impl_meet.l0 k l0 a1 a2 (l0.length : Int) 0
/-! ### impl_LatticeOk: function 83 -/
mutual
def impl_LatticeOk.l0 : Nat → List (List Int) → List (List Int) → Int → Int → Option (Bool)
  | 0, _, _, _, _ => none
  | k + 1, x0, x3, x12, x13 => if x13 < x12 then (impl_LatticeOk.l1 k x0 x3 x13 x12 x13 (x0.length : Int) 0) else (some true)
def impl_LatticeOk.l1 : Nat → List (List Int) → List (List Int) → Int → Int → Int → Int → Int → Option (Bool)
  | 0, _, _, _, _, _, _, _ => none
  | k + 1, x0, x3, x4, x12, x13, x17, x18 => if x18 < x17 then ((impl_meet.f k x0 x4 x18).bind fun t439 => (if t439 < 0 then (some false) else ((impl_meet.f k x3 x4 x18).bind fun t440 => (if t440 < 0 then (some false) else (impl_LatticeOk.l1 k x0 x3 x4 x12 x13 x17 (wrap64 (x18 + 1))))))) else (impl_LatticeOk.l0 k x0 x3 x12 (wrap64 (x13 + 1)))
end
def impl_LatticeOk.f (k : Nat) (l0 : List (List Int)) : Option (Bool) := (impl_OrderOk.f k l0).bind fun t435 => (if t435 = true then ((impl_turned.f k l0).bind fun t436 => (impl_LatticeOk.l0 k l0 t436 (l0.length : Int) 0)) else (some false))
/-! ### impl_isAnswer: function 85 -/
def impl_isAnswer.f (l0 : List (List Int)) (a1 : Int) : Option (Bool) := if a1 ≥ 0 then (some (decide (a1 < (l0.length : Int)))) else (some false)
/-! ### impl_LogicOk: own -/
def impl_LogicOk.f (l0_0 : List (List Int)) (l0_1 : List Int) : Option (Bool) := some (logicF l0_0 l0_1)
/-! ### spec_l1Meet: function 60 -/
mutual
def spec_l1Meet.l0 : Nat → List (List Int) → Int → Int → Int → Int → Option (Int)
  | 0, _, _, _, _, _ => none
  | k + 1, x0, x1, x2, x7, x8 => if x8 < (x0.length : Int) then (if 0 ≤ x8 then (if 0 ≤ x1 then (if x1 < ((rd_L1 x0 x8).length : Int) then (if (rd (rd_L1 x0 x8) x1) = 1 then (if 0 ≤ x2 then (if x2 < ((rd_L1 x0 x8).length : Int) then (if (rd (rd_L1 x0 x8) x2) = 1 then (if x7 < 0 then (spec_l1Meet.l0 k x0 x1 x2 x8 (wrap64 (x8 + 1))) else (if 0 ≤ x7 then (if x7 < (x0.length : Int) then (if x8 < ((rd_L1 x0 x7).length : Int) then (if (rd (rd_L1 x0 x7) x8) = 1 then (spec_l1Meet.l0 k x0 x1 x2 x8 (wrap64 (x8 + 1))) else (spec_l1Meet.l0 k x0 x1 x2 x7 (wrap64 (x8 + 1)))) else (none)) else (none)) else (none))) else (spec_l1Meet.l0 k x0 x1 x2 x7 (wrap64 (x8 + 1)))) else (none)) else (none)) else (spec_l1Meet.l0 k x0 x1 x2 x7 (wrap64 (x8 + 1)))) else (none)) else (none)) else (none)) else (spec_l1Meet.l1 k x0 x1 x2 x7 0)
def spec_l1Meet.l1 : Nat → List (List Int) → Int → Int → Int → Int → Option (Int)
  | 0, _, _, _, _, _ => none
  | k + 1, x0, x1, x2, x7, x9 => if x9 < (x0.length : Int) then (if 0 ≤ x9 then (if 0 ≤ x1 then (if x1 < ((rd_L1 x0 x9).length : Int) then (if (rd (rd_L1 x0 x9) x1) = 1 then (if 0 ≤ x2 then (if x2 < ((rd_L1 x0 x9).length : Int) then (if (rd (rd_L1 x0 x9) x2) = 1 then (if 0 ≤ x7 then (if x7 < ((rd_L1 x0 x9).length : Int) then (if (rd (rd_L1 x0 x9) x7) = 0 then (some (-1)) else (spec_l1Meet.l1 k x0 x1 x2 x7 (wrap64 (x9 + 1)))) else (none)) else (none)) else (spec_l1Meet.l1 k x0 x1 x2 x7 (wrap64 (x9 + 1)))) else (none)) else (none)) else (spec_l1Meet.l1 k x0 x1 x2 x7 (wrap64 (x9 + 1)))) else (none)) else (none)) else (none)) else (some x7)
end
def spec_l1Meet.f (k : Nat) (l0 : List (List Int)) (a1 : Int) (a2 : Int) : Option (Int) := spec_l1Meet.l0 k l0 a1 a2 (-1) 0
/-! ### spec_l1Join: function 65 -/
mutual
def spec_l1Join.l0 : Nat → List (List Int) → Int → Int → Int → Int → Option (Int)
  | 0, _, _, _, _, _ => none
  | k + 1, x0, x1, x2, x7, x8 => if x8 < (x0.length : Int) then (if 0 ≤ x1 then (if x1 < (x0.length : Int) then (if 0 ≤ x8 then (if x8 < ((rd_L1 x0 x1).length : Int) then (if (rd (rd_L1 x0 x1) x8) = 1 then (if 0 ≤ x2 then (if x2 < (x0.length : Int) then (if x8 < ((rd_L1 x0 x2).length : Int) then (if (rd (rd_L1 x0 x2) x8) = 1 then (if x7 < 0 then (spec_l1Join.l0 k x0 x1 x2 x8 (wrap64 (x8 + 1))) else (if 0 ≤ x7 then (if x7 < ((rd_L1 x0 x8).length : Int) then (if (rd (rd_L1 x0 x8) x7) = 1 then (spec_l1Join.l0 k x0 x1 x2 x8 (wrap64 (x8 + 1))) else (spec_l1Join.l0 k x0 x1 x2 x7 (wrap64 (x8 + 1)))) else (none)) else (none))) else (spec_l1Join.l0 k x0 x1 x2 x7 (wrap64 (x8 + 1)))) else (none)) else (none)) else (none)) else (spec_l1Join.l0 k x0 x1 x2 x7 (wrap64 (x8 + 1)))) else (none)) else (none)) else (none)) else (none)) else (spec_l1Join.l1 k x0 x1 x2 x7 0)
def spec_l1Join.l1 : Nat → List (List Int) → Int → Int → Int → Int → Option (Int)
  | 0, _, _, _, _, _ => none
  | k + 1, x0, x1, x2, x7, x9 => if x9 < (x0.length : Int) then (if 0 ≤ x1 then (if x1 < (x0.length : Int) then (if 0 ≤ x9 then (if x9 < ((rd_L1 x0 x1).length : Int) then (if (rd (rd_L1 x0 x1) x9) = 1 then (if 0 ≤ x2 then (if x2 < (x0.length : Int) then (if x9 < ((rd_L1 x0 x2).length : Int) then (if (rd (rd_L1 x0 x2) x9) = 1 then (if 0 ≤ x7 then (if x7 < (x0.length : Int) then (if x9 < ((rd_L1 x0 x7).length : Int) then (if (rd (rd_L1 x0 x7) x9) = 0 then (some (-1)) else (spec_l1Join.l1 k x0 x1 x2 x7 (wrap64 (x9 + 1)))) else (none)) else (none)) else (none)) else (spec_l1Join.l1 k x0 x1 x2 x7 (wrap64 (x9 + 1)))) else (none)) else (none)) else (none)) else (spec_l1Join.l1 k x0 x1 x2 x7 (wrap64 (x9 + 1)))) else (none)) else (none)) else (none)) else (none)) else (some x7)
end
def spec_l1Join.f (k : Nat) (l0 : List (List Int)) (a1 : Int) (a2 : Int) : Option (Int) := spec_l1Join.l0 k l0 a1 a2 (-1) 0
/-! ### spec_OrderOk: function 86 -/
mutual
def spec_OrderOk.l0 : Nat → List (List Int) → Int → Int → Option (Bool)
  | 0, _, _, _ => none
  | k + 1, x0, x3, x4 => if x4 < x3 then (if 0 ≤ x4 then (if x4 < (x0.length : Int) then (if ((rd_L1 x0 x4).length : Int) = x3 then (spec_OrderOk.l1 k x0 x3 x4 0) else (some false)) else (none)) else (none)) else (spec_OrderOk.l2 k x0 x3 0)
def spec_OrderOk.l1 : Nat → List (List Int) → Int → Int → Int → Option (Bool)
  | 0, _, _, _, _ => none
  | k + 1, x0, x3, x4, x5 => if x5 < x3 then (if 0 ≤ x4 then (if x4 < (x0.length : Int) then (if 0 ≤ x5 then (if x5 < ((rd_L1 x0 x4).length : Int) then ((spec_l1In.f (rd (rd_L1 x0 x4) x5) 0 1).bind fun t471 => (if t471 = true then (spec_OrderOk.l1 k x0 x3 x4 (wrap64 (x5 + 1))) else (some false))) else (none)) else (none)) else (none)) else (none)) else (spec_OrderOk.l0 k x0 x3 (wrap64 (x4 + 1)))
def spec_OrderOk.l2 : Nat → List (List Int) → Int → Int → Option (Bool)
  | 0, _, _, _ => none
  | k + 1, x0, x3, x6 => if x6 < x3 then (spec_OrderOk.l3 k x0 x3 x6 0) else (some true)
def spec_OrderOk.l3 : Nat → List (List Int) → Int → Int → Int → Option (Bool)
  | 0, _, _, _, _ => none
  | k + 1, x0, x3, x6, x7 => if x7 < x3 then (if x6 = x7 then (if 0 ≤ x6 then (if x6 < (x0.length : Int) then (if 0 ≤ x7 then (if x7 < ((rd_L1 x0 x6).length : Int) then (if (rd (rd_L1 x0 x6) x7) = 0 then (spec_OrderOk.j4 k x0 x3 x6 x7 true) else (spec_OrderOk.j4 k x0 x3 x6 x7 false)) else (none)) else (none)) else (none)) else (none)) else (if 0 ≤ x6 then (if x6 < (x0.length : Int) then (if 0 ≤ x7 then (if x7 < ((rd_L1 x0 x6).length : Int) then (if (rd (rd_L1 x0 x6) x7) = 1 then (if x7 < (x0.length : Int) then (if x6 < ((rd_L1 x0 x7).length : Int) then (spec_OrderOk.j4 k x0 x3 x6 x7 ((rd (rd_L1 x0 x7) x6) == 1)) else (none)) else (none)) else (spec_OrderOk.j4 k x0 x3 x6 x7 false)) else (none)) else (none)) else (none)) else (none))) else (spec_OrderOk.l2 k x0 x3 (wrap64 (x6 + 1)))
def spec_OrderOk.j4 : Nat → List (List Int) → Int → Int → Int → Bool → Option (Bool)
  | 0, _, _, _, _, _ => none
  | k + 1, x0, x3, x6, x7, x87 => if x87 = true then (some false) else (spec_OrderOk.l4 k x0 x3 x6 x7 0)
def spec_OrderOk.l4 : Nat → List (List Int) → Int → Int → Int → Int → Option (Bool)
  | 0, _, _, _, _, _ => none
  | k + 1, x0, x3, x6, x7, x8 => if x8 < x3 then (if 0 ≤ x6 then (if x6 < (x0.length : Int) then (if 0 ≤ x7 then (if x7 < ((rd_L1 x0 x6).length : Int) then (if (rd (rd_L1 x0 x6) x7) = 1 then (if x7 < (x0.length : Int) then (if 0 ≤ x8 then (if x8 < ((rd_L1 x0 x7).length : Int) then (if (rd (rd_L1 x0 x7) x8) = 1 then (if x8 < ((rd_L1 x0 x6).length : Int) then (if (rd (rd_L1 x0 x6) x8) = 0 then (some false) else (spec_OrderOk.l4 k x0 x3 x6 x7 (wrap64 (x8 + 1)))) else (none)) else (spec_OrderOk.l4 k x0 x3 x6 x7 (wrap64 (x8 + 1)))) else (none)) else (none)) else (none)) else (spec_OrderOk.l4 k x0 x3 x6 x7 (wrap64 (x8 + 1)))) else (none)) else (none)) else (none)) else (none)) else (spec_OrderOk.l3 k x0 x3 x6 (wrap64 (x7 + 1)))
end
def spec_OrderOk.f (k : Nat) (l0 : List (List Int)) : Option (Bool) := (spec_l1In.f (l0.length : Int) 1 12).bind fun t467 => (if t467 = true then (spec_OrderOk.l0 k l0 (l0.length : Int) 0) else (some false))
/-! ### spec_LatticeOk: function 57 -/
mutual
def spec_LatticeOk.l0 : Nat → List (List Int) → Int → Option (Bool)
  | 0, _, _ => none
  | k + 1, x0, x3 => if x3 < (x0.length : Int) then ((spec_OrderOk.f k x0).bind fun t484 => (spec_LatticeOk.j1 k x0 x3 t484)) else (spec_LatticeOk.j1 k x0 x3 false)
def spec_LatticeOk.j1 : Nat → List (List Int) → Int → Bool → Option (Bool)
  | 0, _, _, _ => none
  | k + 1, x0, x3, x12 => if x12 = true then (spec_LatticeOk.l1 k x0 x3 0) else ((spec_OrderOk.f k x0).bind fun t485 => (some t485))
def spec_LatticeOk.l1 : Nat → List (List Int) → Int → Int → Option (Bool)
  | 0, _, _, _ => none
  | k + 1, x0, x3, x4 => if x4 < x3 then ((spec_l1Meet.f k x0 x3 x4).bind fun t486 => (if t486 < 0 then (some false) else ((spec_l1Join.f k x0 x3 x4).bind fun t487 => (if t487 < 0 then (some false) else (spec_LatticeOk.l1 k x0 x3 (wrap64 (x4 + 1))))))) else (spec_LatticeOk.l0 k x0 (wrap64 (x3 + 1)))
end
def spec_LatticeOk.f (k : Nat) (l0 : List (List Int)) : Option (Bool) := spec_LatticeOk.l0 k l0 0
/-! ### spec_LeastOf: function 59 -/
mutual
def spec_LeastOf.l0 : Nat → List (List Int) → Int → Option (Int × Bool)
  | 0, _, _ => none
  | k + 1, x0, x4 => if x4 < (x0.length : Int) then ((spec_OrderOk.f k x0).bind fun t488 => (spec_LeastOf.j1 k x0 x4 t488)) else (spec_LeastOf.j1 k x0 x4 false)
def spec_LeastOf.j1 : Nat → List (List Int) → Int → Bool → Option (Int × Bool)
  | 0, _, _, _ => none
  | k + 1, x0, x4, x14 => if x14 = true then (spec_LeastOf.l1 k x0 x4 true 0) else (some ((-1), false))
def spec_LeastOf.l1 : Nat → List (List Int) → Int → Bool → Int → Option (Int × Bool)
  | 0, _, _, _, _ => none
  | k + 1, x0, x4, x5, x6 => if x6 < (x0.length : Int) then (if x5 = true then (if 0 ≤ x4 then (if x4 < (x0.length : Int) then (if 0 ≤ x6 then (if x6 < ((rd_L1 x0 x4).length : Int) then (spec_LeastOf.l1 k x0 x4 ((rd (rd_L1 x0 x4) x6) == 1) (wrap64 (x6 + 1))) else (none)) else (none)) else (none)) else (none)) else (spec_LeastOf.l1 k x0 x4 false (wrap64 (x6 + 1)))) else (if x5 = true then (some (x4, true)) else (spec_LeastOf.l0 k x0 (wrap64 (x4 + 1))))
end
def spec_LeastOf.f (k : Nat) (l0 : List (List Int)) : Option (Int × Bool) := spec_LeastOf.l0 k l0 0
/-! ### spec_LogicOk: function 16 -/
mutual
def spec_LogicOk.j0 : Nat → Int → Bool → List (List Int) → List Int → Option (Bool)
  | 0, _, _, _, _ => none
  | k + 1, x3, x22, x492000, x492001 => if x22 = true then (some false) else (spec_LogicOk.l0 k x3 0 x492000 x492001)
def spec_LogicOk.l0 : Nat → Int → Int → List (List Int) → List Int → Option (Bool)
  | 0, _, _, _, _ => none
  | k + 1, x3, x4, x492000, x492001 => if x4 < x3 then (if 0 ≤ x4 then (if x4 < (x492001.length : Int) then ((spec_l1In.f (rd x492001 x4) 0 (wrap64 (x3 - 1))).bind fun t494 => (if t494 = true then (spec_LogicOk.l0 k x3 (wrap64 (x4 + 1)) x492000 x492001) else (some false))) else (none)) else (none)) else ((spec_LeastOf.f k x492000).bind fun bt495 => (spec_LogicOk.l1 k x3 bt495.1 0 x492000 x492001))
def spec_LogicOk.l1 : Nat → Int → Int → Int → List (List Int) → List Int → Option (Bool)
  | 0, _, _, _, _, _ => none
  | k + 1, x3, x5, x7, x492000, x492001 => if x7 < x3 then (if 0 ≤ x7 then (if x7 < (x492001.length : Int) then (if 0 ≤ (rd x492001 x7) then (if (rd x492001 x7) < (x492001.length : Int) then (if (rd x492001 (rd x492001 x7)) = x7 then ((spec_l1Meet.f k x492000 x7 (rd x492001 x7)).bind fun t500 => (spec_LogicOk.j3 k x3 x5 x7 (t500 != x5) x492000 x492001)) else (spec_LogicOk.j3 k x3 x5 x7 true x492000 x492001)) else (none)) else (none)) else (none)) else (none)) else (some true)
def spec_LogicOk.j3 : Nat → Int → Int → Int → Bool → List (List Int) → List Int → Option (Bool)
  | 0, _, _, _, _, _, _ => none
  | k + 1, x3, x5, x7, x71, x492000, x492001 => if x71 = true then (some false) else (spec_LogicOk.l2 k x3 x5 x7 0 x492000 x492001)
def spec_LogicOk.l2 : Nat → Int → Int → Int → Int → List (List Int) → List Int → Option (Bool)
  | 0, _, _, _, _, _, _ => none
  | k + 1, x3, x5, x7, x8, x492000, x492001 => if x8 < x3 then (if 0 ≤ x7 then (if x7 < (x492000.length : Int) then (if 0 ≤ x8 then (if x8 < ((rd_L1 x492000 x7).length : Int) then (if (rd (rd_L1 x492000 x7) x8) = 1 then (if x8 < (x492001.length : Int) then (if 0 ≤ (rd x492001 x8) then (if (rd x492001 x8) < (x492000.length : Int) then (if x7 < (x492001.length : Int) then (if 0 ≤ (rd x492001 x7) then (if (rd x492001 x7) < ((rd_L1 x492000 (rd x492001 x8)).length : Int) then (if (rd (rd_L1 x492000 (rd x492001 x8)) (rd x492001 x7)) = 0 then (some false) else (spec_LogicOk.l2 k x3 x5 x7 (wrap64 (x8 + 1)) x492000 x492001)) else (none)) else (none)) else (none)) else (none)) else (none)) else (none)) else (spec_LogicOk.l2 k x3 x5 x7 (wrap64 (x8 + 1)) x492000 x492001)) else (none)) else (none)) else (none)) else (none)) else (spec_LogicOk.l1 k x3 x5 (wrap64 (x7 + 1)) x492000 x492001)
end
def spec_LogicOk.f (k : Nat) (l0_0 : List (List Int)) (l0_1 : List Int) : Option (Bool) := (spec_LatticeOk.f k l0_0).bind fun t492 => (if t492 = true then (spec_LogicOk.j0 k (l0_0.length : Int) ((l0_1.length : Int) != (l0_0.length : Int)) l0_0 l0_1) else (spec_LogicOk.j0 k (l0_0.length : Int) true l0_0 l0_1))
/-! ### laws_alive: function 17 -/
def laws_alive.f (k : Nat)  : Option (Bool) := (impl_OrderOk.f k (([(([1] : List Int))] : List (List Int)))).bind fun t513 => (if t513 = true then ((impl_OrderOk.f k (([(([0] : List Int))] : List (List Int)))).bind fun t520 => (some (!t520))) else (some false))
/-! ### laws_FnLogicOk: function 3 -/
def laws_FnLogicOk.f (k : Nat) (l0 : List Int) : Option (Bool) := if (l0.length : Int) > 1048576 then (some true) else ((spec_DrawLogicOk.f k l0).bind fun bt521 => ((impl_LogicOk.f bt521.1 bt521.2).bind fun t528 => ((spec_LogicOk.f k bt521.1 bt521.2).bind fun t529 => (if (t528 != t529) = true then (some false) else ((impl_LogicOk.f (([(([1, 1] : List Int)), (([0, 1] : List Int))] : List (List Int))) (([1, 0] : List Int))).bind fun t542 => (if t542 = true then (if t528 = true then (if (bt521.2.length : Int) = 1 then ((laws_alive.f k).bind fun t543 => (some t543)) else (if ((bt521.2.length : Int) % 2) = 0 then ((laws_alive.f k).bind fun t544 => (some t544)) else (some false))) else ((laws_alive.f k).bind fun t545 => (some t545))) else (some false)))))))
/-- THE ONE PURE STATEMENT of laws_FnLogicOk: yours. -/
def laws_FnLogicOk.Pure : Prop := ∀ (l0 : List Int), l0.length ≤ maxLen → l0.length * 1 ≤ 140737488351232 → (∀ x ∈ l0, (Lit.int .u8 x).wf = true) → ∃ k, laws_FnLogicOk.f k l0 = some true
/-! ### spec_DrawNoOf: function 18 -/
def spec_DrawNoOf.f (k : Nat) (l0 : List Int) : Option ((List (List Int)) × List Int) := (spec_l20Open.f l0).bind fun bt547 => ((spec_l20Logic.f k bt547.1 bt547.2 9).bind fun bt550 => (some (bt550.1, bt550.2.1)))
/-! ### impl_NoOf: own -/
def impl_NoOf.f (l0_0 : List (List Int)) (l0_1 : List Int) : Option (Int) := some (noF l0_0 l0_1)
/-! ### spec_NoOf: function 20 -/
def spec_NoOf.f (k : Nat) (l0_0 : List (List Int)) (l0_1 : List Int) : Option (Int) := (spec_LogicOk.f k l0_0 l0_1).bind fun t558 => (if t558 = true then ((spec_LeastOf.f k l0_0).bind fun bt559 => (some bt559.1)) else (some (-1)))
/-! ### laws_FnNoOf: function 4 -/
def laws_FnNoOf.f (k : Nat) (l0 : List Int) : Option (Bool) := if (l0.length : Int) > 1048576 then (some true) else ((spec_DrawNoOf.f k l0).bind fun bt561 => ((impl_NoOf.f bt561.1 bt561.2).bind fun t568 => ((spec_NoOf.f k bt561.1 bt561.2).bind fun t569 => (if t568 = t569 then (if t568 < 0 then (if t568 = (-1) then ((impl_LogicOk.f bt561.1 bt561.2).bind fun t570 => (if t570 = true then (some false) else ((laws_alive.f k).bind fun t571 => (some t571)))) else (some false)) else ((impl_LeastOf.f k bt561.1).bind fun bt572 => (if bt572.2 = true then (some (bt572.1 == t568)) else (some false)))) else (some false)))))
/-- THE ONE PURE STATEMENT of laws_FnNoOf: yours. -/
def laws_FnNoOf.Pure : Prop := ∀ (l0 : List Int), l0.length ≤ maxLen → l0.length * 1 ≤ 140737488351232 → (∀ x ∈ l0, (Lit.int .u8 x).wf = true) → ∃ k, laws_FnNoOf.f k l0 = some true
/-! ### spec_DrawYesOf: function 22 -/
def spec_DrawYesOf.f (k : Nat) (l0 : List Int) : Option ((List (List Int)) × List Int) := (spec_l20Open.f l0).bind fun bt575 => ((spec_l20Logic.f k bt575.1 bt575.2 9).bind fun bt578 => (some (bt578.1, bt578.2.1)))
/-! ### impl_YesOf: own -/
def impl_YesOf.f (l0_0 : List (List Int)) (l0_1 : List Int) : Option (Int) := some (yesF l0_0 l0_1)
/-! ### spec_l2Both: function 64 -/
def spec_l2Both.f (k : Nat) (l0_0 : List (List Int)) (l0_1 : List Int) (a1 : Int) (a2 : Int) : Option (Bool) := (spec_LogicOk.f k l0_0 l0_1).bind fun t586 => (if t586 = true then ((spec_l1In.f a1 0 (wrap64 ((l0_1.length : Int) - 1))).bind fun t587 => (if t587 = true then ((spec_l1In.f a2 0 (wrap64 ((l0_1.length : Int) - 1))).bind fun t588 => (some t588)) else (some false))) else (some false))
/-! ### spec_NotOf: function 32 -/
def spec_NotOf.f (k : Nat) (l0_0 : List (List Int)) (l0_1 : List Int) (a1 : Int) : Option (Int) := (spec_l2Both.f k l0_0 l0_1 a1 a1).bind fun t590 => (if t590 = true then (if 0 ≤ a1 then (if a1 < (l0_1.length : Int) then (some (rd l0_1 a1)) else (none)) else (none)) else (some (-1)))
/-! ### spec_YesOf: function 24 -/
def spec_YesOf.f (k : Nat) (l0_0 : List (List Int)) (l0_1 : List Int) : Option (Int) := (spec_NoOf.f k l0_0 l0_1).bind fun t593 => ((spec_NotOf.f k l0_0 l0_1 t593).bind fun t594 => (some t594))
/-! ### impl_TurnedOf: function 25 -/
def impl_TurnedOf.f (k : Nat) (l0 : List (List Int)) : Option ((List (List Int))) := (impl_OrderOk.f k l0).bind fun t595 => (if t595 = true then ((impl_turned.f k l0).bind fun t596 => (some t596)) else (some ([] : List (List Int))))
/-! ### laws_FnYesOf: function 5 -/
def laws_FnYesOf.f (k : Nat) (l0 : List Int) : Option (Bool) := if (l0.length : Int) > 1048576 then (some true) else ((spec_DrawYesOf.f k l0).bind fun bt599 => ((impl_YesOf.f bt599.1 bt599.2).bind fun t606 => ((spec_YesOf.f k bt599.1 bt599.2).bind fun t607 => (if t606 = t607 then (if t606 < 0 then (if t606 = (-1) then ((impl_LogicOk.f bt599.1 bt599.2).bind fun t608 => (if t608 = true then (some false) else ((laws_alive.f k).bind fun t609 => (some t609)))) else (some false)) else ((impl_TurnedOf.f k bt599.1).bind fun t610 => ((impl_LeastOf.f k t610).bind fun bt613 => (if bt613.2 = true then (some (bt613.1 == t606)) else (some false))))) else (some false)))))
/-- THE ONE PURE STATEMENT of laws_FnYesOf: yours. -/
def laws_FnYesOf.Pure : Prop := ∀ (l0 : List Int), l0.length ≤ maxLen → l0.length * 1 ≤ 140737488351232 → (∀ x ∈ l0, (Lit.int .u8 x).wf = true) → ∃ k, laws_FnYesOf.f k l0 = some true
/-! ### spec_l20Two: function 62 -/
def spec_l20Two.f (k : Nat) (s0_0 : List Int) (s0_1 : Int) (a1 : Int) : Option ((List (List Int)) × List Int × Int × Int × Int) := (spec_l20Logic.f k s0_0 s0_1 a1).bind fun bt616 => ((spec_l20Rd_pick.f k s0_0 bt616.2.2 (mx (bt616.2.1.length : Int) 1)).bind fun bt624 => ((spec_l20Rd_pick.f k s0_0 bt624.2 40).bind fun bt626 => ((spec_l20Rd_pick.f k s0_0 bt626.2 (mx (bt616.2.1.length : Int) 1)).bind fun bt628 => ((spec_l20Rd_pick.f k s0_0 bt628.2 40).bind fun bt630 => (some (bt616.1, bt616.2.1, wrap64 (bt624.1 + (wrap64 ((wrap64 (Int.tdiv bt626.1 39)) * 12))), wrap64 (bt628.1 - (wrap64 ((wrap64 (Int.tdiv bt630.1 39)) * 12))), bt630.2))))))
/-! ### spec_DrawAndOf: function 26 -/
def spec_DrawAndOf.f (k : Nat) (l0 : List Int) : Option ((List (List Int)) × List Int × Int × Int) := (spec_l20Open.f l0).bind fun bt633 => ((spec_l20Two.f k bt633.1 bt633.2 14).bind fun bt636 => (some (bt636.1, bt636.2.1, bt636.2.2.1, bt636.2.2.2.1)))
/-! ### impl_AndOf: own -/
def impl_AndOf.f (l0_0 : List (List Int)) (l0_1 : List Int) (a1 : Int) (a2 : Int) : Option (Int) := some (andF l0_0 l0_1 a1 a2)
/-! ### spec_AndOf: function 28 -/
def spec_AndOf.f (k : Nat) (l0_0 : List (List Int)) (l0_1 : List Int) (a1 : Int) (a2 : Int) : Option (Int) := (spec_l2Both.f k l0_0 l0_1 a1 a2).bind fun t646 => (if t646 = true then ((spec_l1Meet.f k l0_0 a1 a2).bind fun t647 => (some t647)) else (some (-1)))
/-! ### impl_NotOf: own -/
def impl_NotOf.f (l0_0 : List (List Int)) (l0_1 : List Int) (a1 : Int) : Option (Int) := some (notF l0_0 l0_1 a1)
/-! ### impl_OrOf: own -/
def impl_OrOf.f (l0_0 : List (List Int)) (l0_1 : List Int) (a1 : Int) (a2 : Int) : Option (Int) := some (orF l0_0 l0_1 a1 a2)
/-! ### laws_FnAndOf: function 6 -/
def laws_FnAndOf.f (k : Nat) (l0 : List Int) : Option (Bool) := if (l0.length : Int) > 1048576 then (some true) else ((spec_DrawAndOf.f k l0).bind fun bt648 => ((impl_AndOf.f bt648.1 bt648.2.1 bt648.2.2.1 bt648.2.2.2).bind fun t657 => ((spec_AndOf.f k bt648.1 bt648.2.1 bt648.2.2.1 bt648.2.2.2).bind fun t658 => (if t657 = t658 then (if t657 < 0 then (if t657 = (-1) then ((laws_alive.f k).bind fun t659 => (some t659)) else (some false)) else ((impl_NotOf.f bt648.1 bt648.2.1 t657).bind fun t660 => ((impl_NotOf.f bt648.1 bt648.2.1 bt648.2.2.1).bind fun t661 => ((impl_NotOf.f bt648.1 bt648.2.1 bt648.2.2.2).bind fun t662 => ((impl_OrOf.f bt648.1 bt648.2.1 t661 t662).bind fun t663 => (if t660 = t663 then (if 0 ≤ bt648.2.2.1 then (if bt648.2.2.1 < (bt648.1.length : Int) then (if 0 ≤ bt648.2.2.2 then (if bt648.2.2.2 < ((rd_L1 bt648.1 bt648.2.2.1).length : Int) then (if ((t657 == bt648.2.2.1) == ((rd (rd_L1 bt648.1 bt648.2.2.1) bt648.2.2.2) == 1)) = true then ((impl_AndOf.f bt648.1 bt648.2.1 bt648.2.2.2 bt648.2.2.1).bind fun t666 => (some (t666 == t657))) else (some false)) else (none)) else (none)) else (none)) else (none)) else (some false))))))) else (some false)))))
/-- THE ONE PURE STATEMENT of laws_FnAndOf: yours. -/
def laws_FnAndOf.Pure : Prop := ∀ (l0 : List Int), l0.length ≤ maxLen → l0.length * 1 ≤ 140737488351232 → (∀ x ∈ l0, (Lit.int .u8 x).wf = true) → ∃ k, laws_FnAndOf.f k l0 = some true
/-! ### spec_DrawNotOf: function 31 -/
def spec_DrawNotOf.f (k : Nat) (l0 : List Int) : Option ((List (List Int)) × List Int × Int) := (spec_l20Open.f l0).bind fun bt668 => ((spec_l20Two.f k bt668.1 bt668.2 14).bind fun bt671 => (some (bt671.1, bt671.2.1, bt671.2.2.1)))
/-! ### laws_FnNotOf: function 7 -/
def laws_FnNotOf.f (k : Nat) (l0 : List Int) : Option (Bool) := if (l0.length : Int) > 1048576 then (some true) else ((spec_DrawNotOf.f k l0).bind fun bt681 => ((impl_NotOf.f bt681.1 bt681.2.1 bt681.2.2).bind fun t689 => ((spec_NotOf.f k bt681.1 bt681.2.1 bt681.2.2).bind fun t690 => (if t689 = t690 then (if t689 < 0 then (if t689 = (-1) then ((laws_alive.f k).bind fun t691 => (some t691)) else (some false)) else ((impl_NotOf.f bt681.1 bt681.2.1 t689).bind fun t692 => (if t692 = bt681.2.2 then (if t689 = bt681.2.2 then (if (bt681.2.1.length : Int) = 1 then ((impl_AndOf.f bt681.1 bt681.2.1 bt681.2.2 t689).bind fun t693 => ((impl_NoOf.f bt681.1 bt681.2.1).bind fun t694 => (some (t693 == t694)))) else (some false)) else ((impl_AndOf.f bt681.1 bt681.2.1 bt681.2.2 t689).bind fun t695 => ((impl_NoOf.f bt681.1 bt681.2.1).bind fun t696 => (some (t695 == t696))))) else (some false)))) else (some false)))))
/-- THE ONE PURE STATEMENT of laws_FnNotOf: yours. -/
def laws_FnNotOf.Pure : Prop := ∀ (l0 : List Int), l0.length ≤ maxLen → l0.length * 1 ≤ 140737488351232 → (∀ x ∈ l0, (Lit.int .u8 x).wf = true) → ∃ k, laws_FnNotOf.f k l0 = some true
/-! ### spec_DrawOrOf: function 33 -/
def spec_DrawOrOf.f (k : Nat) (l0 : List Int) : Option ((List (List Int)) × List Int × Int × Int) := (spec_l20Open.f l0).bind fun bt698 => ((spec_l20Two.f k bt698.1 bt698.2 14).bind fun bt701 => (some (bt701.1, bt701.2.1, bt701.2.2.1, bt701.2.2.2.1)))
/-! ### spec_OrOf: function 34 -/
def spec_OrOf.f (k : Nat) (l0_0 : List (List Int)) (l0_1 : List Int) (a1 : Int) (a2 : Int) : Option (Int) := (spec_l2Both.f k l0_0 l0_1 a1 a2).bind fun t711 => (if t711 = true then ((spec_l1Join.f k l0_0 a1 a2).bind fun t712 => (some t712)) else (some (-1)))
/-! ### laws_FnOrOf: function 8 -/
def laws_FnOrOf.f (k : Nat) (l0 : List Int) : Option (Bool) := if (l0.length : Int) > 1048576 then (some true) else ((spec_DrawOrOf.f k l0).bind fun bt713 => ((impl_OrOf.f bt713.1 bt713.2.1 bt713.2.2.1 bt713.2.2.2).bind fun t722 => ((spec_OrOf.f k bt713.1 bt713.2.1 bt713.2.2.1 bt713.2.2.2).bind fun t723 => (if t722 = t723 then (if t722 < 0 then (if t722 = (-1) then ((laws_alive.f k).bind fun t724 => (some t724)) else (some false)) else ((impl_NotOf.f bt713.1 bt713.2.1 t722).bind fun t725 => ((impl_NotOf.f bt713.1 bt713.2.1 bt713.2.2.1).bind fun t726 => ((impl_NotOf.f bt713.1 bt713.2.1 bt713.2.2.2).bind fun t727 => ((impl_AndOf.f bt713.1 bt713.2.1 t726 t727).bind fun t728 => (if t725 = t728 then ((impl_NotOf.f bt713.1 bt713.2.1 bt713.2.2.1).bind fun t729 => ((impl_OrOf.f bt713.1 bt713.2.1 bt713.2.2.1 t729).bind fun t730 => ((impl_YesOf.f bt713.1 bt713.2.1).bind fun t731 => (some (t730 == t731))))) else (some false))))))) else (some false)))))
/-- THE ONE PURE STATEMENT of laws_FnOrOf: yours. -/
def laws_FnOrOf.Pure : Prop := ∀ (l0 : List Int), l0.length ≤ maxLen → l0.length * 1 ≤ 140737488351232 → (∀ x ∈ l0, (Lit.int .u8 x).wf = true) → ∃ k, laws_FnOrOf.f k l0 = some true
/-! ### spec_DrawApartOk: function 35 -/
def spec_DrawApartOk.f (k : Nat) (l0 : List Int) : Option ((List (List Int)) × List Int × Int × Int) := (spec_l20Open.f l0).bind fun bt733 => ((spec_l20Two.f k bt733.1 bt733.2 14).bind fun bt736 => (some (bt736.1, bt736.2.1, bt736.2.2.1, bt736.2.2.2.1)))
/-! ### impl_ApartOk: own -/
def impl_ApartOk.f (l0_0 : List (List Int)) (l0_1 : List Int) (a1 : Int) (a2 : Int) : Option (Bool) := some (apartF l0_0 l0_1 a1 a2)
/-! ### spec_ApartOk: function 37 -/
def spec_ApartOk.f (k : Nat) (l0_0 : List (List Int)) (l0_1 : List Int) (a1 : Int) (a2 : Int) : Option (Bool) := (spec_l2Both.f k l0_0 l0_1 a1 a2).bind fun t746 => (if t746 = true then (if 0 ≤ a1 then (if a1 < (l0_0.length : Int) then (if 0 ≤ a2 then (if a2 < (l0_1.length : Int) then (if 0 ≤ (rd l0_1 a2) then (if (rd l0_1 a2) < ((rd_L1 l0_0 a1).length : Int) then (some ((rd (rd_L1 l0_0 a1) (rd l0_1 a2)) == 1)) else (none)) else (none)) else (none)) else (none)) else (none)) else (none)) else (some false))
/-! ### laws_FnApartOk: function 9 -/
def laws_FnApartOk.f (k : Nat) (l0 : List Int) : Option (Bool) := if (l0.length : Int) > 1048576 then (some true) else ((spec_DrawApartOk.f k l0).bind fun bt750 => ((impl_ApartOk.f bt750.1 bt750.2.1 bt750.2.2.1 bt750.2.2.2).bind fun t759 => ((spec_ApartOk.f k bt750.1 bt750.2.1 bt750.2.2.1 bt750.2.2.2).bind fun t760 => (if (t759 != t760) = true then (some false) else ((spec_AndOf.f k bt750.1 bt750.2.1 bt750.2.2.1 bt750.2.2.2).bind fun t761 => (if t761 < 0 then (if t759 = true then (some false) else ((laws_alive.f k).bind fun t762 => (some t762))) else ((impl_ApartOk.f bt750.1 bt750.2.1 bt750.2.2.2 bt750.2.2.1).bind fun t763 => (if (t763 == t759) = true then (if t759 = true then ((impl_AndOf.f bt750.1 bt750.2.1 bt750.2.2.1 bt750.2.2.2).bind fun t764 => ((impl_NoOf.f bt750.1 bt750.2.1).bind fun t765 => (if t764 = t765 then ((impl_NotOf.f bt750.1 bt750.2.1 bt750.2.2.1).bind fun t766 => ((impl_ApartOk.f bt750.1 bt750.2.1 bt750.2.2.1 t766).bind fun t767 => (if t767 = true then ((impl_ApartOk.f bt750.1 bt750.2.1 bt750.2.2.1 bt750.2.2.1).bind fun t768 => ((impl_NoOf.f bt750.1 bt750.2.1).bind fun t769 => (some (t768 == (bt750.2.2.1 == t769))))) else (some false)))) else (some false)))) else ((impl_NotOf.f bt750.1 bt750.2.1 bt750.2.2.1).bind fun t770 => ((impl_ApartOk.f bt750.1 bt750.2.1 bt750.2.2.1 t770).bind fun t771 => (if t771 = true then ((impl_ApartOk.f bt750.1 bt750.2.1 bt750.2.2.1 bt750.2.2.1).bind fun t772 => ((impl_NoOf.f bt750.1 bt750.2.1).bind fun t773 => (some (t772 == (bt750.2.2.1 == t773))))) else (some false))))) else (some false)))))))))
/-- THE ONE PURE STATEMENT of laws_FnApartOk: yours. -/
def laws_FnApartOk.Pure : Prop := ∀ (l0 : List Int), l0.length ≤ maxLen → l0.length * 1 ≤ 140737488351232 → (∀ x ∈ l0, (Lit.int .u8 x).wf = true) → ∃ k, laws_FnApartOk.f k l0 = some true
/-! ### spec_DrawBothWaysOk: function 38 -/
def spec_DrawBothWaysOk.f (k : Nat) (l0 : List Int) : Option ((List (List Int)) × List Int) := (spec_l20Open.f l0).bind fun bt775 => ((spec_l20Logic.f k bt775.1 bt775.2 9).bind fun bt778 => (some (bt778.1, bt778.2.1)))
/-! ### impl_BothWaysOk: own -/
def impl_BothWaysOk.f (l0_0 : List (List Int)) (l0_1 : List Int) : Option (Bool) := some (waysF l0_0 l0_1)
/-! ### spec_l5With: function 69 -/
def spec_l5With.f (k : Nat) (l0_0 : List (List Int)) (l0_1 : List Int) (a1 : Int) (a2 : Int) : Option (Bool) := (spec_l1Meet.f k l0_0 a1 a2).bind fun t786 => (if 0 ≤ a2 then (if a2 < (l0_1.length : Int) then ((spec_l1Meet.f k l0_0 a1 (rd l0_1 a2)).bind fun t788 => ((spec_l1Join.f k l0_0 t786 t788).bind fun t789 => (some (t789 == a1)))) else (none)) else (none))
/-! ### spec_BothWaysOk: function 40 -/
mutual
def spec_BothWaysOk.l0 : Nat → Int → List (List Int) → List Int → Option (Bool)
  | 0, _, _, _ => none
  | k + 1, x3, x791000, x791001 => if x3 < (x791001.length : Int) then ((spec_LogicOk.f k x791000 x791001).bind fun t791 => (spec_BothWaysOk.j1 k x3 t791 x791000 x791001)) else (spec_BothWaysOk.j1 k x3 false x791000 x791001)
def spec_BothWaysOk.j1 : Nat → Int → Bool → List (List Int) → List Int → Option (Bool)
  | 0, _, _, _, _ => none
  | k + 1, x3, x13, x791000, x791001 => if x13 = true then (spec_BothWaysOk.l1 k x3 0 x791000 x791001) else ((spec_LogicOk.f k x791000 x791001).bind fun t792 => (some t792))
def spec_BothWaysOk.l1 : Nat → Int → Int → List (List Int) → List Int → Option (Bool)
  | 0, _, _, _, _ => none
  | k + 1, x3, x4, x791000, x791001 => if x4 < (x791001.length : Int) then ((spec_l5With.f k x791000 x791001 x3 x4).bind fun t793 => (if t793 = true then ((spec_l5With.f k x791000 x791001 x4 x3).bind fun t794 => (if t794 = true then (spec_BothWaysOk.l1 k x3 (wrap64 (x4 + 1)) x791000 x791001) else (some false))) else (spec_BothWaysOk.l1 k x3 (wrap64 (x4 + 1)) x791000 x791001))) else (spec_BothWaysOk.l0 k (wrap64 (x3 + 1)) x791000 x791001)
end
def spec_BothWaysOk.f (k : Nat) (l0_0 : List (List Int)) (l0_1 : List Int) : Option (Bool) := spec_BothWaysOk.l0 k 0 l0_0 l0_1
/-! ### impl_RingOf: own -/
def impl_RingOf.f (a0 : Int) : Option ((List (List Int)) × List Int × Bool) := some (ringF a0)
/-! ### impl_KeepsOk: own -/
def impl_KeepsOk.f (l0_0 : List (List Int)) (l0_1 : List Int) : Option (Bool) := some (keepsF l0_0 l0_1)
/-! ### laws_FnBothWaysOk: function 10 -/
def laws_FnBothWaysOk.f (k : Nat) (l0 : List Int) : Option (Bool) := if (l0.length : Int) > 1048576 then (some true) else ((spec_DrawBothWaysOk.f k l0).bind fun bt795 => ((impl_BothWaysOk.f bt795.1 bt795.2).bind fun t802 => ((spec_BothWaysOk.f k bt795.1 bt795.2).bind fun t803 => (if (t802 != t803) = true then (some false) else ((impl_RingOf.f 6).bind fun bt804 => ((impl_KeepsOk.f bt795.1 bt795.2).bind fun t812 => (if (t802 == t812) = true then (if bt804.2.2 = true then ((impl_BothWaysOk.f bt804.1 bt804.2.1).bind fun t813 => (if t813 = true then (some false) else ((impl_OrderOk.f k (([(([1] : List Int))] : List (List Int)))).bind fun t820 => (some t820)))) else (some false)) else (some false))))))))
/-- THE ONE PURE STATEMENT of laws_FnBothWaysOk: yours. -/
def laws_FnBothWaysOk.Pure : Prop := ∀ (l0 : List Int), l0.length ≤ maxLen → l0.length * 1 ≤ 140737488351232 → (∀ x ∈ l0, (Lit.int .u8 x).wf = true) → ∃ k, laws_FnBothWaysOk.f k l0 = some true
/-! ### spec_DrawWithOk: function 44 -/
def spec_DrawWithOk.f (k : Nat) (l0 : List Int) : Option ((List (List Int)) × List Int × Int × Int) := (spec_l20Open.f l0).bind fun bt822 => ((spec_l20Two.f k bt822.1 bt822.2 14).bind fun bt825 => (some (bt825.1, bt825.2.1, bt825.2.2.1, bt825.2.2.2.1)))
/-- A state of type 56 at block g of W; what its slices lead to came in by w0. -/
def IsS56 (w0 W : World) (g : Nat) (f0 : List (List Int)) (f1 : List (List Int)) (f2 : List (List Int)) (f3 : List Int) (f4 : Int) (f5 : Int) : Prop := ∃ A0 c0, ∃ A1 c1, ∃ A2 c2, ∃ A3 c3, W.heap[g]? = some (.cells #[.slice A0 f0.length c0, .slice A1 f1.length c1, .slice A2 f2.length c2, .slice A3 f3.length c3, .int .i64 f4, .int .i64 f5] 56 (0, 0)) ∧ w0.heap.size ≤ g ∧ Kd.C (Kd.slice 3 (Kd.int .i64)) w0 A0 f0.length f0 ∧ Kd.C (Kd.slice 3 (Kd.int .i64)) w0 A1 f1.length f1 ∧ Kd.C (Kd.slice 3 (Kd.int .i64)) w0 A2 f2.length f2 ∧ Kd.C (Kd.int .i64) w0 A3 f3.length f3
/-! ### impl_WithOk: own -/
def impl_WithOk.f (l0_0 : List (List Int)) (l0_1 : List Int) (a1 : Int) (a2 : Int) : Option (Bool) := some (withF l0_0 l0_1 a1 a2)
/-! ### spec_WithOk: function 46 -/
def spec_WithOk.f (k : Nat) (l0_0 : List (List Int)) (l0_1 : List Int) (a1 : Int) (a2 : Int) : Option (Bool) := (spec_l2Both.f k l0_0 l0_1 a1 a2).bind fun t842 => (if t842 = true then ((spec_l5With.f k l0_0 l0_1 a1 a2).bind fun t843 => (some t843)) else (some false))
/-! ### laws_FnWithOk: function 11 -/
def laws_FnWithOk.f (k : Nat) (l0 : List Int) : Option (Bool) := if (l0.length : Int) > 1048576 then (some true) else ((spec_DrawWithOk.f k l0).bind fun bt844 => ((impl_WithOk.f bt844.1 bt844.2.1 bt844.2.2.1 bt844.2.2.2).bind fun t853 => ((spec_WithOk.f k bt844.1 bt844.2.1 bt844.2.2.1 bt844.2.2.2).bind fun t854 => (if (t853 != t854) = true then (some false) else ((spec_AndOf.f k bt844.1 bt844.2.1 bt844.2.2.1 bt844.2.2.2).bind fun t855 => (if t855 < 0 then (if t853 = true then (some false) else ((laws_alive.f k).bind fun t856 => (some t856))) else ((impl_WithOk.f bt844.1 bt844.2.1 bt844.2.2.1 bt844.2.2.1).bind fun t857 => (if t857 = true then ((impl_NotOf.f bt844.1 bt844.2.1 bt844.2.2.1).bind fun t858 => ((impl_WithOk.f bt844.1 bt844.2.1 bt844.2.2.1 t858).bind fun t859 => (if t859 = true then ((impl_NoOf.f bt844.1 bt844.2.1).bind fun t860 => ((impl_WithOk.f bt844.1 bt844.2.1 bt844.2.2.1 t860).bind fun t861 => (if t861 = true then ((impl_YesOf.f bt844.1 bt844.2.1).bind fun t862 => ((impl_WithOk.f bt844.1 bt844.2.1 bt844.2.2.1 t862).bind fun t863 => (if t863 = true then (if 0 ≤ bt844.2.2.1 then (if bt844.2.2.1 < (bt844.1.length : Int) then (if 0 ≤ bt844.2.2.2 then (if bt844.2.2.2 < ((rd_L1 bt844.1 bt844.2.2.1).length : Int) then (if (rd (rd_L1 bt844.1 bt844.2.2.1) bt844.2.2.2) = 0 then ((impl_NotOf.f bt844.1 bt844.2.1 bt844.2.2.2).bind fun t866 => ((impl_WithOk.f bt844.1 bt844.2.1 bt844.2.2.1 t866).bind fun t867 => (some (t867 == t853)))) else (if t853 = true then ((impl_NotOf.f bt844.1 bt844.2.1 bt844.2.2.2).bind fun t868 => ((impl_WithOk.f bt844.1 bt844.2.1 bt844.2.2.1 t868).bind fun t869 => (some (t869 == t853)))) else (some false))) else (none)) else (none)) else (none)) else (none)) else (some false)))) else (some false)))) else (some false)))) else (some false)))))))))
/-- THE ONE PURE STATEMENT of laws_FnWithOk: yours. -/
def laws_FnWithOk.Pure : Prop := ∀ (l0 : List Int), l0.length ≤ maxLen → l0.length * 1 ≤ 140737488351232 → (∀ x ∈ l0, (Lit.int .u8 x).wf = true) → ∃ k, laws_FnWithOk.f k l0 = some true
/-! ### spec_l20Three: function 74 -/
def spec_l20Three.f (k : Nat) (s0_0 : List Int) (s0_1 : Int) (a1 : Int) : Option ((List (List Int)) × List Int × Int × Int × Int × Int) := (spec_l20Two.f k s0_0 s0_1 a1).bind fun bt871 => ((spec_l20Rd_pick.f k s0_0 bt871.2.2.2.2 (mx (bt871.2.1.length : Int) 1)).bind fun bt881 => (some (bt871.1, bt871.2.1, bt871.2.2.1, bt871.2.2.2.1, bt881.1, bt881.2)))
/-! ### spec_DrawSplitOk: function 47 -/
def spec_DrawSplitOk.f (k : Nat) (l0 : List Int) : Option ((List (List Int)) × List Int × Int × Int × Int) := (spec_l20Open.f l0).bind fun bt884 => ((spec_l20Three.f k bt884.1 bt884.2 14).bind fun bt887 => (some (bt887.1, bt887.2.1, bt887.2.2.1, bt887.2.2.2.1, bt887.2.2.2.2.1)))
/-! ### impl_SplitOk: own -/
def impl_SplitOk.f (l0_0 : List (List Int)) (l0_1 : List Int) (a1 : Int) (a2 : Int) (a3 : Int) : Option (Bool) := some (splitF l0_0 l0_1 a1 a2 a3)
/-! ### spec_SplitOk: function 49 -/
def spec_SplitOk.j0 : Nat → Int → Int → Int → Bool → List (List Int) → List Int → Option (Bool)
  | 0, _, _, _, _, _, _ => none
  | k + 1, x1, x2, x3, x20, x908000, x908001 => if x20 = true then (some false) else ((spec_l1Join.f k x908000 x2 x3).bind fun t910 => ((spec_l1Meet.f k x908000 x1 t910).bind fun t911 => ((spec_l1Meet.f k x908000 x1 x2).bind fun t912 => ((spec_l1Meet.f k x908000 x1 x3).bind fun t913 => ((spec_l1Join.f k x908000 t912 t913).bind fun t914 => (some (t911 == t914)))))))
def spec_SplitOk.f (k : Nat) (l0_0 : List (List Int)) (l0_1 : List Int) (a1 : Int) (a2 : Int) (a3 : Int) : Option (Bool) := (spec_l2Both.f k l0_0 l0_1 a1 a2).bind fun t908 => (if t908 = true then ((spec_l2Both.f k l0_0 l0_1 a1 a3).bind fun t909 => (spec_SplitOk.j0 k a1 a2 a3 (!t909) l0_0 l0_1)) else (spec_SplitOk.j0 k a1 a2 a3 true l0_0 l0_1))
/-! ### spec_KeepsOk: function 50 -/
mutual
def spec_KeepsOk.l0 : Nat → Int → List (List Int) → List Int → Option (Bool)
  | 0, _, _, _ => none
  | k + 1, x3, x916000, x916001 => if x3 < (x916001.length : Int) then ((spec_LogicOk.f k x916000 x916001).bind fun t916 => (spec_KeepsOk.j1 k x3 t916 x916000 x916001)) else (spec_KeepsOk.j1 k x3 false x916000 x916001)
def spec_KeepsOk.j1 : Nat → Int → Bool → List (List Int) → List Int → Option (Bool)
  | 0, _, _, _, _ => none
  | k + 1, x3, x13, x916000, x916001 => if x13 = true then (spec_KeepsOk.l1 k x3 0 x916000 x916001) else ((spec_LogicOk.f k x916000 x916001).bind fun t917 => (some t917))
def spec_KeepsOk.l1 : Nat → Int → Int → List (List Int) → List Int → Option (Bool)
  | 0, _, _, _, _ => none
  | k + 1, x3, x4, x916000, x916001 => if x4 < (x916001.length : Int) then (if 0 ≤ x3 then (if x3 < (x916000.length : Int) then (if 0 ≤ x4 then (if x4 < ((rd_L1 x916000 x3).length : Int) then (if (rd (rd_L1 x916000 x3) x4) = 1 then (if x3 < (x916001.length : Int) then ((spec_l1Meet.f k x916000 x4 (rd x916001 x3)).bind fun t921 => ((spec_l1Join.f k x916000 x3 t921).bind fun t922 => (if t922 = x4 then (spec_KeepsOk.l1 k x3 (wrap64 (x4 + 1)) x916000 x916001) else (some false)))) else (none)) else (spec_KeepsOk.l1 k x3 (wrap64 (x4 + 1)) x916000 x916001)) else (none)) else (none)) else (none)) else (none)) else (spec_KeepsOk.l0 k (wrap64 (x3 + 1)) x916000 x916001)
end
def spec_KeepsOk.f (k : Nat) (l0_0 : List (List Int)) (l0_1 : List Int) : Option (Bool) := spec_KeepsOk.l0 k 0 l0_0 l0_1
/-! ### laws_FnSplitOk: function 12 -/
def laws_FnSplitOk.j0 : Nat → Int → Int → Int → Bool → Bool → List (List Int) → List Int → Option (Bool)
  | 0, _, _, _, _, _, _, _ => none
  | k + 1, x4, x5, x6, x7, x47, x933000, x933001 => if x47 = true then ((spec_LogicOk.f k x933000 x933001).bind fun t938 => (if t938 = true then ((laws_alive.f k).bind fun t939 => (some t939)) else (if x7 = true then (some false) else ((laws_alive.f k).bind fun t940 => (some t940))))) else ((impl_WithOk.f x933000 x933001 x4 x5).bind fun t941 => (if t941 = true then ((impl_WithOk.f x933000 x933001 x4 x6).bind fun t942 => (if t942 = true then (if x7 = true then ((impl_SplitOk.f x933000 x933001 x5 x4 x6).bind fun t943 => (if t943 = true then ((impl_SplitOk.f x933000 x933001 x6 x4 x5).bind fun t944 => (some t944)) else (some false))) else (some false)) else ((impl_WithOk.f x933000 x933001 x5 x4).bind fun t945 => (if t945 = true then ((impl_WithOk.f x933000 x933001 x5 x6).bind fun t946 => (if t946 = true then (if x7 = true then ((impl_SplitOk.f x933000 x933001 x5 x4 x6).bind fun t947 => (if t947 = true then ((impl_SplitOk.f x933000 x933001 x6 x4 x5).bind fun t948 => (some t948)) else (some false))) else (some false)) else ((impl_WithOk.f x933000 x933001 x6 x4).bind fun t949 => (if t949 = true then ((impl_WithOk.f x933000 x933001 x6 x5).bind fun t950 => (if t950 = true then (if x7 = true then ((impl_SplitOk.f x933000 x933001 x5 x4 x6).bind fun t951 => (if t951 = true then ((impl_SplitOk.f x933000 x933001 x6 x4 x5).bind fun t952 => (some t952)) else (some false))) else (some false)) else (some true))) else (some true))))) else ((impl_WithOk.f x933000 x933001 x6 x4).bind fun t953 => (if t953 = true then ((impl_WithOk.f x933000 x933001 x6 x5).bind fun t954 => (if t954 = true then (if x7 = true then ((impl_SplitOk.f x933000 x933001 x5 x4 x6).bind fun t955 => (if t955 = true then ((impl_SplitOk.f x933000 x933001 x6 x4 x5).bind fun t956 => (some t956)) else (some false))) else (some false)) else (some true))) else (some true))))))) else ((impl_WithOk.f x933000 x933001 x5 x4).bind fun t957 => (if t957 = true then ((impl_WithOk.f x933000 x933001 x5 x6).bind fun t958 => (if t958 = true then (if x7 = true then ((impl_SplitOk.f x933000 x933001 x5 x4 x6).bind fun t959 => (if t959 = true then ((impl_SplitOk.f x933000 x933001 x6 x4 x5).bind fun t960 => (some t960)) else (some false))) else (some false)) else ((impl_WithOk.f x933000 x933001 x6 x4).bind fun t961 => (if t961 = true then ((impl_WithOk.f x933000 x933001 x6 x5).bind fun t962 => (if t962 = true then (if x7 = true then ((impl_SplitOk.f x933000 x933001 x5 x4 x6).bind fun t963 => (if t963 = true then ((impl_SplitOk.f x933000 x933001 x6 x4 x5).bind fun t964 => (some t964)) else (some false))) else (some false)) else (some true))) else (some true))))) else ((impl_WithOk.f x933000 x933001 x6 x4).bind fun t965 => (if t965 = true then ((impl_WithOk.f x933000 x933001 x6 x5).bind fun t966 => (if t966 = true then (if x7 = true then ((impl_SplitOk.f x933000 x933001 x5 x4 x6).bind fun t967 => (if t967 = true then ((impl_SplitOk.f x933000 x933001 x6 x4 x5).bind fun t968 => (some t968)) else (some false))) else (some false)) else (some true))) else (some true)))))))
def laws_FnSplitOk.f (k : Nat) (l0 : List Int) : Option (Bool) := if (l0.length : Int) > 1048576 then (some true) else ((spec_DrawSplitOk.f k l0).bind fun bt923 => ((impl_SplitOk.f bt923.1 bt923.2.1 bt923.2.2.1 bt923.2.2.2.1 bt923.2.2.2.2).bind fun t933 => ((spec_SplitOk.f k bt923.1 bt923.2.1 bt923.2.2.1 bt923.2.2.2.1 bt923.2.2.2.2).bind fun t934 => (if (t933 != t934) = true then (some false) else ((spec_KeepsOk.f k bt923.1 bt923.2.1).bind fun t935 => (if t935 = true then ((spec_AndOf.f k bt923.1 bt923.2.1 bt923.2.2.1 bt923.2.2.2.1).bind fun t936 => (if t936 < 0 then (laws_FnSplitOk.j0 k bt923.2.2.1 bt923.2.2.2.1 bt923.2.2.2.2 t933 true bt923.1 bt923.2.1) else ((spec_AndOf.f k bt923.1 bt923.2.1 bt923.2.2.1 bt923.2.2.2.2).bind fun t937 => (laws_FnSplitOk.j0 k bt923.2.2.1 bt923.2.2.2.1 bt923.2.2.2.2 t933 (decide (t937 < 0)) bt923.1 bt923.2.1)))) else (laws_FnSplitOk.j0 k bt923.2.2.1 bt923.2.2.2.1 bt923.2.2.2.2 t933 true bt923.1 bt923.2.1)))))))
/-- THE ONE PURE STATEMENT of laws_FnSplitOk: yours. -/
def laws_FnSplitOk.Pure : Prop := ∀ (l0 : List Int), l0.length ≤ maxLen → l0.length * 1 ≤ 140737488351232 → (∀ x ∈ l0, (Lit.int .u8 x).wf = true) → ∃ k, laws_FnSplitOk.f k l0 = some true
/-! ### spec_DrawApartFrom: function 51 -/
def spec_DrawApartFrom.f (k : Nat) (l0 : List Int) : Option ((List (List Int)) × List Int × Int × Int) := (spec_l20Open.f l0).bind fun bt970 => ((spec_l20Two.f k bt970.1 bt970.2 14).bind fun bt973 => (some (bt973.1, bt973.2.1, bt973.2.2.1, bt973.2.2.2.1)))
/-! ### impl_ApartFrom: own -/
def impl_ApartFrom.f (l0_0 : List (List Int)) (l0_1 : List Int) (a1 : Int) (a2 : Int) : Option (Int) := some (fromF l0_0 l0_1 a1 a2)
/-! ### spec_ApartFrom: function 53 -/
def spec_ApartFrom.f (k : Nat) (l0_0 : List (List Int)) (l0_1 : List Int) (a1 : Int) (a2 : Int) : Option (Int) := (spec_l2Both.f k l0_0 l0_1 a1 a2).bind fun t983 => (if t983 = true then ((spec_l1Meet.f k l0_0 a1 a2).bind fun t984 => (if 0 ≤ a2 then (if a2 < (l0_1.length : Int) then ((spec_l1Meet.f k l0_0 a1 (rd l0_1 a2)).bind fun t986 => ((spec_l1Join.f k l0_0 t984 t986).bind fun t987 => (if 0 ≤ a1 then (if a1 < (l0_1.length : Int) then ((spec_l1Meet.f k l0_0 (rd l0_1 a1) a2).bind fun t989 => ((spec_l1Meet.f k l0_0 (rd l0_1 a1) (rd l0_1 a2)).bind fun t992 => ((spec_l1Join.f k l0_0 t989 t992).bind fun t993 => ((spec_l1Join.f k l0_0 t987 t993).bind fun t994 => (some t994))))) else (none)) else (none)))) else (none)) else (none))) else (some (-1)))
/-! ### laws_FnApartFrom: function 13 -/
def laws_FnApartFrom.f (k : Nat) (l0 : List Int) : Option (Bool) := if (l0.length : Int) > 1048576 then (some true) else ((spec_DrawApartFrom.f k l0).bind fun bt995 => ((impl_ApartFrom.f bt995.1 bt995.2.1 bt995.2.2.1 bt995.2.2.2).bind fun t1004 => ((spec_ApartFrom.f k bt995.1 bt995.2.1 bt995.2.2.1 bt995.2.2.2).bind fun t1005 => (if t1004 = t1005 then (if t1004 < 0 then (if t1004 = (-1) then ((laws_alive.f k).bind fun t1006 => (some t1006)) else (some false)) else ((impl_KeepsOk.f bt995.1 bt995.2.1).bind fun t1007 => (if t1007 = true then ((impl_YesOf.f bt995.1 bt995.2.1).bind fun t1008 => ((impl_WithOk.f bt995.1 bt995.2.1 bt995.2.2.1 bt995.2.2.2).bind fun t1009 => (if ((t1004 == t1008) == t1009) = true then ((impl_ApartFrom.f bt995.1 bt995.2.1 bt995.2.2.2 bt995.2.2.1).bind fun t1010 => (if t1010 = t1004 then ((impl_NotOf.f bt995.1 bt995.2.1 bt995.2.2.1).bind fun t1011 => ((impl_ApartFrom.f bt995.1 bt995.2.1 t1011 bt995.2.2.2).bind fun t1012 => (some (t1012 == t1004)))) else (some false))) else (some false)))) else ((impl_ApartFrom.f bt995.1 bt995.2.1 bt995.2.2.2 bt995.2.2.1).bind fun t1013 => (if t1013 = t1004 then ((impl_NotOf.f bt995.1 bt995.2.1 bt995.2.2.1).bind fun t1014 => ((impl_ApartFrom.f bt995.1 bt995.2.1 t1014 bt995.2.2.2).bind fun t1015 => (some (t1015 == t1004)))) else (some false)))))) else (some false)))))
/-- THE ONE PURE STATEMENT of laws_FnApartFrom: yours. -/
def laws_FnApartFrom.Pure : Prop := ∀ (l0 : List Int), l0.length ≤ maxLen → l0.length * 1 ≤ 140737488351232 → (∀ x ∈ l0, (Lit.int .u8 x).wf = true) → ∃ k, laws_FnApartFrom.f k l0 = some true
end Go.Proofs.Ytjgfpiilfnchnaa.P

-- written by gen.py (a program of this session) out of the kit's print of this seat's translation
namespace Go.Proofs.Ytjgfpiilfnchnaa.P
open Go.RowKit Go.Proofs.YtjgfpiilfnchnaaW.PrintWords Go.Proofs.YtjgfpiilfnchnaaW.PrintLast Go.Proofs.YtjgfpiilfnchnaaW.PrintMore
attribute [local go_sem] max2_int min2_int max_two min_two max_three min_three max_four min_four
set_option linter.unusedVariables false
set_option linter.unusedSimpArgs false
theorem info3 : (Try.prog.info? 3).map (fun i => (i.zero, i.size, i.bytes)) = some (some (.int .i64 0), 1, 8) := by kernel_rfl
theorem info5 : (Try.prog.info? 5).map (fun i => (i.zero, i.size, i.bytes)) = some (some (.int .u8 0), 1, 1) := by kernel_rfl
theorem info24 : (Try.prog.info? 24).map (fun i => (i.zero, i.size, i.bytes)) = some (some (.slice none 0 0), 1, 24) := by kernel_rfl
end Go.Proofs.Ytjgfpiilfnchnaa.P

namespace Go.Proofs.Ytjgfpiilfnchnaa.P
open Go.RowKit Go.Proofs.YtjgfpiilfnchnaaW.PrintWords Go.Proofs.YtjgfpiilfnchnaaW.PrintLast Go.Proofs.YtjgfpiilfnchnaaW.PrintMore
set_option linter.unusedVariables false
def bA (n m : Nat) : Array Bool := ((List.range n).map fun i => m.testBit i).toArray
section
variable {P : Program} {md : Region.Mode} {ops : Array Oper} {Q : Exit → Act → World → Prop} {S : World → Prop} {ds : List Nat} {i : Nat} {N : Option Tmp} {oi : Oper} {v : Value} {fuel : Nat} {l : Array Bool} {a a' : Act} {w : World}
theorem pu_ (l' : Array Bool) (h : wpAnyLast P md ops Q S ds fuel l' a' w) (hi : ops[i]? = some oi := by rfl) (hN : oi.dst = N := by rfl) (hc : anyB md ops l l' i = true := by first | exact any_of HT_.out (by kernel_rfl) | kernel_rfl)
    (hQ : ∀ c a w, Q (.panic c) (a.put oi.dst v) w → Q (.panic c) a w := by exact fun _ _ _ h => h)
    (hy : Yields P ops oi v a := by (refine Or.inl ⟨by rfl, ?_⟩; intro w'; go_simp; with_reducible rfl))
    (ha : a.put N v = a' := by (simp only [Act.put, List.setIfInBounds_toArray, List.set_cons_zero, List.set_cons_succ, i64_w, i32_w]; rfl))
     : wpAnyLast P md ops Q S ds (fuel + 1) l a w := pure_ l' hi hN hc hQ hy ha h
theorem of_ (l' : Array Bool) (h : wpAnyLast P md ops Q S ds fuel l' a' w) (hi : ops[i]? = some oi := by rfl) (hN : oi.dst = N := by rfl) (hc : anyB md ops l l' i = true := by first | exact any_of HT_.out (by kernel_rfl) | kernel_rfl)
    (hQ : ∀ c a w, Q (.panic c) (a.put oi.dst undef) w → Q (.panic c) a w := by exact fun _ _ _ h => h)
    (hy : Yields P ops oi undef a := by exact Or.inr ⟨by rfl, rfl⟩)
    (ha : a.put N undef = a' := by (simp only [Act.put, List.setIfInBounds_toArray, List.set_cons_zero, List.set_cons_succ, i64_w, i32_w]; rfl))
     : wpAnyLast P md ops Q S ds (fuel + 1) l a w := pure_ l' hi hN hc hQ hy ha h
theorem tk_ (l' : Array Bool) (h : wpAnyLast P md ops Q S ds fuel l' a' w) (hi : ops[i]? = some oi := by rfl) (hN : oi.dst = N := by rfl) (hc : takeB md ops ds l l' i = true := by first | exact take_ofW HT_.out HW_.out (by kernel_rfl) | kernel_rfl)
    (hQ : ∀ c a w, Q (.panic c) (a.put oi.dst v) w → Q (.panic c) a w := by exact fun _ _ _ h => h)
    (hy : YieldsIf P ops S oi v a := by (refine Or.inl ⟨by rfl, ?_⟩; intro w' hs_; (repeat (obtain ⟨_, hs_⟩ := hs_)); go_simp; with_reducible rfl)) (hS : S w := by exact hHeld)
    (ha : a.put N v = a' := by (simp only [Act.put, List.setIfInBounds_toArray, List.set_cons_zero, List.set_cons_succ, i64_w, i32_w]; rfl))
     : wpAnyLast P md ops Q S ds (fuel + 1) l a w := take_ l' hi hN hc hQ hy hS ha h
theorem no_ (h : wpAnyLast P md ops Q S ds fuel l a' w) (h0 : a.put N v = a' := by (simp only [Act.put, List.setIfInBounds_toArray, List.set_cons_zero, List.set_cons_succ, i64_w, i32_w]; rfl))  : wpAnyLast P md ops Q S ds fuel l (a.put N v) w := norm_ h0 h
end
section
variable {P : Program} {ops : Array Oper} {rest : List Oper} {o : Oper} {a : Act} {Q : Exit → Act → World → Prop}
theorem bx_ {W : World} {N : Tmp} {cs : Array Value} {t : TypeId} (h : ∀ g, g = W.heap.size → ∀ w1, w1.heap[g]? = some (.cells cs t (0, 0)) → Below W.heap.size W w1 → wpList P ops Q rest (a.put o.dst (.pointer (some ⟨g, 0, none⟩))) w1) (hd : o.dst = some N := by rfl) (hgd : o.guard = none := by rfl)
    (hrun : (execOp a.eval o).run P W = .ok (.value (.pointer (some ⟨W.heap.size, 0, none⟩))) (W.alloc (.cells cs t (0, 0))) := by first | (go_simp; done) | (go_simp; rfl))
     : wpList P ops Q (o :: rest) a W := box_event hgd hd hrun h
theorem gl_ {w : World} (N : Option Tmp) {f : FuncId} {fn : Func} (hf : P.funcs[f]? = some fn) {as_ : Array Operand} {ts : Array TypeId} (args : Array Value) (h : Calls P f args w fun e w' => ∃ v, e = .returned v ∧ wpList P ops Q rest (a.put N v) w') (hd : o.dst = N := by rfl) (hg : o.guard = none := by rfl) (hname : (fn.name == "runtime.NumGoroutine") = false := by kernel_rfl) (hb : fn.body.isSome = true := by rfl)
    (hop : o.op = .call { callee := .value (.func f), args := as_, argTypes := ts } := by rfl) (hargs : as_.map a.eval = args := by (try simp only [List.map_toArray, List.map_cons, List.map_nil]); first | done | rfl | (simp only [List.length_drop, List.length_take]; rfl))
     : wpList P ops Q (o :: rest) a w := goesL_ N hd hg hf hname hb args hop hargs h
theorem ge_ {w : World} {N : Option Tmp} {K : Act → World → Prop} {f : FuncId} {fn : Func} {as_ : Array Operand} {ts : Array TypeId} (hf : P.funcs[f]? = some fn) (args : Array Value) (h : Calls P f args w fun e w' => ∃ v, e = .returned v ∧ K (a.put N v) w') (hname : (fn.name == "runtime.NumGoroutine") = false := by kernel_rfl) (hb : fn.body.isSome = true := by rfl)
    (hw : Region.wanted o (yielded ops a.tmps) = true := by rfl) (hN : o.dst = N := by rfl) (hop : o.op = .call { callee := .value (.func f), args := as_, argTypes := ts } := by rfl) (hargs : as_.map a.eval = args := by (try simp only [List.map_toArray, List.map_cons, List.map_nil]); first | done | rfl | (simp only [List.length_drop, List.length_take]; rfl))
     : if Region.wanted o (yielded ops a.tmps) = true then Oper.wp P o a w K Q else K (a.put N undef) w := goes_ hf hname hb args hw hN hop hargs h
end
theorem cz20 {w : World} {g : Nat} {t : TypeId} {x y : Value} (h : w.heap[g]? = some (.cells #[x, y] t (0, 0))) : w.cell? ⟨g, 0, none⟩ = some x := (blk_cell h 0).trans rfl
theorem cz21 {w : World} {g : Nat} {t : TypeId} {x y : Value} (h : w.heap[g]? = some (.cells #[x, y] t (0, 0))) : w.cell? ⟨g, 1, none⟩ = some y := (blk_cell h 1).trans rfl
theorem y1 {p q : Prop} (h0 : p) (h : p → q := by intro y0_; (repeat (first | exact (Kd.S_reads' y0_).2.2 | exact (Kd.Q_reads' y0_).2.2 | exact (Kd.R_reads' y0_).2.2 | exact (Kd.N_reads' y0_).2.2 | (with_reducible refine Kd.C_alloc ?_ _) | (with_reducible refine Kd.C_drewN ?_ _) | (with_reducible refine Kd.C_drew ?_)))) : q := h h0
theorem y2 {p q : Prop} (h0 : p) (h : p → q := by intro y0_; first | exact (Kd.S_reads' y0_).2.1 | exact (Kd.Q_reads' y0_).2.1 | exact (Kd.R_reads' y0_).2.1 | exact (Kd.N_reads' y0_).2.1) : q := h h0
theorem y3 {p r q : Prop} (h0 : p) (h1 : r) (h : p → r → q := by intro y0_ y1_; (repeat (first | exact (Kd.C_below y0_ y1_) | (with_reducible refine Kd.C_alloc ?_ _) | (with_reducible refine Kd.C_drewN ?_ _) | (with_reducible refine Kd.C_drew ?_)))) : q := h h0 h1
theorem y4 {p q : Prop} (h0 : p) (h : p → q := by intro y0_; (repeat (first | exact y0_ | (with_reducible refine Kd.C_alloc ?_ _) | (with_reducible refine Kd.C_drewN ?_ _) | (with_reducible refine Kd.C_drew ?_)))) : q := h h0
theorem bd_ {α β : Type} {o : Option α} {f : α → Option β} {r : β} (h : o.bind f = some r) : ∃ a, Aside0 (o = some a) ∧ f a = some r :=
  match Option.bind_eq_some_iff.mp h with | ⟨a, h1, h2⟩ => ⟨a, ⟨h1⟩, h2⟩
theorem nf_ : ¬ (false = true) := by decide
section
variable {α : Type} [BEq α] [LawfulBEq α] {a b : α}
theorem bt_ (h : a = b) : (a == b) = true := beq_iff_eq.mpr h
theorem bu_ (h : a = b) : (a != b) = false := bne_eq_false_iff_eq.mpr h
theorem bv_ (h : ¬ a = b) : (a == b) = false := beq_eq_false_iff_ne.mpr h
theorem bw_ (h : ¬ a = b) : (a != b) = true := bne_iff_ne.mpr h
end
theorem dT_ {p : Prop} [Decidable p] (h : p) : decide p = true := decide_eq_true h
theorem dF_ {p : Prop} [Decidable p] (h : ¬ p) : decide p = false := decide_eq_false h
section
variable {α : Type} {p q : Prop}
theorem ok_ [Decidable p] {x : Option α} {r : α} (h : (if p then x else none) = some r) : p ∧ x = some r := by
  by_cases k : p
  · rw [if_pos k] at h
    exact ⟨k, h⟩
  · rw [if_neg k] at h
    exact absurd h (by simp)
theorem od_ [Decidable p] {x : Option α} {r : α} (h : (if p then x else none) = some r) : decide p = true ∧ x = some r := ⟨decide_eq_true (ok_ h).1, (ok_ h).2⟩
theorem oe_ [Decidable p] (h : decide p = true) : p := of_decide_eq_true h
theorem oa_ [Decidable p] (h : decide p = true := by first | (with_reducible assumption) | assumption) : p := of_decide_eq_true h
theorem xS (h0 : p) (h : p → q := by intro y0_; (with_reducible repeat (first | apply Kd.S_alloc | apply Kd.S_drewN | apply Kd.S_drew)); exact y0_) : q := h h0
theorem xR (h0 : p) (h : p → q := by intro y0_; (with_reducible repeat (first | apply Kd.R_alloc | apply Kd.R_drewN | apply Kd.R_drew)); exact y0_) : q := h h0
theorem xQ (h0 : p) (h : p → q := by intro y0_; (with_reducible repeat (first | apply Kd.Q_alloc | apply Kd.Q_drewN | apply Kd.Q_drew)); exact y0_) : q := h h0
theorem xN (h0 : p) (h : p → q := by intro y0_; (with_reducible repeat (first | apply Kd.N_alloc | apply Kd.N_drewN | apply Kd.N_drew)); exact y0_) : q := h h0
theorem xb (h0 : p) (h : p → q := by intro y0_; (with_reducible repeat (first | refine blk_drewN ?_ _ | refine blk_drew ?_ | refine blk_alloc ?_ _)); exact y0_) : q := h h0
end
theorem al_ {w : World} {A : Option Addr} {n : Nat} {xs : List (List Int)} (h : Kd.C (Kd.slice 3 (Kd.int .i64)) w A n xs) (i : Int) (h0 : decide (0 ≤ i) = true := by first | (with_reducible assumption) | assumption) (h1 : decide (i < (n : Int)) = true := by first | (with_reducible assumption) | assumption) :
    ∃ ad A0 c0, A = some ad ∧ w.cell? (ad.add i.toNat) = some (.slice A0 (rd_L1 xs i).length c0) ∧ Aside0 ((rd_L1 xs i).length ≤ c0) ∧ Aside0 ((Kd.int .i64).C w A0 (rd_L1 xs i).length (rd_L1 xs i)) ∧ ((0 ≤ i) = True) ∧ ((i < (n : Int)) = True) := by
  obtain ⟨ad, A0, c0, h2, h3, h4, h5⟩ := at_L1 h i (of_decide_eq_true h0) (of_decide_eq_true h1)
  exact ⟨ad, A0, c0, h2, h3, ⟨h4⟩, ⟨h5⟩, eq_true (of_decide_eq_true h0), eq_true (of_decide_eq_true h1)⟩
theorem ai_ {w : World} {A : Option Addr} {n : Nat} {k : IntKind} {xs : List Int} (h : (Kd.int k).C w A n xs) (i : Int) (h0 : decide (0 ≤ i) = true := by first | (with_reducible assumption) | assumption) (h1 : decide (i < (n : Int)) = true := by first | (with_reducible assumption) | assumption) :
    ∃ ad, A = some ad ∧ w.cell? (ad.add i.toNat) = some (.int k (rd xs i)) ∧ ((0 ≤ i) = True) ∧ ((i < (n : Int)) = True) := by
  obtain ⟨ad, h2, h3⟩ := Kd.at_int h i (of_decide_eq_true h0) (of_decide_eq_true h1)
  exact ⟨ad, h2, h3, eq_true (of_decide_eq_true h0), eq_true (of_decide_eq_true h1)⟩
theorem ak {p : Prop} (h : p) : Aside0 p := ⟨h⟩
theorem ij_ {α : Type} {a b : α} (h : some a = some b) : a = b := Option.some.inj h
theorem is_ {o : Option Value} {A B : Option Addr} {n m c d : Nat} (h : o = some (.slice A n c)) (k : o = some (.slice B m d)) : A = B ∧ c = d := by
  have e := Option.some.inj (h.symm.trans k)
  injection e with e1 e2 e3
  exact ⟨e1, e3⟩
section
variable {α : Type} {p p2 p3 p4 p5 p6 : Prop} [Decidable p] [Decidable p2] [Decidable p3] [Decidable p4] [Decidable p5] [Decidable p6] {x y : Option α} {r : α}
theorem od2 (h : (if p then if p2 then x else none else none) = some r) : decide p = true ∧ decide p2 = true ∧ x = some r := ⟨(od_ h).1, od_ (od_ h).2⟩
theorem od3 (h : (if p then if p2 then if p3 then x else none else none else none) = some r) : decide p = true ∧ decide p2 = true ∧ decide p3 = true ∧ x = some r := ⟨(od_ h).1, od2 (od_ h).2⟩
theorem od4 (h : (if p then if p2 then if p3 then if p4 then x else none else none else none else none) = some r) : decide p = true ∧ decide p2 = true ∧ decide p3 = true ∧ decide p4 = true ∧ x = some r := ⟨(od_ h).1, od3 (od_ h).2⟩
theorem od5 (h : (if p then if p2 then if p3 then if p4 then if p5 then x else none else none else none else none else none) = some r) : decide p = true ∧ decide p2 = true ∧ decide p3 = true ∧ decide p4 = true ∧ decide p5 = true ∧ x = some r := ⟨(od_ h).1, od4 (od_ h).2⟩
theorem od6 (h : (if p then if p2 then if p3 then if p4 then if p5 then if p6 then x else none else none else none else none else none else none) = some r) : decide p = true ∧ decide p2 = true ∧ decide p3 = true ∧ decide p4 = true ∧ decide p5 = true ∧ decide p6 = true ∧ x = some r := ⟨(od_ h).1, od5 (od_ h).2⟩
theorem os_ (h : (if p then x else y) = some r) : decide p = true ∧ x = some r ∨ decide p = false ∧ y = some r := by
  by_cases k : p
  · rw [if_pos k] at h
    exact .inl ⟨decide_eq_true k, h⟩
  · rw [if_neg k] at h
    exact .inr ⟨decide_eq_false k, h⟩
theorem oe2 {β : Type} [BEq β] [LawfulBEq β] {a b : β} [Decidable (a = b)] (h : (if a = b then x else y) = some r) : (a = b ∧ (a == b) = true ∧ (a != b) = false) ∧ x = some r ∨ ((¬ a = b) ∧ (a == b) = false ∧ (a != b) = true) ∧ y = some r := by
  by_cases k : a = b
  · rw [if_pos k] at h
    exact .inl ⟨⟨k, bt_ k, bu_ k⟩, h⟩
  · rw [if_neg k] at h
    exact .inr ⟨⟨k, bv_ k, bw_ k⟩, h⟩
end
section
variable {α : Type} {p : Prop} {x y : Option α} {r : α}
theorem op_ [Decidable p] (h : (if p then x else y) = some r) : p ∧ x = some r ∨ ¬ p ∧ y = some r := by
  by_cases k : p
  · rw [if_pos k] at h
    exact .inl ⟨k, h⟩
  · rw [if_neg k] at h
    exact .inr ⟨k, h⟩
theorem ox_ {b : Bool} (h : (if b = true then x else y) = some r) : b = true ∧ x = some r ∨ b = false ∧ y = some r := by
  cases b with
  | true => exact .inl ⟨rfl, by rw [if_pos rfl] at h; exact h⟩
  | false => exact .inr ⟨rfl, by rw [if_neg nf_] at h; exact h⟩
end
end Go.Proofs.Ytjgfpiilfnchnaa.P


-- written by gen.py (a program of this session) out of the kit's print of this seat's translation
namespace Go.Proofs.Ytjgfpiilfnchnaa.P
open Go.RowKit Go.Proofs.YtjgfpiilfnchnaaW.PrintWords Go.Proofs.YtjgfpiilfnchnaaW.PrintLast Go.Proofs.YtjgfpiilfnchnaaW.PrintMore
attribute [local go_sem] max2_int min2_int max_two min_two max_three min_three max_four min_four
set_option linter.unusedVariables false
set_option linter.unusedSimpArgs false
theorem z7_3 {p : Prop} (h : p := by have := a9.out; have := HK2.out; have := d7.out; have := HK4.out; have := d3.out; omega) : p := h
theorem z7_2 {p : Prop} (h : p := by have := a9.out; have := HK2.out; have := HK3.out; have := HK4.out; have := HK5.out; omega) : p := h
theorem z7_1 {p : Prop} (h : p := by first | rfl | (simp; done) | (simp [*]; done)) : p := h
theorem z7_0 {p : Prop} (h : p := by repeat (first | exact Drawn0.refl _ | apply Drawn0.step)) : p := h
set_option maxHeartbeats 8000000 in
set_option maxRecDepth 100000 in
theorem impl_OrderOk.calls (k : Nat) (A0 : Option Addr) (c0 : Nat) (l0 : List (List Int)) (r : Bool) (w : World) (hr0 : Kd.C (Kd.slice 3 (Kd.int .i64)) w A0 l0.length l0) (hc0 : l0.length ≤ c0) (h : impl_OrderOk.f k l0 = some r) :
 Calls Try.prog 43 #[.slice A0 l0.length c0] w fun e w' => e = .returned (.bool r) ∧ Drawn0 w w' := by
 have HR0 := ak hr0
 have m8 := ak hc0
 clear hr0 hc0
 have H : (if (l0.length : Int) < 1 then (impl_OrderOk.j0 k l0 (l0.length : Int) true) else (impl_OrderOk.j0 k l0 (l0.length : Int) (decide ((l0.length : Int) > 12)))) = some r := h
 clear h
 have h4 := ak H
 clear H
 go_enter Try.func43, Try.ntmps43
 go_upto_region 2 with (fail)
 go_cut [18] (fun k8 wc => ∃ (kq : Nat) (b6 : Bool), k8 = .bool b6 ∧ Aside0 (impl_OrderOk.j0 kq l0 (l0.length : Int) b6 = some r) ∧ Aside0 (kq ≤ k) ∧ Drawn0 w wc)
 case first =>
  have H := h4.out
  clear h4
  replace H := op_ H
  rcases H with ⟨c3, H⟩ | ⟨c3, H⟩
  ·
   have b7 : decide ((l0.length : Int) < 1) = true := dT_ c3
   have h5 : decide (l0.length < 1) = true := dT_ (by omega)
   clear c3
   (first | rw [b7] | (simp only [i64_w, i32_w]; rw [b7]) | skip)
   have H' := ak H
   clear H
   go_wp2
   go_meet
   case rel => exact ⟨_, (true), z7_1, H', ⟨(by first | omega | exact Nat.le_refl _)⟩, z7_0⟩
  have b7 : decide ((l0.length : Int) < 1) = false := dF_ c3
  have h5 : decide (l0.length < 1) = false := dF_ (by omega)
  clear c3
  (first | rw [b7] | (simp only [i64_w, i32_w]; rw [b7]) | skip)
  have H' := ak H
  clear H
  go_wp2
  go_meet
  case rel => exact ⟨_, (decide ((l0.length : Int) > 12)), z7_1, H', ⟨(by first | omega | exact Nat.le_refl _)⟩, z7_0⟩
 case rest =>
  clear h4
  obtain ⟨kq, b6, rfl, HA, a9, ⟨mc1, rfl⟩⟩ := hcut
  cases kq with
  | zero => exact absurd HA.out (by simp [impl_OrderOk.j0])
  | succ i6 =>
   have H := HA.out
   clear HA
   simp only [impl_OrderOk.j0] at H
   replace H := ox_ H
   rcases H with ⟨rfl, H⟩ | ⟨rfl, H⟩
   ·
    obtain rfl := Option.some.inj H
    go_wp2
    go_ret
    exact ⟨z7_1, z7_0⟩
   have H' := ak H
   clear H
   go_wp2
   go_loopg [21] i6 (fun kq k9 w' => ∃ (a0 : Int), k9 = .int .i64 a0 ∧ Aside0 (impl_OrderOk.l0 kq l0 (l0.length : Int) l0 (l0.length : Int) a0 = some r) ∧ Aside0 (kq ≤ i6) ∧ Drawn0 w w')
   case atStart => exact ⟨(0), z7_1, H', ⟨Nat.le_refl _⟩, z7_0⟩
   case round =>
    clear H'
    try clear c4
    obtain ⟨a0, rfl, HA, HK2, ⟨m2, rfl⟩⟩ := hrel
    cases gk with
    | zero => exact absurd HA.out (by simp [impl_OrderOk.l0])
    | succ k2 =>
     have H := HA.out
     clear HA
     simp only [impl_OrderOk.l0] at H
     replace H := os_ H
     rcases H with ⟨b1, H⟩ | ⟨b1, H⟩
     ·
      replace H := od2 H
      obtain ⟨e0, e1, H⟩ := H
      have h6 := ak H
      clear H
      obtain ⟨ad397, h7, h8, e397, hx397_0, h3, HR397_0, e2, q397⟩ := al_ HR0.out a0
      cases e397
      go_upto_region 7 with (fail)
      go_cut [36] (fun l5 wc => ∃ (kq : Nat) (b8 : Bool), l5 = .bool b8 ∧ Aside0 (impl_OrderOk.j2 kq l0 (l0.length : Int) a0 (rd_L1 l0 a0) l0 (l0.length : Int) a0 b8 = some r) ∧ Aside0 (kq ≤ k2) ∧ Drawn0 w wc)
      case first =>
       have H := h6.out
       clear h6
       replace H := oe2 H
       rcases H with ⟨⟨c9, b9, h9⟩, H⟩ | ⟨⟨c9, b9, h9⟩, H⟩
       ·
        have i0 : ((rd_L1 l0 a0).length == l0.length) = true := by first | simpa using c9 | (simp at c9 ⊢; omega)
        clear c9
        (first | rw [b9] | (simp only [i64_w, i32_w]; rw [b9]) | skip)
        replace H := od_ H
        obtain ⟨i7, H⟩ := H
        have H' := ak H
        clear H
        obtain ⟨ad398, e398, hx398_0, l6, q398⟩ := ai_ HR397_0.out a0
        cases e398
        go_wp2
        go_meet
        case rel => exact ⟨_, (((rd (rd_L1 l0 a0) a0) != 1)), z7_1, H', ⟨(by have := a9.out; have := HK2.out; first | omega | exact Nat.le_refl _)⟩, z7_0⟩
       have i0 : ((rd_L1 l0 a0).length == l0.length) = false := by first | simpa using c9 | (simp at c9 ⊢; omega)
       (first | rw [b9] | (simp only [i64_w, i32_w]; rw [b9]) | skip)
       have H' := ak H
       clear H
       go_wp2
       go_meet
       case rel => exact ⟨_, (true), z7_1, H', ⟨(by have := a9.out; have := HK2.out; first | omega | exact Nat.le_refl _)⟩, z7_0⟩
      case rest =>
       clear h6
       try clear c4
       try clear c5
       try clear b1
       try clear c6
       try clear e0
       try clear c7
       try clear e1
       try clear hx397_0
       try clear e2
       try clear q397
       obtain ⟨kq, b8, rfl, HA, d7, ⟨mc7, rfl⟩⟩ := hcut
       cases kq with
       | zero => exact absurd HA.out (by simp [impl_OrderOk.j2])
       | succ i8 =>
        have H := HA.out
        clear HA
        simp only [impl_OrderOk.j2] at H
        replace H := ox_ H
        rcases H with ⟨rfl, H⟩ | ⟨rfl, H⟩
        ·
         obtain rfl := Option.some.inj H
         go_wp2
         go_ret
         exact ⟨z7_1, z7_0⟩
        have H' := ak H
        clear H
        go_wp2
        go_loopg [39] i8 (fun kq l7 w' => ∃ (a1 : Int), l7 = .int .i64 a1 ∧ Aside0 (impl_OrderOk.l1 kq l0 (l0.length : Int) a0 l0 (l0.length : Int) a0 (rd_L1 l0 a0) ((rd_L1 l0 a0).length : Int) a1 = some r) ∧ Aside0 (kq ≤ i8) ∧ Drawn0 w w')
        case atStart => exact ⟨(0), z7_1, H', ⟨Nat.le_refl _⟩, z7_0⟩
        case round =>
         clear H'
         try clear c4
         try clear c5
         try clear b1
         try clear c6
         try clear e0
         try clear c7
         try clear e1
         try clear l8
         try clear hx397_0
         try clear e2
         try clear q397
         obtain ⟨a1, rfl, HA, HK4, ⟨m4, rfl⟩⟩ := hrel
         cases gk with
         | zero => exact absurd HA.out (by simp [impl_OrderOk.l1])
         | succ k4 =>
          have H := HA.out
          clear HA
          simp only [impl_OrderOk.l1] at H
          replace H := os_ H
          rcases H with ⟨d8, H⟩ | ⟨d8, H⟩
          ·
           replace H := od2 H
           obtain ⟨f2, f3, H⟩ := H
           have e3 := ak H
           clear H
           obtain ⟨ad399, e399, hx399_0, i1, q399⟩ := ai_ HR397_0.out a1
           cases e399
           go_upto_region 12 with (fail)
           go_cut [49] (fun l9 wc => ∃ (kq : Nat) (b2 : Bool), l9 = .bool b2 ∧ Aside0 (impl_OrderOk.j4 kq l0 (l0.length : Int) a0 a1 (rd (rd_L1 l0 a0) a1) l0 (l0.length : Int) a0 (rd_L1 l0 a0) ((rd_L1 l0 a0).length : Int) a1 b2 = some r) ∧ Aside0 (kq ≤ k4) ∧ Drawn0 w wc)
           case first =>
            have H := e3.out
            clear e3
            replace H := oe2 H
            rcases H with ⟨⟨-, b0, f4⟩, H⟩ | ⟨⟨m9, b0, f4⟩, H⟩
            ·
             (first | rw [b0] | (simp only [i64_w, i32_w]; rw [b0]) | skip)
             have H' := ak H
             clear H
             go_wp2
             go_meet
             case rel => exact ⟨_, (false), z7_1, H', ⟨(by have := a9.out; have := HK2.out; have := d7.out; have := HK4.out; first | omega | exact Nat.le_refl _)⟩, z7_0⟩
            (first | rw [b0] | (simp only [i64_w, i32_w]; rw [b0]) | skip)
            have H' := ak H
            clear H
            go_wp2
            go_meet
            case rel => exact ⟨_, (((rd (rd_L1 l0 a0) a1) != 1)), z7_1, H', ⟨(by have := a9.out; have := HK2.out; have := d7.out; have := HK4.out; first | omega | exact Nat.le_refl _)⟩, z7_0⟩
           case rest =>
            clear e3
            try clear c4
            try clear c5
            try clear b1
            try clear c6
            try clear e0
            try clear c7
            try clear e1
            try clear l8
            try clear n0
            try clear d8
            try clear n1
            try clear f2
            try clear n2
            try clear f3
            try clear hx397_0
            try clear hx399_0
            try clear e2
            try clear i1
            try clear q397
            try clear q399
            obtain ⟨kq, b2, rfl, HA, d3, ⟨mc14, rfl⟩⟩ := hcut
            cases kq with
            | zero => exact absurd HA.out (by simp [impl_OrderOk.j4])
            | succ e4 =>
             have H := HA.out
             clear HA
             simp only [impl_OrderOk.j4] at H
             replace H := ox_ H
             rcases H with ⟨rfl, H⟩ | ⟨rfl, H⟩
             ·
              obtain rfl := Option.some.inj H
              go_wp2
              go_ret
              exact ⟨z7_1, z7_0⟩
             replace H := od2 H
             obtain ⟨i9, j1, H⟩ := H
             replace H := oe2 H
             rcases H with ⟨⟨f1, f5, f6⟩, H⟩ | ⟨⟨f1, f5, f6⟩, H⟩
             ·
              have f7 : ((rd_L1 l0 a1).length == l0.length) = true := by first | simpa using f1 | (simp at f1 ⊢; omega)
              clear f1
              replace H := oe2 H
              rcases H with ⟨⟨-, f8, f9⟩, H⟩ | ⟨⟨n3, f8, f9⟩, H⟩
              ·
               replace H := oe2 H
               rcases H with ⟨⟨-, g0, g1⟩, H⟩ | ⟨⟨n4, g0, g1⟩, H⟩
               ·
                have H' := ak H
                clear H
                obtain ⟨ad400, a6, a7, e400, hx400_0, a5, HR400_0, d4, q400⟩ := al_ HR0.out a1
                obtain rfl := ij_ e400
                go_wp2
                go_roundg e4
                case measure => have := a9.out; have := HK2.out; have := d7.out; have := HK4.out; have := d3.out; omega
                case rel => exact ⟨(wrap64 (a1 + 1)), z7_1, H', ⟨z7_3⟩, z7_0⟩
               replace H := od2 H
               obtain ⟨j3, j5, H⟩ := H
               replace H := oe2 H
               rcases H with ⟨⟨-, g2, g3⟩, H⟩ | ⟨⟨n5, g2, g3⟩, H⟩
               ·
                obtain rfl := Option.some.inj H
                obtain ⟨ad400, a6, a7, e400, hx400_0, a5, HR400_0, d4, q400⟩ := al_ HR0.out a1
                obtain rfl := ij_ e400
                obtain ⟨ad401, e5, e6, e401, hx401_0, d5, HR401_0, i2, q401⟩ := al_ HR0.out a1
                obtain rfl := ij_ e401
                obtain ⟨rfl, rfl⟩ := is_ hx400_0 hx401_0
                obtain ⟨ad402, e402, hx402_0, i3, q402⟩ := ai_ HR401_0.out a0
                cases e402
                go_wp2
                go_ret
                exact ⟨z7_1, z7_0⟩
               have H' := ak H
               clear H
               obtain ⟨ad400, a6, a7, e400, hx400_0, a5, HR400_0, d4, q400⟩ := al_ HR0.out a1
               obtain rfl := ij_ e400
               obtain ⟨ad401, e5, e6, e401, hx401_0, d5, HR401_0, i2, q401⟩ := al_ HR0.out a1
               obtain rfl := ij_ e401
               obtain ⟨rfl, rfl⟩ := is_ hx400_0 hx401_0
               obtain ⟨ad402, e402, hx402_0, i3, q402⟩ := ai_ HR401_0.out a0
               cases e402
               go_wp2
               go_roundg e4
               case measure => have := a9.out; have := HK2.out; have := d7.out; have := HK4.out; have := d3.out; omega
               case rel => exact ⟨(wrap64 (a1 + 1)), z7_1, H', ⟨z7_3⟩, z7_0⟩
              have H' := ak H
              clear H
              obtain ⟨ad400, a6, a7, e400, hx400_0, a5, HR400_0, d4, q400⟩ := al_ HR0.out a1
              obtain rfl := ij_ e400
              go_wp2
              go_roundg e4
              case measure => have := a9.out; have := HK2.out; have := d7.out; have := HK4.out; have := d3.out; omega
              case rel => exact ⟨(wrap64 (a1 + 1)), z7_1, H', ⟨z7_3⟩, z7_0⟩
             have f7 : ((rd_L1 l0 a1).length == l0.length) = false := by first | simpa using f1 | (simp at f1 ⊢; omega)
             obtain rfl := Option.some.inj H
             obtain ⟨ad400, a6, a7, e400, hx400_0, a5, HR400_0, d4, q400⟩ := al_ HR0.out a1
             obtain rfl := ij_ e400
             go_wp2
             go_ret
             exact ⟨z7_1, z7_0⟩
          have H' := ak H
          clear H
          go_wp2
          go_roundg k4
          case measure => have := a9.out; have := HK2.out; have := d7.out; have := HK4.out; omega
          case rel => exact ⟨(wrap64 (a0 + 1)), z7_1, H', ⟨(by have := a9.out; have := HK2.out; have := d7.out; have := HK4.out; omega)⟩, z7_0⟩
     have H' := ak H
     clear H
     go_wp2
     go_loopg [79] k2 (fun kq m0 w' => ∃ (a2 : Int), m0 = .int .i64 a2 ∧ Aside0 (impl_OrderOk.l2 kq l0 (l0.length : Int) (l0.length : Int) a2 = some r) ∧ Aside0 (kq ≤ k2) ∧ Drawn0 w w')
     case atStart => exact ⟨(0), z7_1, H', ⟨Nat.le_refl _⟩, z7_0⟩
     case round =>
      clear H'
      try clear c4
      try clear c5
      try clear b1
      obtain ⟨a2, rfl, HA, HK3, ⟨m3, rfl⟩⟩ := hrel
      cases gk with
      | zero => exact absurd HA.out (by simp [impl_OrderOk.l2])
      | succ k3 =>
       have H := HA.out
       clear HA
       simp only [impl_OrderOk.l2] at H
       replace H := os_ H
       rcases H with ⟨d0, H⟩ | ⟨d0, H⟩
       ·
        have H' := ak H
        clear H
        go_wp2
        go_loopg [83] k3 (fun kq m1 w' => ∃ (a3 : Int), m1 = .int .i64 a3 ∧ Aside0 (impl_OrderOk.l3 kq l0 (l0.length : Int) a2 (l0.length : Int) a2 (l0.length : Int) a3 = some r) ∧ Aside0 (kq ≤ k3) ∧ Drawn0 w w')
        case atStart => exact ⟨(0), z7_1, H', ⟨Nat.le_refl _⟩, z7_0⟩
        case round =>
         clear H'
         try clear c4
         try clear c5
         try clear b1
         try clear m6
         try clear d0
         obtain ⟨a3, rfl, HA, HK4, ⟨m4, rfl⟩⟩ := hrel
         cases gk with
         | zero => exact absurd HA.out (by simp [impl_OrderOk.l3])
         | succ k4 =>
          have H := HA.out
          clear HA
          simp only [impl_OrderOk.l3] at H
          replace H := os_ H
          rcases H with ⟨d9, H⟩ | ⟨d9, H⟩
          ·
           have H' := ak H
           clear H
           go_wp2
           go_loopg [87] k4 (fun kq m7 w' => ∃ (a4 : Int), m7 = .int .i64 a4 ∧ Aside0 (impl_OrderOk.l4 kq l0 (l0.length : Int) a2 a3 (l0.length : Int) a2 (l0.length : Int) a3 (l0.length : Int) a4 = some r) ∧ Aside0 (kq ≤ k4) ∧ Drawn0 w w')
           case atStart => exact ⟨(0), z7_1, H', ⟨Nat.le_refl _⟩, z7_0⟩
           case round =>
            clear H'
            try clear c4
            try clear c5
            try clear b1
            try clear m6
            try clear d0
            try clear n6
            try clear d9
            obtain ⟨a4, rfl, HA, HK5, ⟨m5, rfl⟩⟩ := hrel
            cases gk with
            | zero => exact absurd HA.out (by simp [impl_OrderOk.l4])
            | succ k5 =>
             have H := HA.out
             clear HA
             simp only [impl_OrderOk.l4] at H
             replace H := os_ H
             rcases H with ⟨g4, H⟩ | ⟨g4, H⟩
             ·
              replace H := od4 H
              obtain ⟨j6, j7, j8, j9, H⟩ := H
              replace H := oe2 H
              rcases H with ⟨⟨-, g5, g6⟩, H⟩ | ⟨⟨n7, g5, g6⟩, H⟩
              ·
               replace H := od3 H
               obtain ⟨k0, k1, k6, H⟩ := H
               replace H := oe2 H
               rcases H with ⟨⟨-, g7, g8⟩, H⟩ | ⟨⟨n8, g7, g8⟩, H⟩
               ·
                replace H := od_ H
                obtain ⟨k7, H⟩ := H
                replace H := oe2 H
                rcases H with ⟨⟨-, g9, h0⟩, H⟩ | ⟨⟨n9, g9, h0⟩, H⟩
                ·
                 have H' := ak H
                 clear H
                 obtain ⟨ad403, b3, b4, e403, hx403_0, a8, HR403_0, e7, q403⟩ := al_ HR0.out a2
                 cases e403
                 obtain ⟨ad404, e404, hx404_0, e8, q404⟩ := ai_ HR403_0.out a3
                 cases e404
                 obtain ⟨ad405, d1, d2, e405, hx405_0, b5, HR405_0, h1, q405⟩ := al_ HR0.out a3
                 obtain rfl := ij_ e405
                 obtain ⟨ad406, e406, hx406_0, h2, q406⟩ := ai_ HR405_0.out a4
                 cases e406
                 obtain ⟨ad407, e9, f0, e407, hx407_0, d6, HR407_0, i4, q407⟩ := al_ HR0.out a2
                 obtain rfl := ij_ e407
                 obtain ⟨rfl, rfl⟩ := is_ hx403_0 hx407_0
                 obtain ⟨ad408, e408, hx408_0, i5, q408⟩ := ai_ HR407_0.out a4
                 cases e408
                 go_wp2
                 go_roundg k5
                 case measure => have := a9.out; have := HK2.out; have := HK3.out; have := HK4.out; have := HK5.out; omega
                 case rel => exact ⟨(wrap64 (a4 + 1)), z7_1, H', ⟨z7_2⟩, z7_0⟩
                obtain rfl := Option.some.inj H
                obtain ⟨ad403, b3, b4, e403, hx403_0, a8, HR403_0, e7, q403⟩ := al_ HR0.out a2
                cases e403
                obtain ⟨ad404, e404, hx404_0, e8, q404⟩ := ai_ HR403_0.out a3
                cases e404
                obtain ⟨ad405, d1, d2, e405, hx405_0, b5, HR405_0, h1, q405⟩ := al_ HR0.out a3
                obtain rfl := ij_ e405
                obtain ⟨ad406, e406, hx406_0, h2, q406⟩ := ai_ HR405_0.out a4
                cases e406
                obtain ⟨ad407, e9, f0, e407, hx407_0, d6, HR407_0, i4, q407⟩ := al_ HR0.out a2
                obtain rfl := ij_ e407
                obtain ⟨rfl, rfl⟩ := is_ hx403_0 hx407_0
                obtain ⟨ad408, e408, hx408_0, i5, q408⟩ := ai_ HR407_0.out a4
                cases e408
                go_wp2
                go_ret
                exact ⟨z7_1, z7_0⟩
               have H' := ak H
               clear H
               obtain ⟨ad403, b3, b4, e403, hx403_0, a8, HR403_0, e7, q403⟩ := al_ HR0.out a2
               cases e403
               obtain ⟨ad404, e404, hx404_0, e8, q404⟩ := ai_ HR403_0.out a3
               cases e404
               obtain ⟨ad405, d1, d2, e405, hx405_0, b5, HR405_0, h1, q405⟩ := al_ HR0.out a3
               obtain rfl := ij_ e405
               obtain ⟨ad406, e406, hx406_0, h2, q406⟩ := ai_ HR405_0.out a4
               cases e406
               go_wp2
               go_roundg k5
               case measure => have := a9.out; have := HK2.out; have := HK3.out; have := HK4.out; have := HK5.out; omega
               case rel => exact ⟨(wrap64 (a4 + 1)), z7_1, H', ⟨z7_2⟩, z7_0⟩
              have H' := ak H
              clear H
              obtain ⟨ad403, b3, b4, e403, hx403_0, a8, HR403_0, e7, q403⟩ := al_ HR0.out a2
              cases e403
              obtain ⟨ad404, e404, hx404_0, e8, q404⟩ := ai_ HR403_0.out a3
              cases e404
              go_wp2
              go_roundg k5
              case measure => have := a9.out; have := HK2.out; have := HK3.out; have := HK4.out; have := HK5.out; omega
              case rel => exact ⟨(wrap64 (a4 + 1)), z7_1, H', ⟨z7_2⟩, z7_0⟩
             have H' := ak H
             clear H
             go_wp2
             go_roundg k5
             case measure => have := a9.out; have := HK2.out; have := HK3.out; have := HK4.out; have := HK5.out; omega
             case rel => exact ⟨(wrap64 (a3 + 1)), z7_1, H', ⟨z7_2⟩, z7_0⟩
          have H' := ak H
          clear H
          go_wp2
          go_roundg k4
          case measure => have := a9.out; have := HK2.out; have := HK3.out; have := HK4.out; omega
          case rel => exact ⟨(wrap64 (a2 + 1)), z7_1, H', ⟨(by have := a9.out; have := HK2.out; have := HK3.out; have := HK4.out; omega)⟩, z7_0⟩
       obtain rfl := Option.some.inj H
       go_wp2
       go_ret
       exact ⟨z7_1, z7_0⟩

end Go.Proofs.Ytjgfpiilfnchnaa.P

-- written by gen.py (a program of this session) out of the kit's print of this seat's translation
namespace Go.Proofs.Ytjgfpiilfnchnaa.P
open Go.RowKit Go.Proofs.YtjgfpiilfnchnaaW.PrintWords Go.Proofs.YtjgfpiilfnchnaaW.PrintLast Go.Proofs.YtjgfpiilfnchnaaW.PrintMore
attribute [local go_sem] max2_int min2_int max_two min_two max_three min_three max_four min_four
set_option linter.unusedVariables false
set_option linter.unusedSimpArgs false
theorem z18_1 {p : Prop} (h : p := by repeat (first | (with_reducible first | exact HB.out | apply below_alloc | apply pw_below_drewN | apply below_drew1) | exact HB.out)) : p := h
theorem z18_0 {p : Prop} (h : p := by repeat (first | (with_reducible first | exact HBW.out | apply below_alloc | apply pw_below_drewN | apply below_drew1) | exact HBW.out)) : p := h
set_option maxHeartbeats 8000000 in
set_option maxRecDepth 100000 in
theorem spec_l20Open.calls (A0 : Option Addr) (c0 : Nat) (l0 : List Int) (r1 : List Int) (r2 : Int) (w0 w : World) (hB : Below w0.heap.size w0 w) (hr0 : Kd.C (Kd.int .u8) w0 A0 l0.length l0) (hc0 : l0.length ≤ c0) (h : spec_l20Open.f l0 = some (r1, r2)) :
 Calls Try.prog 55 #[.slice A0 l0.length c0] w fun e w' => ∃ g_ : Nat, e = .returned (.pointer (some ⟨g_, 0, none⟩)) ∧ IsS70 w0 w' g_ r1 r2 ∧ Below w0.heap.size w0 w' ∧ Below w.heap.size w w' := by
 have hu70 := Try.underlying70
 have HR0 := ak hr0
 have b1 := ak hc0
 clear hr0 hc0
 have HBW := ak (Below.refl w.heap.size w)
 have HW0 := ak hB.size
 have HB := ak hB
 clear hB
 have H : (if (l0.length : Int) > 2000 then (if 2000 ≤ (l0.length : Int) then (some (l0.take 2000, 0)) else (none)) else (some (l0, 0))) = some (r1, r2) := h
 clear h
 replace H := op_ H
 rcases H with ⟨c2, H⟩ | ⟨c2, H⟩
 ·
  have a8 : decide (2000 < (l0.length : Int)) = true := dT_ c2
  have a9 : decide (2000 < l0.length) = true := dT_ (by omega)
  clear c2
  replace H := ok_ H
  obtain ⟨c3, H⟩ := H
  have b2 := eq_true c3
  have b3 : decide (2000 ≤ (l0.length : Int)) = true := dT_ c3
  clear c3
  simp only [Option.some.injEq, Prod.mk.injEq] at H
  obtain ⟨rfl, rfl⟩ := H
  obtain ⟨i04, hi04, _, hsz4, _⟩ := info_parts info5
  obtain ⟨hcut4, hA4, hC4⟩ := print_take_of (P := Try.prog) (Value.int .u8) 0 22 5 .i64 Try.underlying22 hi04 hsz4 A0 c0 l0 2000 (by omega) (oa_) b1.out
  have HR383 := ak (Kd.C_of_reads (h1 := fun _ => rfl) (hA4 _ (Kd.reads_of_C HR0.out)))
  have b0 := ak hC4
  clear hA4 hC4 hi04 hsz4
  go_enter Try.func55, Try.ntmps55
  go_wp2_with (first | ((with_reducible refine gate_dst (N := 10) rfl ?_); refine bx_ (N := 10) (cs := #[.slice A0 (l0.take 2000).length c0, .int .i64 0]) (t := 70) ?_; intro a0 hg w5 hbox hb; replace HB := ak (below_step z18_1 hb); have a4 := ak (hbox); have a5 := ak ((by rw [hg]; exact (below_size z18_0) : w.heap.size ≤ a0)); have a2 := ak ((Nat.le_trans HW0.out (by rw [hg]; exact (below_size z18_0) : w.heap.size ≤ a0) : w0.heap.size ≤ a0)); replace HBW := ak (below_step HBW.out hb); clear hb hbox hg))
  go_ret
  exact ⟨_, rfl, (show IsS70 w0 _ a0 (l0.take 2000) 0 from ⟨_, _, (xb a4.out), a2.out, HR383.out⟩), (by repeat (first | (with_reducible first | exact HB.out | apply below_alloc | apply pw_below_drewN | apply below_drew1 | refine below_set ?_ a2.out) | exact HB.out)), (by repeat (first | (with_reducible first | exact HBW.out | apply below_alloc | apply pw_below_drewN | apply below_drew1 | refine below_set ?_ a5.out) | exact HBW.out))⟩
 have a8 : decide (2000 < (l0.length : Int)) = false := dF_ c2
 have a9 : decide (2000 < l0.length) = false := dF_ (by omega)
 clear c2
 simp only [Option.some.injEq, Prod.mk.injEq] at H
 obtain ⟨rfl, rfl⟩ := H
 go_enter Try.func55, Try.ntmps55
 go_wp2_with (first | ((with_reducible refine gate_dst (N := 10) rfl ?_); refine bx_ (N := 10) (cs := #[.slice A0 l0.length c0, .int .i64 0]) (t := 70) ?_; intro a1 hg w6 hbox hb; replace HB := ak (below_step z18_1 hb); have a6 := ak (hbox); have a7 := ak ((by rw [hg]; exact (below_size z18_0) : w.heap.size ≤ a1)); have a3 := ak ((Nat.le_trans HW0.out (by rw [hg]; exact (below_size z18_0) : w.heap.size ≤ a1) : w0.heap.size ≤ a1)); replace HBW := ak (below_step HBW.out hb); clear hb hbox hg))
 go_ret
 exact ⟨_, rfl, (show IsS70 w0 _ a1 l0 0 from ⟨_, _, (xb a6.out), a3.out, HR0.out⟩), (by repeat (first | (with_reducible first | exact HB.out | apply below_alloc | apply pw_below_drewN | apply below_drew1 | refine below_set ?_ a3.out) | exact HB.out)), (by repeat (first | (with_reducible first | exact HBW.out | apply below_alloc | apply pw_below_drewN | apply below_drew1 | refine below_set ?_ a7.out) | exact HBW.out))⟩

end Go.Proofs.Ytjgfpiilfnchnaa.P

-- written by gen.py (a program of this session) out of the kit's print of this seat's translation
namespace Go.Proofs.Ytjgfpiilfnchnaa.P
open Go.RowKit Go.Proofs.YtjgfpiilfnchnaaW.PrintWords Go.Proofs.YtjgfpiilfnchnaaW.PrintLast Go.Proofs.YtjgfpiilfnchnaaW.PrintMore
attribute [local go_sem] max2_int min2_int max_two min_two max_three min_three max_four min_four
set_option linter.unusedVariables false
set_option linter.unusedSimpArgs false
theorem z1d_3 {p : Prop} (h : p := by (with_reducible repeat (first | apply Kd.S_alloc | apply Kd.S_drewN | apply Kd.S_drew)); exact Kd.S_mono a4.out (fun _ hk => ⟨trivial, hk⟩)) : p := h
theorem z1d_2 {p : Prop} (h : p := by first | rfl | (simp; done) | (simp [*]; done)) : p := h
theorem z1d_1 {p : Prop} (h : p := by (with_reducible repeat (first | apply Kd.S_alloc | apply Kd.S_drewN | apply Kd.S_drew)); exact Kd.S_mono a4.out (fun _ hk => hk.2)) : p := h
theorem z1d_0 {p : Prop} (h : p := by repeat (first | (with_reducible first | exact HB.out | apply below_alloc | apply pw_below_drewN | apply below_drew1) | exact HB.out)) : p := h
set_option maxHeartbeats 8000000 in
set_option maxRecDepth 100000 in
theorem spec_l20Sets.calls (k : Nat) (a0 : Int) (r : List (List Int)) (w : World) (h : spec_l20Sets.f k a0 = some r) :
 Calls Try.prog 87 #[.int .i64 a0] w fun e w' => ∃ v0_ : Value, e = .returned (v0_) ∧ Kd.S (Kd.slice 3 (Kd.int .i64)) 24 w' w.heap.size (fun _ => True) v0_ r ∧ Below w.heap.size w w' := by
 have HB := ak (Below.refl w.heap.size w)
 have H : (spec_l20Sets.l0 k a0 (([] : List (List Int))) 0) = some r := h
 clear h
 obtain ⟨y104, hy104⟩ : ∃ y_ : List (List Int), y_ = (([] : List (List Int))) := ⟨_, rfl⟩
 replace H : (spec_l20Sets.l0 k a0 y104 0) = some r := by first | (rw [hy104]; with_reducible exact H) | (have H2_ := (Option.bind_some _ _).symm.trans H; rw [hy104]; with_reducible exact H2_) | (have H2_ := (Option.bind_some _ _).symm.trans H; with_reducible exact H2_) | with_reducible exact H | (rw [hy104]; exact H) | exact H
 have Ny104 := ak hy104
 clear hy104
 have H' := ak H
 clear H
 go_enter Try.func87, Try.ntmps87
 go_wp2_with (first | ((with_reducible refine gate_dst (N := 8) rfl ?_); refine Kd.S_lit (Kd.slice 3 (Kd.int .i64)) _ 24 ?hg (N := 8) ?hd (xs := ([] : List (List Int))) (inner := []) (ok := fun _ => True) (okp := fun _ => True) ?hr ?hp (fun _ hk => hk) trivial (Below.refl _ _) (Nat.le_refl _) (by simp) ?_; (case hd => rfl); (case hg => rfl); (case hr => first | (go_simp; done) | (go_simp; rfl)); (case hp => exact (Reps.none _ _)); intro d4 w2 ho3 hb hg_ hnew_; clear hg_ hnew_; (first | rw [← Ny104.out] at ho3 | (simp only [Int.reduceToNat] at ho3; rw [← Ny104.out] at ho3)); have a7 := ak (Kd.S_lower ho3 (below_size z1d_0)); replace HB := ak (below_step z1d_0 hb); clear hb ho3))
 go_loopg [3, 4] k (fun kq v3 v4 w' => ∃ (a1 : List (List Int)) (a2 : Int), v4 = .int .i64 a2 ∧ Aside0 (spec_l20Sets.l0 kq a0 a1 a2 = some r) ∧ Aside0 (kq ≤ k) ∧ Aside0 (Kd.S (Kd.slice 3 (Kd.int .i64)) 24 w' w.heap.size (fun _ => True) v3 a1) ∧ Aside0 (Below w.heap.size w w'))
 case atStart => exact ⟨(y104), (0), z1d_2, H', ⟨Nat.le_refl _⟩, ⟨(xS a7.out)⟩, ⟨z1d_0⟩⟩
 case round =>
  clear H'
  obtain ⟨a1, a2, rfl, HA, HK1, a4, HB⟩ := hrel
  cases gk with
  | zero => exact absurd HA.out (by simp [spec_l20Sets.l0])
  | succ k1 =>
   have H := HA.out
   clear HA
   simp only [spec_l20Sets.l0] at H
   replace H := ok_ H
   obtain ⟨c4, H⟩ := H
   have b8 := eq_true c4
   have b9 : decide (0 ≤ a0) = true := dT_ c4
   clear c4
   obtain ⟨ji5, hji5⟩ : ∃ j_ : Int, (shl .i64 1 a0) = j_ := ⟨_, rfl⟩
   replace H : (if a2 < (ji5) then (spec_l20Sets.l1 k1 a0 a1 a2 (([] : List Int)) 0) else (some a1)) = some r := by first | (rw [hji5] at H; exact H) | (simp only [hji5] at H ⊢; exact H)
   have hji5_ : (IntKind.i64.wrap (1 * 2 ^ min a0.toNat 64)) = ji5 := hji5
   have hji5z : a0 ≤ 64 → (IntKind.i64.wrap (1 * 2 ^ a0.toNat)) = ji5 := shl_small hji5
   have hji5u : (IntKind.i64.wrap (2 ^ min a0.toNat 64)) = ji5 := by have h_ := hji5_; rw [Int.one_mul] at h_; exact h_
   have hji5v : a0 ≤ 64 → (IntKind.i64.wrap (2 ^ a0.toNat)) = ji5 := fun hle_ => by have h_ := hji5z hle_; rw [Int.one_mul] at h_; exact h_
   have hji5y : (wrap64 (1 * 2 ^ min a0.toNat 64)) = ji5 := (i64_w _).symm.trans hji5_
   have hji5x : a0 ≤ 64 → (wrap64 (1 * 2 ^ a0.toNat)) = ji5 := fun h_ => (i64_w _).symm.trans (hji5z h_)
   replace H := os_ H
   rcases H with ⟨a8, H⟩ | ⟨a8, H⟩
   ·
    obtain ⟨y107, hy107⟩ : ∃ y_ : List Int, y_ = (([] : List Int)) := ⟨_, rfl⟩
    replace H : (spec_l20Sets.l1 k1 a0 a1 a2 y107 0) = some r := by first | (rw [hy107]; with_reducible exact H) | (have H2_ := (Option.bind_some _ _).symm.trans H; rw [hy107]; with_reducible exact H2_) | (have H2_ := (Option.bind_some _ _).symm.trans H; with_reducible exact H2_) | with_reducible exact H | (rw [hy107]; exact H) | exact H
    have Ny107 := ak hy107
    clear hy107
    have H' := ak H
    clear H
    go_wp2_with (first | ((with_reducible refine gate_dst (N := 15) rfl ?_); refine Kd.R_lit (Kd.int .i64) _ 3 ?hg (N := 15) ?hd (xs := ([] : List Int)) (inner := []) (ok := fun _ => True) (okp := fun _ => True) ?hr ?hp (fun _ hk => hk) trivial (Below.refl _ _) (Nat.le_refl _) (by simp) ?_; (case hd => rfl); (case hg => rfl); (case hr => first | (go_simp; done) | (go_simp; rfl)); (case hp => exact (Reps.none _ _)); intro d5 w7 ho8 hb hg_ hnew_; clear hg_ hnew_; (first | rw [← Ny107.out] at ho8 | (simp only [Int.reduceToNat] at ho8; rw [← Ny107.out] at ho8)); replace a4 := ak (Kd.S_elder' (xS a4.out) (Kd.R_base ho8) hb); have a9 := ak (Kd.R_lower ho8 (below_size z1d_0)); replace HB := ak (below_step z1d_0 hb); clear hb ho8))
    go_loopg [5, 6] k1 (fun kq v5 v6 w' => ∃ (a3 : List Int) (a5 : Int), v6 = .int .i64 a5 ∧ Aside0 (spec_l20Sets.l1 kq a0 a1 a2 a3 a5 = some r) ∧ Aside0 (kq ≤ k1) ∧ Aside0 (Kd.S (Kd.slice 3 (Kd.int .i64)) 24 w' w.heap.size (fun k_ => some k_ ≠ (v5 : Value).ownBlock) u3 a1) ∧ Aside0 (Kd.R (Kd.int .i64) 3 w' w.heap.size (fun _ => True) v5 a3) ∧ Aside0 (Below w.heap.size w w'))
    case atStart => exact ⟨(y107), (0), z1d_2, H', ⟨Nat.le_refl _⟩, ⟨z1d_1⟩, ⟨(xR a9.out)⟩, ⟨z1d_0⟩⟩
    case round =>
     clear H'
     try clear c4
     try clear b8
     try clear b9
     try clear c6
     try clear a8
     obtain ⟨a3, a5, rfl, HA, HK2, a4, a6, HB⟩ := hrel
     cases gk with
     | zero => exact absurd HA.out (by simp [spec_l20Sets.l1])
     | succ k2 =>
      have H := HA.out
      clear HA
      simp only [spec_l20Sets.l1] at H
      replace H := ok_ H
      obtain ⟨c9, H⟩ := H
      have d6 := eq_true c9
      have d7 : decide (0 ≤ a0) = true := dT_ c9
      clear c9
      (try clear hji5_); (try clear hji5z); (try clear hji5u); (try clear hji5v); (try clear hji5y); (try clear hji5x); (try clear hji5)
      obtain ⟨ji10, hji10⟩ : ∃ j_ : Int, (shl .i64 1 a0) = j_ := ⟨_, rfl⟩
      replace H : (if a5 < (ji10) then (if (Go.bits .and .i64 a2 a5) = a2 then (if a3.length < 17592186044416 then (spec_l20Sets.l1 k2 a0 a1 a2 (a3 ++ [1]) (wrap64 (a5 + 1))) else (none)) else (if a3.length < 17592186044416 then (spec_l20Sets.l1 k2 a0 a1 a2 (a3 ++ [0]) (wrap64 (a5 + 1))) else (none))) else (if a1.length < 5864062014805 then (spec_l20Sets.l0 k2 a0 (a1 ++ [a3]) (wrap64 (a2 + 1))) else (none))) = some r := by first | (rw [hji10] at H; exact H) | (simp only [hji10] at H ⊢; exact H)
      have hji10_ : (IntKind.i64.wrap (1 * 2 ^ min a0.toNat 64)) = ji10 := hji10
      have hji10z : a0 ≤ 64 → (IntKind.i64.wrap (1 * 2 ^ a0.toNat)) = ji10 := shl_small hji10
      have hji10u : (IntKind.i64.wrap (2 ^ min a0.toNat 64)) = ji10 := by have h_ := hji10_; rw [Int.one_mul] at h_; exact h_
      have hji10v : a0 ≤ 64 → (IntKind.i64.wrap (2 ^ a0.toNat)) = ji10 := fun hle_ => by have h_ := hji10z hle_; rw [Int.one_mul] at h_; exact h_
      have hji10y : (wrap64 (1 * 2 ^ min a0.toNat 64)) = ji10 := (i64_w _).symm.trans hji10_
      have hji10x : a0 ≤ 64 → (wrap64 (1 * 2 ^ a0.toNat)) = ji10 := fun h_ => (i64_w _).symm.trans (hji10z h_)
      replace H := os_ H
      rcases H with ⟨b0, H⟩ | ⟨b0, H⟩
      ·
       replace H := oe2 H
       rcases H with ⟨⟨-, b1, b2⟩, H⟩ | ⟨⟨e1, b1, b2⟩, H⟩
       ·
        replace H := ok_ H
        obtain ⟨d1, H⟩ := H
        have LMc13 := ak d1
        clear d1
        obtain ⟨y110, hy110⟩ : ∃ y_ : List Int, y_ = (a3 ++ [1]) := ⟨_, rfl⟩
        replace H : (spec_l20Sets.l1 k2 a0 a1 a2 y110 (wrap64 (a5 + 1))) = some r := by first | (rw [hy110]; with_reducible exact H) | (have H2_ := (Option.bind_some _ _).symm.trans H; rw [hy110]; with_reducible exact H2_) | (have H2_ := (Option.bind_some _ _).symm.trans H; with_reducible exact H2_) | with_reducible exact H | (rw [hy110]; exact H) | exact H
        have Ny110 := ak hy110
        clear hy110
        have H' := ak H
        clear H
        go_wp2_with (first | ((with_reducible refine gate_builtin (b := .append) (xs := #[.tmp 27, .tmp 29]) rfl ?_); at_builtin; refine Kd.R_append (Kd.int .i64) (w0 := w) w.heap.size rfl (.tmp 27) (.tmp 29) 24 3 (.int .i64 0) 8 rfl Try.underlying24 info3 rfl (by decide) (by omega) u5 a3 1 [.int .i64 1] (fun _ => True) (fun _ => False) rfl rfl ?aP (fun _ hk => hk.elim) ?aF ?aO ?aB ?aS ?aL ?_; (case aP => exact rfl); (case aB => exact z1d_0); (case aF => exact (fun _ _ => trivial)); (case aO => exact (xR a6.out)); (case aS => exact (below_size z1d_0)); (case aL => have := LMc13.out; omega); intro d8 e2 ho hb hg hat; rw [← Ny110.out] at ho; replace a4 := ak (Kd.S_after (ok := (fun _ => True)) z1d_3 hg hat); replace HB := ak (hb); have b3 := ak (ho); clear a6; clear ho hb hg hat))
        go_roundg k2
        case measure => have := HK1.out; have := HK2.out; omega
        case rel => exact ⟨(y110), (wrap64 (a5 + 1)), z1d_2, H', ⟨(by have := HK1.out; have := HK2.out; omega)⟩, ⟨z1d_1⟩, ⟨(xR b3.out)⟩, ⟨z1d_0⟩⟩
       replace H := ok_ H
       obtain ⟨d2, H⟩ := H
       have LMc15 := ak d2
       clear d2
       obtain ⟨y113, hy113⟩ : ∃ y_ : List Int, y_ = (a3 ++ [0]) := ⟨_, rfl⟩
       replace H : (spec_l20Sets.l1 k2 a0 a1 a2 y113 (wrap64 (a5 + 1))) = some r := by first | (rw [hy113]; with_reducible exact H) | (have H2_ := (Option.bind_some _ _).symm.trans H; rw [hy113]; with_reducible exact H2_) | (have H2_ := (Option.bind_some _ _).symm.trans H; with_reducible exact H2_) | with_reducible exact H | (rw [hy113]; exact H) | exact H
       have Ny113 := ak hy113
       clear hy113
       have H' := ak H
       clear H
       go_wp2_with (first | ((with_reducible refine gate_builtin (b := .append) (xs := #[.tmp 27, .tmp 29]) rfl ?_); at_builtin; refine Kd.R_append (Kd.int .i64) (w0 := w) w.heap.size rfl (.tmp 27) (.tmp 29) 24 3 (.int .i64 0) 8 rfl Try.underlying24 info3 rfl (by decide) (by omega) u5 a3 0 [.int .i64 0] (fun _ => True) (fun _ => False) rfl rfl ?aP (fun _ hk => hk.elim) ?aF ?aO ?aB ?aS ?aL ?_; (case aP => exact rfl); (case aB => exact z1d_0); (case aF => exact (fun _ _ => trivial)); (case aO => exact (xR a6.out)); (case aS => exact (below_size z1d_0)); (case aL => have := LMc15.out; omega); intro d9 e3 ho hb hg hat; rw [← Ny113.out] at ho; replace a4 := ak (Kd.S_after (ok := (fun _ => True)) z1d_3 hg hat); replace HB := ak (hb); have b4 := ak (ho); clear a6; clear ho hb hg hat))
       go_roundg k2
       case measure => have := HK1.out; have := HK2.out; omega
       case rel => exact ⟨(y113), (wrap64 (a5 + 1)), z1d_2, H', ⟨(by have := HK1.out; have := HK2.out; omega)⟩, ⟨z1d_1⟩, ⟨(xR b4.out)⟩, ⟨z1d_0⟩⟩
      replace H := ok_ H
      obtain ⟨d3, H⟩ := H
      have LMc17 := ak d3
      clear d3
      obtain ⟨y116, hy116⟩ : ∃ y_ : List (List Int), y_ = (a1 ++ [a3]) := ⟨_, rfl⟩
      replace H : (spec_l20Sets.l0 k2 a0 y116 (wrap64 (a2 + 1))) = some r := by first | (rw [hy116]; with_reducible exact H) | (have H2_ := (Option.bind_some _ _).symm.trans H; rw [hy116]; with_reducible exact H2_) | (have H2_ := (Option.bind_some _ _).symm.trans H; with_reducible exact H2_) | with_reducible exact H | (rw [hy116]; exact H) | exact H
      have Ny116 := ak hy116
      clear hy116
      have H' := ak H
      clear H
      obtain ⟨b5, b6, d0⟩ := Kd.R_slice a6.out
      subst d0
      go_wp2_with (first | ((with_reducible refine gate_builtin (b := .append) (xs := #[.tmp 31, .tmp 33]) rfl ?_); at_builtin; refine Kd.S_append (Kd.slice 3 (Kd.int .i64)) (w0 := w) w.heap.size rfl (.tmp 31) (.tmp 33) 23 24 (.slice none 0 0) 24 rfl Try.underlying23 info24 rfl (by decide) (by omega) u3 a1 a3 [.slice b5 a3.length b6] (fun _ => True) (fun k_ => some k_ = (.slice b5 a3.length b6 : Value).ownBlock) rfl rfl ?aP (fun k_ hk_ => ((Kd.R_mono (ok' := fun k_ => ((fun _ => True)) k_ ∧ some k_ ≠ (u3 : Value).ownBlock) (Kd.R_apart' (a6.out) (Kd.S_typed a4.out) (by decide)) (fun k_ hk => ⟨trivial, hk.2⟩))).1 k_ hk_.symm) ?aF ?aO ?aB ?aS ?aL ?_; (case aP => exact Kd.M_row (Kd.R_mono (Kd.R_tight rfl (Kd.R_mono (ok' := fun k_ => ((fun _ => True)) k_ ∧ some k_ ≠ (u3 : Value).ownBlock) (Kd.R_apart' (a6.out) (Kd.S_typed a4.out) (by decide)) (fun k_ hk => ⟨trivial, hk.2⟩))) (fun _ h_ => h_))); (case aB => exact z1d_0); (case aF => exact (fun _ _ => trivial)); (case aO => exact (by (with_reducible repeat (first | apply Kd.S_alloc | apply Kd.S_drewN | apply Kd.S_drew)); exact Kd.S_mono a4.out (fun k_ hk => ⟨trivial, fun e_ => hk e_⟩))); (case aS => exact (below_size z1d_0)); (case aL => have := LMc17.out; omega); intro e0 e4 ho hb hg hat; rw [← Ny116.out] at ho; replace HB := ak (hb); have b7 := ak (ho); clear a4 a6; clear ho hb hg hat))
      go_roundg k2
      case measure => have := HK1.out; have := HK2.out; omega
      case rel => exact ⟨(y116), (wrap64 (a2 + 1)), z1d_2, H', ⟨(by have := HK1.out; have := HK2.out; omega)⟩, ⟨(xS b7.out)⟩, ⟨z1d_0⟩⟩
   obtain rfl := Option.some.inj H
   go_wp2
   go_ret
   exact ⟨_, (by first | rfl | (simp [errW_none, errW_some] <;> rfl) | (simp only [← hji5]; first | rfl | (simp [errW_none, errW_some] <;> rfl)) | (simp [*, errW_none, errW_some] <;> rfl)), (xS a4.out), z1d_0⟩

end Go.Proofs.Ytjgfpiilfnchnaa.P

-- written by gen.py (a program of this session) out of the kit's print of this seat's translation
namespace Go.Proofs.Ytjgfpiilfnchnaa.P
open Go.RowKit Go.Proofs.YtjgfpiilfnchnaaW.PrintWords Go.Proofs.YtjgfpiilfnchnaaW.PrintLast Go.Proofs.YtjgfpiilfnchnaaW.PrintMore
attribute [local go_sem] max2_int min2_int max_two min_two max_three min_three max_four min_four
set_option linter.unusedVariables false
set_option linter.unusedSimpArgs false
def spec_l20Boole.T5 : Bool × List (List Nat × List Nat) := (true, [([], []), ([0], [0]), ([], []), ([2], [2]), ([3], [3]), ([], []), ([4, 5], [4, 5]), ([6], [6]), ([1, 7], [1, 7]), ([0, 1, 2, 3, 4, 5, 6, 7, 8], []), ([9, 8, 8, 0, 1, 2, 3, 4, 5, 6, 7, 8], [8, 9])])
def spec_l20Boole.B5 : List Nat := [0, 1, 0, 4, 12, 0, 60, 124, 255, 511, 1023]
theorem spec_l20Boole.tab5 : rtab .any (opsOf Try.f77 5) = spec_l20Boole.T5 := by kernel_rfl
theorem spec_l20Boole.bits5 : waitsOk spec_l20Boole.T5.2 spec_l20Boole.B5 = true := by kernel_rfl
theorem z15_2 {p : Prop} (h : p := by repeat (first | (with_reducible first | exact HB.out | apply below_alloc | apply pw_below_drewN | apply below_drew1) | exact HB.out)) : p := h
theorem z15_1 {p : Prop} (h : p := by repeat (first | (with_reducible first | exact HB.out | apply below_alloc | apply pw_below_drewN | apply below_drew1 | refine below_set ?_ b9.out) | exact HB.out)) : p := h
theorem z15_0 {p : Prop} (h : p := by repeat (first | (with_reducible first | exact HB.out | apply below_alloc | apply pw_below_drewN | apply below_drew1 | refine below_set ?_ b9.out | refine below_set ?_ d5.out) | exact HB.out)) : p := h
set_option maxHeartbeats 8000000 in
set_option maxRecDepth 100000 in
theorem spec_l20Boole.calls (k : Nat) (a0 : Int) (r1 : List (List Int)) (r2 : List Int) (w : World) (h : spec_l20Boole.f k a0 = some (r1, r2)) :
 Calls Try.prog 77 #[.int .i64 a0] w fun e w' => ∃ v0_ v1_ : Value, e = .returned (.agg #[v0_, v1_]) ∧ Kd.S (Kd.slice 3 (Kd.int .i64)) 24 w' w.heap.size (fun k_ => some k_ ≠ (v1_ : Value).ownBlock) v0_ r1 ∧ Kd.R (Kd.int .i64) 3 w' w.heap.size (fun _ => True) v1_ r2 ∧ Below w.heap.size w w' := by
 have hu26 := Try.underlying26
 have HB := ak (Below.refl w.heap.size w)
 have H : ((spec_l20Sets.f k a0).bind fun a8 => (spec_l20Boole.l0 k a0 0 a8 ([] : List Int))) = some (r1, r2) := h
 clear h
 obtain ⟨a8, A2, H⟩ := bd_ H
 try dsimp only at H
 have H' := ak H
 clear H
 go_enter Try.func77, Try.ntmps77
 go_wp2_with (first | ((with_reducible refine gate_dst (N := 2) rfl ?_); refine bx_ (N := 2) (cs := #[.slice none 0 0, .slice none 0 0]) (t := 26) ?_; intro a7 hg w3 hbox hb; have a4 := ak (hbox); have d9 := ak ((by rw [hg]; exact (below_size z15_2) : w.heap.size ≤ a7)); have b9 := ak ((by rw [hg]; exact (below_size z15_2) : w.heap.size ≤ a7)); replace HB := ak (below_step z15_2 hb); clear hb hbox hg) | ((with_reducible refine gate_callee (f := 87) rfl ?_); refine gl_ (some 6) Try.func87 #[.int .i64 a0] ?_; (with_reducible refine (spec_l20Sets.calls k a0 a8 _ A2.out).mono ?_); rintro e w' ⟨e5, rfl, ho0, hb⟩; refine ⟨_, rfl, ?_⟩; have b2 := ak (Kd.S_lower ho0 (below_size z15_1)); replace a4 := ak (blk_below (g := a7) (o := .cells #[.slice none 0 0, .slice none 0 0] 26 (0, 0)) (xb a4.out) hb); replace HB := ak (below_step z15_1 hb); (try clear hb); (try clear hb2); (try clear hk); (try clear hi); (try clear ho0); obtain ⟨b3, b4, e6⟩ := Kd.S_slice b2.out; subst e6) | ((with_reducible refine gate_dst (N := 3) rfl ?_); refine bx_ (N := 3) (cs := #[.slice none 0 0, .slice none 0 0]) (t := 26) ?_; intro a9 hg w6 hbox hb; replace b2 := ak (Kd.S_below (xS b2.out) hb); have a1 := ak (hbox); have e0 := ak ((by rw [hg]; exact (below_size z15_1) : w.heap.size ≤ a9)); have d5 := ak ((by rw [hg]; exact (below_size z15_1) : w.heap.size ≤ a9)); replace HB := ak (below_step z15_1 hb); have a6 := ak ((by rw [hg]; exact Nat.ne_of_lt (blk_lt (g := a7) (o := .cells #[.slice none 0 0, .slice none 0 0] 26 (0, 0)) (xb a4.out)) : a7 ≠ a9)); have b0 := ak ((by rw [hg]; exact Nat.ne_of_gt (blk_lt (g := a7) (o := .cells #[.slice none 0 0, .slice none 0 0] 26 (0, 0)) (xb a4.out)) : a9 ≠ a7)); replace a4 := ak (blk_below (g := a7) (o := .cells #[.slice none 0 0, .slice none 0 0] 26 (0, 0)) (xb a4.out) hb); clear hb hbox hg; have e7 := b0.out; have e8 := a6.out; have b5 := cz20 a1.out; have b6 := cz21 a1.out; have b7 := blk_frozen a1.out 0; have b8 := blk_frozen a1.out 1))
 go_loopg [4] k (fun kq v4 w' => ∃ (b1 : Int) (a2 : List Int) (u124001 : Value), v4 = .int .i64 b1 ∧ Aside0 (spec_l20Boole.l0 kq a0 b1 a8 a2 = some (r1, r2)) ∧ Aside0 (kq ≤ k) ∧ Aside0 (Kd.S (Kd.slice 3 (Kd.int .i64)) 24 w' w.heap.size (fun k_ => some k_ ≠ (u124001 : Value).ownBlock) (.slice b3 a8.length b4) a8) ∧ Aside0 (Kd.R (Kd.int .i64) 3 w' w.heap.size (fun _ => True) u124001 a2) ∧ Aside0 (w'.heap[a7]? = some (.cells #[(.slice none 0 0), (.slice none 0 0)] 26 (0, 0))) ∧ Aside0 (w'.heap[a9]? = some (.cells #[(.slice b3 a8.length b4), u124001] 26 (0, 0))) ∧ Aside0 (Below w.heap.size w w'))
 case atStart => exact ⟨(0), (([] : List Int)), (.slice none 0 0), (by first | rfl | (simp; done) | (simp [*]; done)), H', ⟨Nat.le_refl _⟩, ⟨(by (with_reducible repeat (first | apply Kd.S_alloc | apply Kd.S_drewN | apply Kd.S_drew)); exact Kd.S_mono (Kd.S_far (p := ⟨a9, 1, none⟩) (Kd.S_far (p := ⟨a9, 0, none⟩) (Kd.S_types b2.out a1.out (by decide)) (fun _ hk => hk.2) (.slice b3 a8.length b4)) (fun _ hk => hk.2) (.slice none 0 0)) (fun _ hk => (by simp [Value.ownBlock])))⟩, ⟨(by first | exact Kd.R_nil _ _ _ _ _ | exact Kd.N_nil _ _ _ _ _ | exact Kd.V_nil _ _ _ _ _ | exact Kd.Q_nil _ _ _ _ _ | exact Kd.S_nil _ _ _ _ _)⟩, ⟨(by (with_reducible repeat (first | refine blk_drewN ?_ _ | refine blk_drew ?_ | refine blk_alloc ?_ _)); refine blk_far ?_ a6.out _; (with_reducible repeat (first | refine blk_drewN ?_ _ | refine blk_drew ?_ | refine blk_alloc ?_ _)); refine blk_far ?_ a6.out _; (with_reducible repeat (first | refine blk_drewN ?_ _ | refine blk_drew ?_ | refine blk_alloc ?_ _)); exact a4.out)⟩, ⟨(by (with_reducible repeat (first | refine blk_drewN ?_ _ | refine blk_drew ?_ | refine blk_alloc ?_ _)); refine blk_put (cs := #[.slice b3 a8.length b4, .slice none 0 0]) ?_ 1 _ rfl; (with_reducible repeat (first | refine blk_drewN ?_ _ | refine blk_drew ?_ | refine blk_alloc ?_ _)); refine blk_put (cs := #[.slice none 0 0, .slice none 0 0]) ?_ 0 _ rfl; (with_reducible repeat (first | refine blk_drewN ?_ _ | refine blk_drew ?_ | refine blk_alloc ?_ _)); exact a1.out)⟩, ⟨z15_0⟩⟩
 case round =>
  clear H'
  try clear b5
  try clear b6
  try clear b7
  try clear b8
  obtain ⟨b1, a2, u124001, rfl, HA, HK1, a5, a3, a4, a1, HB⟩ := hrel
  cases gk with
  | zero => exact absurd HA.out (by simp [spec_l20Boole.l0])
  | succ k1 =>
   have H := HA.out
   clear HA
   simp only [spec_l20Boole.l0] at H
   replace H := ok_ H
   obtain ⟨c9, H⟩ := H
   have e9 := eq_true c9
   have f0 : decide (0 ≤ a0) = true := dT_ c9
   clear c9
   obtain ⟨ji10, hji10⟩ : ∃ j_ : Int, (shl .i64 1 a0) = j_ := ⟨_, rfl⟩
   replace H : (if b1 < (ji10) then (if a2.length < 17592186044416 then (spec_l20Boole.l0 k1 a0 (wrap64 (b1 + 1)) a8 (a2 ++ [wrap64 ((wrap64 ((ji10) - 1)) - b1)])) else (none)) else (some (a8, a2))) = some (r1, r2) := by first | (rw [hji10] at H; exact H) | (simp only [hji10] at H ⊢; exact H)
   have hji10_ : (IntKind.i64.wrap (1 * 2 ^ min a0.toNat 64)) = ji10 := hji10
   have hji10z : a0 ≤ 64 → (IntKind.i64.wrap (1 * 2 ^ a0.toNat)) = ji10 := shl_small hji10
   have hji10u : (IntKind.i64.wrap (2 ^ min a0.toNat 64)) = ji10 := by have h_ := hji10_; rw [Int.one_mul] at h_; exact h_
   have hji10v : a0 ≤ 64 → (IntKind.i64.wrap (2 ^ a0.toNat)) = ji10 := fun hle_ => by have h_ := hji10z hle_; rw [Int.one_mul] at h_; exact h_
   have hji10y : (wrap64 (1 * 2 ^ min a0.toNat 64)) = ji10 := (i64_w _).symm.trans hji10_
   have hji10x : a0 ≤ 64 → (wrap64 (1 * 2 ^ a0.toNat)) = ji10 := fun h_ => (i64_w _).symm.trans (hji10z h_)
   replace H := os_ H
   rcases H with ⟨d6, H⟩ | ⟨d6, H⟩
   ·
    have e1 := eq_true (oa_ : 0 ≤ a0)
    replace H := ok_ H
    obtain ⟨e2, H⟩ := H
    have LMc14 := ak e2
    clear e2
    obtain ⟨y124, hy124⟩ : ∃ y_ : List Int, y_ = (a2 ++ [wrap64 ((wrap64 ((ji10) - 1)) - b1)]) := ⟨_, rfl⟩
    replace H : (spec_l20Boole.l0 k1 a0 (wrap64 (b1 + 1)) a8 y124) = some (r1, r2) := by first | (rw [hy124]; with_reducible exact H) | (have H2_ := (Option.bind_some _ _).symm.trans H; rw [hy124]; with_reducible exact H2_) | (have H2_ := (Option.bind_some _ _).symm.trans H; with_reducible exact H2_) | with_reducible exact H | (rw [hy124]; exact H) | exact H
    have Ny124 := ak hy124
    clear hy124
    have H' := ak H
    clear H
    try go_wp2
    replace a5 := ak (Kd.S_drew a5.out)
    replace a3 := ak (Kd.R_drew a3.out)
    replace a4 := ak (blk_drew a4.out)
    replace a1 := ak (blk_drew a1.out)
    replace HB := ak (below_drew1 HB.out)
    refine start_ (n := 11) (S := fun w' => w'.cell? ⟨a9, 0, none⟩ = some (.slice b3 a8.length b4) ∧ w'.cell? ⟨a9, 1, none⟩ = some (u124001)) (ds := [10]) (bA 11 0) (by kernel_rfl) rfl rfl ⟨(blk_cell a1.out 0).trans rfl, (blk_cell a1.out 1).trans rfl⟩ (fun hHeld => ?_); refine with_tabW spec_l20Boole.tab5 spec_l20Boole.bits5 (fun HT_ HW_ => ?_)
    generalize wr.drew = f2 at a5 a3 a4 a1 HB hHeld ⊢
    refine pu_ (i := 0) (N := some 14) (bA 11 1) ?_
    refine pu_ (i := 2) (N := some 16) (bA 11 5) ?_
    refine pu_ (i := 3) (N := some 17) (bA 11 13) ?_
    refine pu_ (i := 4) (N := some 18) (bA 11 29) ?_
    refine pu_ (i := 5) (N := some 19) (bA 11 61) ?_
    refine pu_ (i := 6) (N := some 20) (bA 11 125) ?_
    refine tk_ (i := 1) (N := some 15) (bA 11 127) ?_
    refine one_ (i := 7) (N := some 21) (bA 11 255) rfl rfl (one_of HT_.out (by kernel_rfl)) (by decide) (fun K hK => ?_)
    refine value_ (w1 := ?_) (v := ?_) (by rfl) rfl ?_ ?_
    rotate_left 2
    ·
     go_simp
     constructor
     ·
      rfl
     rfl
    refine hK.out _ _ ⟨(blk_cell (blk_alloc a1.out _) 0).trans rfl, (blk_cell (blk_alloc a1.out _) 1).trans rfl⟩ (fun hHeld => ?_)
    clear hK K
    refine no_ (N := some 21) ?_
    refine one_ (i := 8) (N := some 22) (bA 11 511) rfl rfl (one_of HT_.out (by kernel_rfl)) (by decide) (fun K hK => ?_)
    refine Kd.R_append_step (Kd.int .i64) (w0 := w) w.heap.size (by rfl) (.tmp 15) (.tmp 21) 24 3 (.int .i64 0) 8 rfl Try.underlying24 info3 rfl (by decide) (by omega) u124001 a2 (wrap64 ((wrap64 ((ji10) - 1)) - b1)) [.int .i64 (wrap64 ((wrap64 ((ji10) - 1)) - b1))] (fun _ => True) (fun _ => False) rfl rfl ?aP (fun _ hk => hk.elim) ?aF ?aO ?aB ?aS ?aL ?_
    (case aP => exact rfl)
    (case aB => exact z15_0)
    (case aF => exact (fun _ _ => trivial))
    (case aO => exact (xR a3.out))
    (case aS => exact (below_size z15_0))
    (case aL => have := LMc14.out; omega)
    intro f1 f3 ho hb hg hat
    rw [← Ny124.out] at ho
    replace a5 := ak (Kd.S_after (ok := (fun _ => True)) (by (with_reducible repeat (first | apply Kd.S_alloc | apply Kd.S_drewN | apply Kd.S_drew)); exact Kd.S_mono a5.out (fun _ hk => ⟨trivial, hk⟩)) hg hat)
    replace a4 := ak (blk_grown (g := a7) (o := .cells #[.slice none 0 0, .slice none 0 0] 26 (0, 0)) (xb a4.out) hg (Kd.R_ne a3.out a4.out (by decide)))
    replace a1 := ak (blk_grown (g := a9) (o := .cells #[.slice b3 a8.length b4, u124001] 26 (0, 0)) (xb a1.out) hg (Kd.R_ne a3.out a1.out (by decide)))
    replace HB := ak (hb)
    have d0 := ak (ho)
    clear a3 ho hb hg hat
    obtain ⟨d1, d2, d7⟩ := Kd.R_slice d0.out
    (first | subst d7 | (injection d7 with f1_ f2_ f3_; have f4_ := f1_.symm; have f5_ := f3_.symm; clear f1_ f2_ f3_; subst f4_; subst f5_))
    refine hK.out _ _ ⟨(blk_cell a1.out 0).trans rfl, (blk_cell a1.out 1).trans rfl⟩ (fun hHeld => ?_)
    clear hK K
    refine no_ (N := some 22) ?_
    refine pu_ (i := 9) (N := some 23) (bA 11 1023) ?_
    refine last_ (i := 10) (N := none) (bA 11 2047) rfl rfl (one_of HT_.out (by kernel_rfl)) (by decide) (fun K hK => ?_)
    have hs18 : _ := cz21 a1.out
    have hfs18 := blk_frozen a1.out 1
    have hns18_0 := a6.out
    have hms18_0 := b0.out
    refine skip_ (w1 := ?_) (by rfl) rfl ?_ ?_
    rotate_left
    ·
     go_simp
     rfl
    refine hK.out _ _ ?_
    clear hK K
    refine done_ (done_of HT_.out (by kernel_rfl)) ?_
    try go_wp2
    go_roundg k1
    case measure => have := HK1.out; omega
    case rel => exact ⟨(wrap64 (b1 + 1)), (y124), (.slice d1 y124.length d2), (by first | rfl | (simp; done) | (simp [*]; done)), H', ⟨(by have := HK1.out; omega)⟩, ⟨(by (with_reducible repeat (first | apply Kd.S_alloc | apply Kd.S_drewN | apply Kd.S_drew)); exact Kd.S_mono (Kd.S_far (p := ⟨a9, 1, none⟩) (Kd.S_types a5.out a1.out (by decide)) (fun _ hk => hk.2) (.slice d1 y124.length d2)) (fun _ hk => hk.1.2))⟩, ⟨(by (with_reducible repeat (first | apply Kd.R_alloc | apply Kd.R_drewN | apply Kd.R_drew)); exact Kd.R_mono (Kd.R_far (p := ⟨a9, 1, none⟩) (Kd.R_types d0.out a1.out (by decide)) (fun _ hk => hk.2) (.slice d1 y124.length d2)) (fun _ hk => trivial))⟩, ⟨(by (with_reducible repeat (first | refine blk_drewN ?_ _ | refine blk_drew ?_ | refine blk_alloc ?_ _)); refine blk_far ?_ a6.out _; (with_reducible repeat (first | refine blk_drewN ?_ _ | refine blk_drew ?_ | refine blk_alloc ?_ _)); exact a4.out)⟩, ⟨(by (with_reducible repeat (first | refine blk_drewN ?_ _ | refine blk_drew ?_ | refine blk_alloc ?_ _)); refine blk_put (cs := #[.slice b3 a8.length b4, u124001]) ?_ 1 _ rfl; (with_reducible repeat (first | refine blk_drewN ?_ _ | refine blk_drew ?_ | refine blk_alloc ?_ _)); exact a1.out)⟩, ⟨z15_0⟩⟩
   simp only [Option.some.injEq, Prod.mk.injEq] at H
   obtain ⟨rfl, rfl⟩ := H
   have e3 := b0.out
   have e4 := a6.out
   have b5 := cz20 a1.out
   have b6 := cz21 a1.out
   have b7 := blk_frozen a1.out 0
   have b8 := blk_frozen a1.out 1
   have b5 := cz20 a4.out
   have b6 := cz21 a4.out
   have b7 := blk_frozen a4.out 0
   have b8 := blk_frozen a4.out 1
   obtain ⟨d3, d4, d8⟩ := Kd.R_slice a3.out
   subst d8
   go_wp2
   refine bodyPost_ret (results_cell_row rfl _ _ a7 26 #[.slice b3 a8.length b4, .slice d3 a2.length d4] (0, 0) _ rfl (by (with_reducible repeat (first | refine blk_drewN ?_ _ | refine blk_drew ?_ | refine blk_alloc ?_ _)); refine blk_put (cs := #[.slice b3 a8.length b4, .slice none 0 0]) ?_ 1 _ rfl; (with_reducible repeat (first | refine blk_drewN ?_ _ | refine blk_drew ?_ | refine blk_alloc ?_ _)); refine blk_put (cs := #[.slice none 0 0, .slice none 0 0]) ?_ 0 _ rfl; (with_reducible repeat (first | refine blk_drewN ?_ _ | refine blk_drew ?_ | refine blk_alloc ?_ _)); exact a4.out) Try.underlying26 rfl (by kernel_rfl)) rfl ?_
   exact ⟨_, _, (by first | rfl | (simp [errW_none, errW_some] <;> rfl) | (simp only [← hji10]; first | rfl | (simp [errW_none, errW_some] <;> rfl)) | (simp [*, errW_none, errW_some] <;> rfl)), (by (with_reducible repeat (first | apply Kd.S_alloc | apply Kd.S_drewN | apply Kd.S_drew)); exact Kd.S_mono (Kd.S_far (p := ⟨a7, 1, none⟩) (Kd.S_far (p := ⟨a7, 0, none⟩) (Kd.S_types a5.out a4.out (by decide)) (fun _ hk => hk.2) (.slice b3 a8.length b4)) (fun _ hk => hk.2) (.slice d3 a2.length d4)) (fun _ hk => hk.1)), (by (with_reducible repeat (first | apply Kd.R_alloc | apply Kd.R_drewN | apply Kd.R_drew)); exact Kd.R_mono (Kd.R_far (p := ⟨a7, 1, none⟩) (Kd.R_far (p := ⟨a7, 0, none⟩) (Kd.R_types a3.out a4.out (by decide)) (fun _ hk => hk.2) (.slice b3 a8.length b4)) (fun _ hk => hk.2) (.slice d3 a2.length d4)) (fun _ hk => trivial)), z15_0⟩

end Go.Proofs.Ytjgfpiilfnchnaa.P
