/- 20 texts of this seat joined: walks, and the laws of what they compute. -/
import Derived.Below
import Derived.Deep.Draws
import Derived.Deep.AppendLies
import Derived.Maps.AppendAt
import Derived.OwnWalk
import Derived.Laws.BytesArg
import Derived.Laws.MakeOwn
import Derived.Laws.OwnMore
import Derived.Deep.OwnRows
import Derived.Tactics
import Derived.Lib.ConvBytes
import Derived.Laws.Slices
import Derived.WalkKit
import Derived.KernelRfl
import Derived.RowKit3
import Derived.Deep.LoopGhost
import Derived.Deep.QuietTactic
import Derived.BigQuiet
import Derived.WideLaws
import Derived.Deep.DeepCutAuto
import Derived.Deep.CutBlock
import Derived.Deep.RegionHeld3
import Derived.Laws.Rows
import Derived.Lib.AppendStr
import Derived.ArgAppend
import Derived.Laws.IdiomCopy
import Derived.OrdersHeld
import Derived.Laws.BitsLemmas
import Derived.RowKit
import Derived.Test.YtacifhahfamipaaPk1
import Derived.Test.YtacifhahfamipaaProg
namespace Go.Proofs.Cl
set_option linter.unusedVariables false

def allG (p : Nat → Bool) : Nat → Nat → Bool
 | 0, _ => true
 | d + 1, i => p i && allG p d (i + 1)
def allF (n : Nat) (p : Nat → Bool) (i : Nat) : Bool := allG p (n - i) i
theorem allF_end {n : Nat} {p : Nat → Bool} {i : Nat} (h : n ≤ i) : allF n p i = true := by
 unfold allF
 rw [show n - i = 0 by omega]
 rfl
theorem allF_step {n : Nat} {p : Nat → Bool} {i : Nat} (h : i < n) : allF n p i = (p i && allF n p (i + 1)) := by
 unfold allF
 rw [show n - i = (n - (i + 1)) + 1 by omega]
 rfl
theorem allG_iff (p : Nat → Bool) : ∀ d i, allG p d i = true ↔ ∀ c, i ≤ c → c < i + d → p c = true
  | 0, i => by simp only [allG, true_iff]; intro c h1 h2; omega
  | d + 1, i => by
    simp only [allG, Bool.and_eq_true, allG_iff p d (i + 1)]
    constructor
    · intro ⟨h1, h2⟩ c h3 h4
      by_cases e : c = i
      · rw [e]; exact h1
      · exact h2 c (by omega) (by omega)
    · intro h
      exact ⟨h i (by omega) (by omega), fun c h3 h4 => h c (by omega) (by omega)⟩
theorem allF_iff {n : Nat} {p : Nat → Bool} {i : Nat} : allF n p i = true ↔ ∀ c, i ≤ c → c < n → p c = true := by
 unfold allF
 rw [allG_iff]
 constructor
 ·intro h c h1 h2
  exact h c h1 (by omega)
 ·intro h c h1 h2
  exact h c h1 (by omega)
theorem allF0 {n : Nat} {p : Nat → Bool} : allF n p 0 = true ↔ ∀ c, c < n → p c = true := by
 rw [allF_iff]
 exact ⟨fun h c => h c (Nat.zero_le _), fun h c _ => h c⟩
def firstG (p : Nat → Bool) : Nat → Nat → Int
 | 0, _ => -1
 | d + 1, i => if p i = true then (i : Int) else firstG p d (i + 1)
def firstF (n : Nat) (p : Nat → Bool) (i : Nat) : Int := firstG p (n - i) i
theorem firstF_end {n : Nat} {p : Nat → Bool} {i : Nat} (h : n ≤ i) : firstF n p i = -1 := by
 unfold firstF
 rw [show n - i = 0 by omega]
 rfl
theorem firstF_step {n : Nat} {p : Nat → Bool} {i : Nat} (h : i < n) : firstF n p i = if p i = true then (i : Int) else firstF n p (i + 1) := by
 unfold firstF
 rw [show n - i = (n - (i + 1)) + 1 by omega]
 rfl
theorem down (n : Nat) (P : Nat → Prop) (hend : P n) (hstep : ∀ i, i < n → P (i + 1) → P i) (i : Nat) (hi : i ≤ n) : P i := by
  obtain ⟨d, hd⟩ : ∃ d, n - i = d := ⟨_, rfl⟩
  induction d generalizing i with
  | zero => obtain rfl : i = n := by omega
            exact hend
  | succ d ih => exact hstep i (by omega) (ih (i + 1) (by omega) (by omega))
theorem firstF_spec {n : Nat} {p : Nat → Bool} : ∀ i, i ≤ n → (firstF n p i = -1 ∧ ∀ c, i ≤ c → c < n → p c = false) ∨ (∃ c : Nat, firstF n p i = c ∧ i ≤ c ∧ c < n ∧ p c = true ∧ ∀ c', i ≤ c' → c' < c → p c' = false) := by
 intro i hi
 refine down n (fun i => (firstF n p i = -1 ∧ ∀ c, i ≤ c → c < n → p c = false) ∨ (∃ c : Nat, firstF n p i = c ∧ i ≤ c ∧ c < n ∧ p c = true ∧ ∀ c', i ≤ c' → c' < c → p c' = false)) ?_ ?_ i hi
 ·exact .inl ⟨firstF_end (Nat.le_refl _), fun c h1 h2 => by omega⟩
 ·intro i hi ih
  rw [firstF_step hi]
  cases hp : p i with
  | true => exact .inr ⟨i, by simp, Nat.le_refl _, hi, hp, fun c' h1 h2 => by omega⟩
  | false =>
   simp only [Bool.false_eq_true, if_false]
   rcases ih with ⟨h1, h2⟩ | ⟨c, h1, h2, h3, h4, h5⟩
   ·refine .inl ⟨h1, fun c h3 h4 => ?_⟩
    by_cases e : c = i
    ·rw [e]; exact hp
    ·exact h2 c (by omega) h4
   ·refine .inr ⟨c, h1, by omega, h3, h4, fun c' h6 h7 => ?_⟩
    by_cases e : c' = i
    ·rw [e]; exact hp
    ·exact h5 c' (by omega) h7

def rdN (u : List (List Int)) (a b : Nat) : Int := (u.getD a []).getD b 0
def Ord (u : List (List Int)) : Prop :=
 1 ≤ u.length ∧ u.length ≤ 12 ∧ (∀ a, a < u.length → (u.getD a []).length = u.length) ∧
 (∀ a, a < u.length → ∀ b, b < u.length → rdN u a b = 0 ∨ rdN u a b = 1) ∧
 (∀ a, a < u.length → rdN u a a = 1) ∧
 (∀ a, a < u.length → ∀ b, b < u.length → rdN u a b = 1 → rdN u b a = 1 → a = b) ∧
 (∀ a, a < u.length → ∀ b, b < u.length → ∀ c, c < u.length → rdN u a b = 1 → rdN u b c = 1 → rdN u a c = 1)
instance (u : List (List Int)) : Decidable (Ord u) := by
 have d1 : Decidable (∀ a, a < u.length → (u.getD a []).length = u.length) := inferInstance
 have d2 : Decidable (∀ a, a < u.length → ∀ b, b < u.length → rdN u a b = 0 ∨ rdN u a b = 1) := inferInstance
 have d3 : Decidable (∀ a, a < u.length → rdN u a a = 1) := inferInstance
 have d4 : Decidable (∀ a, a < u.length → ∀ b, b < u.length → rdN u a b = 1 → rdN u b a = 1 → a = b) := inferInstance
 have d5 : Decidable (∀ a, a < u.length → ∀ b, b < u.length → ∀ c, c < u.length → rdN u a b = 1 → rdN u b c = 1 → rdN u a c = 1) := inferInstance
 unfold Ord
 exact instDecidableAnd

namespace Ord
variable {u : List (List Int)} (h : Ord u)
theorem pos (h : Ord u) : 1 ≤ u.length := h.1
theorem le12 (h : Ord u) : u.length ≤ 12 := h.2.1
theorem row (h : Ord u) {a : Nat} (ha : a < u.length) : (u.getD a []).length = u.length := h.2.2.1 a ha
theorem bit (h : Ord u) {a b : Nat} (ha : a < u.length) (hb : b < u.length) : rdN u a b = 0 ∨ rdN u a b = 1 := h.2.2.2.1 a ha b hb
theorem refl (h : Ord u) {a : Nat} (ha : a < u.length) : rdN u a a = 1 := h.2.2.2.2.1 a ha
theorem anti (h : Ord u) {a b : Nat} (ha : a < u.length) (hb : b < u.length) (k : rdN u a b = 1) (l : rdN u b a = 1) : a = b := h.2.2.2.2.2.1 a ha b hb k l
theorem trans (h : Ord u) {a b c : Nat} (ha : a < u.length) (hb : b < u.length) (hc : c < u.length) (k : rdN u a b = 1) (l : rdN u b c = 1) : rdN u a c = 1 := h.2.2.2.2.2.2 a ha b hb c hc k l
theorem ne0 (h : Ord u) {a b : Nat} (ha : a < u.length) (hb : b < u.length) : rdN u a b ≠ 0 ↔ rdN u a b = 1 := by
 rcases h.bit ha hb with k | k <;> omega
theorem ne1 (h : Ord u) {a b : Nat} (ha : a < u.length) (hb : b < u.length) : rdN u a b ≠ 1 ↔ rdN u a b = 0 := by
 rcases h.bit ha hb with k | k <;> omega
end Ord

def IsMeet (u : List (List Int)) (a b c : Nat) : Prop :=
 c < u.length ∧ rdN u c a = 1 ∧ rdN u c b = 1 ∧ ∀ d, d < u.length → rdN u d a = 1 → rdN u d b = 1 → rdN u d c = 1
def IsJoin (u : List (List Int)) (a b c : Nat) : Prop :=
 c < u.length ∧ rdN u a c = 1 ∧ rdN u b c = 1 ∧ ∀ d, d < u.length → rdN u a d = 1 → rdN u b d = 1 → rdN u c d = 1
instance (u : List (List Int)) (a b c : Nat) : Decidable (IsMeet u a b c) := by unfold IsMeet; infer_instance
instance (u : List (List Int)) (a b c : Nat) : Decidable (IsJoin u a b c) := by unfold IsJoin; infer_instance
def meetI (u : List (List Int)) (a b : Nat) : Int := firstF u.length (fun c => decide (IsMeet u a b c)) 0
def joinI (u : List (List Int)) (a b : Nat) : Int := firstF u.length (fun c => decide (IsJoin u a b c)) 0
theorem IsMeet.uniq {u : List (List Int)} (h : Ord u) {a b c d : Nat} (hc : IsMeet u a b c) (hd : IsMeet u a b d) : c = d :=
 h.anti hc.1 hd.1 (hd.2.2.2 c hc.1 hc.2.1 hc.2.2.1) (hc.2.2.2 d hd.1 hd.2.1 hd.2.2.1)
theorem IsJoin.uniq {u : List (List Int)} (h : Ord u) {a b c d : Nat} (hc : IsJoin u a b c) (hd : IsJoin u a b d) : c = d :=
 h.anti hc.1 hd.1 (hc.2.2.2 d hd.1 hd.2.1 hd.2.2.1) (hd.2.2.2 c hc.1 hc.2.1 hc.2.2.1)
theorem meetI_of {u : List (List Int)} (h : Ord u) {a b c : Nat} (hc : IsMeet u a b c) : meetI u a b = c := by
 rcases firstF_spec (n := u.length) (p := fun c => decide (IsMeet u a b c)) 0 (Nat.zero_le _) with ⟨_, k⟩ | ⟨d, e, _, hd, k, _⟩
 ·have := k c (Nat.zero_le _) hc.1
  simp [hc] at this
 ·unfold meetI
  rw [e, (of_decide_eq_true k).uniq h hc]
theorem joinI_of {u : List (List Int)} (h : Ord u) {a b c : Nat} (hc : IsJoin u a b c) : joinI u a b = c := by
 rcases firstF_spec (n := u.length) (p := fun c => decide (IsJoin u a b c)) 0 (Nat.zero_le _) with ⟨_, k⟩ | ⟨d, e, _, hd, k, _⟩
 ·have := k c (Nat.zero_le _) hc.1
  simp [hc] at this
 ·unfold joinI
  rw [e, (of_decide_eq_true k).uniq h hc]
theorem meetI_cases (u : List (List Int)) (a b : Nat) : (meetI u a b = -1 ∧ ∀ c, ¬ IsMeet u a b c) ∨ ∃ c : Nat, meetI u a b = c ∧ IsMeet u a b c := by
 rcases firstF_spec (n := u.length) (p := fun c => decide (IsMeet u a b c)) 0 (Nat.zero_le _) with ⟨e, k⟩ | ⟨d, e, _, hd, k, _⟩
 ·exact .inl ⟨e, fun c hc => by have := k c (Nat.zero_le _) hc.1; simp [hc] at this⟩
 ·exact .inr ⟨d, e, of_decide_eq_true k⟩
theorem joinI_cases (u : List (List Int)) (a b : Nat) : (joinI u a b = -1 ∧ ∀ c, ¬ IsJoin u a b c) ∨ ∃ c : Nat, joinI u a b = c ∧ IsJoin u a b c := by
 rcases firstF_spec (n := u.length) (p := fun c => decide (IsJoin u a b c)) 0 (Nat.zero_le _) with ⟨e, k⟩ | ⟨d, e, _, hd, k, _⟩
 ·exact .inl ⟨e, fun c hc => by have := k c (Nat.zero_le _) hc.1; simp [hc] at this⟩
 ·exact .inr ⟨d, e, of_decide_eq_true k⟩
theorem IsMeet.comm {u : List (List Int)} {a b c : Nat} (h : IsMeet u a b c) : IsMeet u b a c := ⟨h.1, h.2.2.1, h.2.1, fun d hd k l => h.2.2.2 d hd l k⟩
theorem IsJoin.comm {u : List (List Int)} {a b c : Nat} (h : IsJoin u a b c) : IsJoin u b a c := ⟨h.1, h.2.2.1, h.2.1, fun d hd k l => h.2.2.2 d hd l k⟩
theorem meetI_comm {u : List (List Int)} (h : Ord u) (a b : Nat) : meetI u a b = meetI u b a := by
 rcases meetI_cases u b a with ⟨e, k⟩ | ⟨c, e, k⟩
 ·rcases meetI_cases u a b with ⟨e', _⟩ | ⟨c, e', k'⟩
  ·rw [e, e']
  ·exact absurd k'.comm (k c)
 ·rw [e, meetI_of h k.comm]
theorem joinI_comm {u : List (List Int)} (h : Ord u) (a b : Nat) : joinI u a b = joinI u b a := by
 rcases joinI_cases u b a with ⟨e, k⟩ | ⟨c, e, k⟩
 ·rcases joinI_cases u a b with ⟨e', _⟩ | ⟨c, e', k'⟩
  ·rw [e, e']
  ·exact absurd k'.comm (k c)
 ·rw [e, joinI_of h k.comm]
theorem isMeet_self {u : List (List Int)} (h : Ord u) {a b : Nat} (ha : a < u.length) (hb : b < u.length) (k : rdN u a b = 1) : IsMeet u a b a := ⟨ha, h.refl ha, k, fun _ _ l _ => l⟩
theorem isJoin_self {u : List (List Int)} (h : Ord u) {a b : Nat} (ha : a < u.length) (hb : b < u.length) (k : rdN u a b = 1) : IsJoin u a b b := ⟨hb, k, h.refl hb, fun _ _ _ l => l⟩

def turn (u : List (List Int)) : List (List Int) := (List.range u.length).map fun a => (List.range u.length).map fun b => rdN u b a
theorem turn_len (u : List (List Int)) : (turn u).length = u.length := by simp [turn]
theorem getD_map_range {α : Type} (f : Nat → α) (z : α) {n a : Nat} (h : a < n) : ((List.range n).map f).getD a z = f a := by
 simp [List.getD_eq_getElem?_getD, h]
theorem turn_row (u : List (List Int)) {a : Nat} (ha : a < u.length) : (turn u).getD a [] = (List.range u.length).map fun b => rdN u b a := by
 unfold turn
 rw [getD_map_range _ _ ha]
theorem turn_at (u : List (List Int)) {a b : Nat} (ha : a < u.length) (hb : b < u.length) : rdN (turn u) a b = rdN u b a := by
 unfold rdN
 rw [turn_row u ha, getD_map_range _ _ hb]
 rfl
theorem turn_ord {u : List (List Int)} (h : Ord u) : Ord (turn u) := by
 refine ⟨by rw [turn_len]; exact h.1, by rw [turn_len]; exact h.2.1, ?_, ?_, ?_, ?_, ?_⟩
 ·intro a ha
  rw [turn_len] at *
  rw [turn_row u ha]
  simp
 ·intro a ha b hb
  rw [turn_len] at *
  rw [turn_at u ha hb]
  exact h.bit hb ha
 ·intro a ha
  rw [turn_len] at *
  rw [turn_at u ha ha]
  exact h.refl ha
 ·intro a ha b hb
  rw [turn_len] at *
  rw [turn_at u ha hb, turn_at u hb ha]
  exact fun k l => h.anti ha hb l k
 ·intro a ha b hb c hc
  rw [turn_len] at *
  rw [turn_at u ha hb, turn_at u hb hc, turn_at u ha hc]
  exact fun k l => h.trans hc hb ha l k
theorem isMeet_turn {u : List (List Int)} {a b c : Nat} (ha : a < u.length) (hb : b < u.length) : IsMeet (turn u) a b c ↔ IsJoin u a b c := by
 unfold IsMeet IsJoin
 rw [turn_len]
 constructor
 ·intro ⟨h1, h2, h3, h4⟩
  rw [turn_at u h1 ha] at h2
  rw [turn_at u h1 hb] at h3
  refine ⟨h1, h2, h3, fun d hd k l => ?_⟩
  have := h4 d hd (by rw [turn_at u hd ha]; exact k) (by rw [turn_at u hd hb]; exact l)
  rwa [turn_at u hd h1] at this
 ·intro ⟨h1, h2, h3, h4⟩
  refine ⟨h1, by rw [turn_at u h1 ha]; exact h2, by rw [turn_at u h1 hb]; exact h3, fun d hd k l => ?_⟩
  rw [turn_at u hd ha] at k
  rw [turn_at u hd hb] at l
  rw [turn_at u hd h1]
  exact h4 d hd k l
theorem firstF_congr {n : Nat} {p q : Nat → Bool} (h : ∀ c, c < n → p c = q c) (i : Nat) (hi : i ≤ n) : firstF n p i = firstF n q i := by
 refine down n (fun i => firstF n p i = firstF n q i) ?_ ?_ i hi
 ·rw [firstF_end (Nat.le_refl _), firstF_end (Nat.le_refl _)]
 ·intro i hi ih
  rw [firstF_step hi, firstF_step hi, h i hi, ih]
theorem meetI_turn {u : List (List Int)} {a b : Nat} (ha : a < u.length) (hb : b < u.length) : meetI (turn u) a b = joinI u a b := by
 unfold meetI joinI
 rw [turn_len]
 exact firstF_congr (fun c _ => by rw [decide_eq_decide]; exact isMeet_turn ha hb) 0 (Nat.zero_le _)

def Lat (u : List (List Int)) : Prop := Ord u ∧ ∀ a, a < u.length → ∀ b, b < u.length → 0 ≤ meetI u a b ∧ 0 ≤ joinI u a b
instance (u : List (List Int)) : Decidable (Lat u) := by unfold Lat; infer_instance
def IsLeast (u : List (List Int)) (a : Nat) : Prop := ∀ b, b < u.length → rdN u a b = 1
instance (u : List (List Int)) (a : Nat) : Decidable (IsLeast u a) := by unfold IsLeast; infer_instance
def leastI (u : List (List Int)) : Int := firstF u.length (fun a => decide (IsLeast u a)) 0
theorem leastI_cases (u : List (List Int)) : (leastI u = -1 ∧ ∀ a, a < u.length → ¬ IsLeast u a) ∨ ∃ a : Nat, leastI u = a ∧ a < u.length ∧ IsLeast u a := by
 rcases firstF_spec (n := u.length) (p := fun a => decide (IsLeast u a)) 0 (Nat.zero_le _) with ⟨e, k⟩ | ⟨d, e, _, hd, k, _⟩
 ·exact .inl ⟨e, fun c hc hl => by have := k c (Nat.zero_le _) hc; simp [hl] at this⟩
 ·exact .inr ⟨d, e, hd, of_decide_eq_true k⟩
theorem leastI_of {u : List (List Int)} (h : Ord u) {a : Nat} (ha : a < u.length) (hl : IsLeast u a) : leastI u = a := by
 rcases leastI_cases u with ⟨_, k⟩ | ⟨d, e, hd, k⟩
 ·exact absurd hl (k a ha)
 ·rw [e, h.anti hd ha (k a ha) (hl d hd)]
namespace Lat
variable {u : List (List Int)}
theorem ord (h : Lat u) : Ord u := h.1
theorem meet (h : Lat u) {a b : Nat} (ha : a < u.length) (hb : b < u.length) : ∃ c : Nat, meetI u a b = c ∧ IsMeet u a b c := by
 rcases meetI_cases u a b with ⟨e, _⟩ | k
 ·have := (h.2 a ha b hb).1
  omega
 ·exact k
theorem join (h : Lat u) {a b : Nat} (ha : a < u.length) (hb : b < u.length) : ∃ c : Nat, joinI u a b = c ∧ IsJoin u a b c := by
 rcases joinI_cases u a b with ⟨e, _⟩ | k
 ·have := (h.2 a ha b hb).2
  omega
 ·exact k
theorem low (h : Lat u) : ∀ m, m ≤ u.length → ∃ a, a < u.length ∧ ∀ b, b < m → rdN u a b = 1
  | 0, _ => ⟨0, h.1.pos, fun b hb => by omega⟩
  | m + 1, hm => by
    obtain ⟨a, ha, k⟩ := low h m (by omega)
    obtain ⟨c, _, hc⟩ := h.meet ha (show m < u.length by omega)
    refine ⟨c, hc.1, fun b hb => ?_⟩
    by_cases e : b = m
    · rw [e]; exact hc.2.2.1
    · exact h.1.trans hc.1 ha (by omega) hc.2.1 (k b (by omega))
theorem least (h : Lat u) : ∃ a : Nat, leastI u = a ∧ a < u.length ∧ IsLeast u a := by
 obtain ⟨a, ha, k⟩ := h.low u.length (Nat.le_refl _)
 exact ⟨a, leastI_of h.1 ha k, ha, k⟩
end Lat
theorem lat_of {u : List (List Int)} (h : Ord u) (hm : ∀ a, a < u.length → ∀ b, b < u.length → ∃ c, IsMeet u a b c) (hj : ∀ a, a < u.length → ∀ b, b < u.length → ∃ c, IsJoin u a b c) : Lat u := by
 refine ⟨h, fun a ha b hb => ⟨?_, ?_⟩⟩
 ·obtain ⟨c, hc⟩ := hm a ha b hb
  rw [meetI_of h hc]
  omega
 ·obtain ⟨c, hc⟩ := hj a ha b hb
  rw [joinI_of h hc]
  omega
def belowN (u : List (List Int)) (a : Nat) : Nat → Int
 | 0 => 0
 | m + 1 => belowN u a m + rdN u m a
def atomB (u : List (List Int)) (least : Int) (a : Nat) : Bool := decide (belowN u a u.length = 2 ∧ (a : Int) ≠ least)
def atomsL (u : List (List Int)) : List Int := if Ord u ∧ 0 ≤ leastI u then ((List.range u.length).filter (atomB u (leastI u))).map (fun (a : Nat) => (a : Int)) else []
theorem belowN_bound {u : List (List Int)} (h : Ord u) {a : Nat} (ha : a < u.length) : ∀ m, m ≤ u.length → 0 ≤ belowN u a m ∧ belowN u a m ≤ m
  | 0, _ => by simp [belowN]
  | m + 1, hm => by
    have := belowN_bound h ha m (by omega)
    have := h.bit (show m < u.length by omega) ha
    simp only [belowN]
    omega
def leastOfP (u : List (List Int)) : Int × Bool := if Ord u then (leastI u, decide (0 ≤ leastI u)) else (-1, false)
theorem leastOfP_no {u : List (List Int)} (h : ¬ (Ord u ∧ 0 ≤ leastI u)) : leastOfP u = (-1, false) := by
 unfold leastOfP
 by_cases k : Ord u
 ·rw [if_pos k]
  have : ¬ 0 ≤ leastI u := fun l => h ⟨k, l⟩
  rcases leastI_cases u with ⟨e, _⟩ | ⟨a, e, _⟩
  ·rw [e]; rfl
  ·omega
 ·rw [if_neg k]
end Go.Proofs.Cl

namespace Go.Proofs.Ytacifhahfamipaa.P
open Go.RowKit Go.Proofs.YtacifhahfamipaaW.PrintWords Go.Proofs.YtacifhahfamipaaW.PrintLast Go.Proofs.YtacifhahfamipaaW.PrintMore
set_option linter.unusedVariables false
set_option linter.unusedSimpArgs false
def errW : Option Int → Value
 | none => .nilIface
 | some c => .iface 0 (.int .i64 c)
theorem errW_none : errW none = .nilIface := rfl
theorem errW_some (c : Int) : errW (some c) = .iface 0 (.int .i64 c) := rfl

def rd_L1 (xs : List (List Int)) (i : Int) : (List Int) := xs.getD i.toNat ([] : List Int)
theorem at_L1 {w : World} {A : Option Addr} {n : Nat} {xs : List (List Int)} (h : Kd.C (Kd.slice 3 (Kd.int .i64)) w A n xs) (i : Int) (h0 : 0 ≤ i) (h1 : i < n) : ∃ ad A0 c0, A = some ad ∧ w.cell? (ad.add i.toNat) = some (.slice A0 (rd_L1 xs i).length c0) ∧ (rd_L1 xs i).length ≤ c0 ∧ (Kd.int .i64).C w A0 (rd_L1 xs i).length (rd_L1 xs i) := by
 obtain ⟨ad, c, e, _, hK, hc0⟩ := Kd.C_get h ([] : List Int) i h0 h1
 have hc : ∀ j u, c[j]? = some u → w.cell? (ad.add (i.toNat * 1 + j)) = some u := hc0
 obtain ⟨A0, c0, rfl, l0, g0⟩ := hK
 exact ⟨ad, A0, c0, e, by have hq := hc 0 _ rfl; rwa [Nat.mul_one, Nat.add_zero] at hq, l0, g0⟩

def rd_L3 (xs : List (List (List Int))) (i : Int) : (List (List Int)) := xs.getD i.toNat ([] : List (List Int))
theorem at_L3 {w : World} {A : Option Addr} {n : Nat} {xs : List (List (List Int))} (h : Kd.C (Kd.slice 25 (Kd.slice 3 (Kd.int .i64))) w A n xs) (i : Int) (h0 : 0 ≤ i) (h1 : i < n) : ∃ ad A0 c0, A = some ad ∧ w.cell? (ad.add i.toNat) = some (.slice A0 (rd_L3 xs i).length c0) ∧ (rd_L3 xs i).length ≤ c0 ∧ (Kd.slice 3 (Kd.int .i64)).C w A0 (rd_L3 xs i).length (rd_L3 xs i) := by
 obtain ⟨ad, c, e, _, hK, hc0⟩ := Kd.C_get h ([] : List (List Int)) i h0 h1
 have hc : ∀ j u, c[j]? = some u → w.cell? (ad.add (i.toNat * 1 + j)) = some u := hc0
 obtain ⟨A0, c0, rfl, l0, g0⟩ := hK
 exact ⟨ad, A0, c0, e, by have hq := hc 0 _ rfl; rwa [Nat.mul_one, Nat.add_zero] at hq, l0, g0⟩

structure S27 where
 f0 : (List (List Int))
 f1 : (List Int)
def z27 : S27 := ⟨([] : List (List Int)), ([] : List Int)⟩
def k27 : Kd S27 := Kd.iso (Kd.pair (Kd.slice 25 (Kd.slice 3 (Kd.int .i64))) (Kd.slice 3 (Kd.int .i64))) (fun x : S27 => (x.f0, x.f1))
theorem k27_open {w : World} {x : S27} {cs : List Value} (h : k27.K w x cs) : ∃ A0 c0 A1 c1, cs = [.slice A0 x.f0.length c0, .slice A1 x.f1.length c1] ∧ x.f0.length ≤ c0 ∧ (Kd.slice 3 (Kd.int .i64)).C w A0 x.f0.length x.f0 ∧ x.f1.length ≤ c1 ∧ (Kd.int .i64).C w A1 x.f1.length x.f1 := by
 obtain ⟨_, _, rfl, ⟨A0, c0, rfl, l0, g0⟩, ⟨A1, c1, rfl, l1, g1⟩⟩ := h
 exact ⟨A0, c0, A1, c1, rfl, l0, g0, l1, g1⟩
theorem k27_openM {w : World} {base : Nat} {ok : Nat → Prop} {x : S27} {cs : List Value} (h : k27.M w base ok x cs) : ∃ v0 v1, cs = [v0, v1] ∧ (Kd.slice 3 (Kd.int .i64)).R 25 w base ok v0 x.f0 ∧ (Kd.int .i64).R 3 w base ok v1 x.f1 := by
 obtain ⟨_, _, rfl, ⟨v0, rfl, g0⟩, ⟨v1, rfl, g1⟩⟩ := h
 exact ⟨v0, v1, rfl, g0, g1⟩
theorem k27_mk (w : World) (x : S27) {A0 : Option Addr} {c0 : Nat} (l0 : x.f0.length ≤ c0) (g0 : (Kd.slice 3 (Kd.int .i64)).C w A0 x.f0.length x.f0) {A1 : Option Addr} {c1 : Nat} (l1 : x.f1.length ≤ c1) (g1 : (Kd.int .i64).C w A1 x.f1.length x.f1) : k27.K w x [.slice A0 x.f0.length c0, .slice A1 x.f1.length c1] := ⟨[.slice A0 x.f0.length c0], [.slice A1 x.f1.length c1], rfl, ⟨A0, c0, rfl, l0, g0⟩, ⟨A1, c1, rfl, l1, g1⟩⟩
theorem k27_mkM (w : World) (base : Nat) (ok : Nat → Prop) (x : S27) {v0 : Value} (g0 : (Kd.slice 3 (Kd.int .i64)).R 25 w base ok v0 x.f0) {v1 : Value} (g1 : (Kd.int .i64).R 3 w base ok v1 x.f1) : k27.M w base ok x [v0, v1] := ⟨[v0], [v1], rfl, ⟨v0, rfl, g0⟩, ⟨v1, rfl, g1⟩⟩
theorem k27_openF {W : World} {ok : Nat → Prop} {x : S27} {cs : List Value} (h : Kd.FK k27 W ok x cs) : ∃ A0 c0 A1 c1, cs = [.slice A0 x.f0.length c0, .slice A1 x.f1.length c1] ∧ x.f0.length ≤ c0 ∧ Kd.F (Kd.slice 3 (Kd.int .i64)) W ok A0 x.f0.length x.f0 ∧ x.f1.length ≤ c1 ∧ Kd.F (Kd.int .i64) W ok A1 x.f1.length x.f1 := by
 obtain ⟨A0, c0, A1, c1, rfl, l0, _, l1, _⟩ := k27_open (Kd.FK_now h)
 exact ⟨A0, c0, A1, c1, rfl, l0, (fun W' hW => by obtain ⟨A0_, c0_, A1_, c1_, he, l0_, g0_, l1_, g1_⟩ := k27_open (h W' hW); injection (Option.some.inj (show some (Value.slice A0 x.f0.length c0) = some (Value.slice A0_ x.f0.length c0_) from congrArg (fun l => l[0]?) he)) with ha_ _ _; rw [ha_]; exact g0_), l1, (fun W' hW => by obtain ⟨A0_, c0_, A1_, c1_, he, l0_, g0_, l1_, g1_⟩ := k27_open (h W' hW); injection (Option.some.inj (show some (Value.slice A1 x.f1.length c1) = some (Value.slice A1_ x.f1.length c1_) from congrArg (fun l => l[1]?) he)) with ha_ _ _; rw [ha_]; exact g1_)⟩
theorem k27_mkF (W : World) (ok : Nat → Prop) (x : S27) {A0 : Option Addr} {c0 : Nat} (l0 : x.f0.length ≤ c0) (g0 : Kd.F (Kd.slice 3 (Kd.int .i64)) W ok A0 x.f0.length x.f0) {A1 : Option Addr} {c1 : Nat} (l1 : x.f1.length ≤ c1) (g1 : Kd.F (Kd.int .i64) W ok A1 x.f1.length x.f1) : Kd.FK k27 W ok x [.slice A0 x.f0.length c0, .slice A1 x.f1.length c1] := fun W2 hW => k27_mk W2 x l0 (g0 W2 hW) l1 (g1 W2 hW)
def rd_T27 (xs : List S27) (i : Int) : S27 := xs.getD i.toNat z27
theorem at_T27 {w : World} {A : Option Addr} {n : Nat} {xs : List S27} (h : Kd.C k27 w A n xs) (i : Int) (h0 : 0 ≤ i) (h1 : i < n) : ∃ ad A0 c0 A1 c1, A = some ad ∧ w.cell? (ad.add (i.toNat * 2)) = some (.slice A0 (rd_T27 xs i).f0.length c0) ∧ w.cell? ⟨(ad.add (i.toNat * 2)).block, (ad.add (i.toNat * 2)).off + 1, none⟩ = some (.slice A1 (rd_T27 xs i).f1.length c1) ∧ (rd_T27 xs i).f0.length ≤ c0 ∧ (Kd.slice 3 (Kd.int .i64)).C w A0 (rd_T27 xs i).f0.length (rd_T27 xs i).f0 ∧ (rd_T27 xs i).f1.length ≤ c1 ∧ (Kd.int .i64).C w A1 (rd_T27 xs i).f1.length (rd_T27 xs i).f1 := by
 obtain ⟨ad, c, e, _, hK, hc0⟩ := Kd.C_get h z27 i h0 h1
 have hc : ∀ j u, c[j]? = some u → w.cell? (ad.add (i.toNat * 2 + j)) = some u := hc0
 obtain ⟨A0, c0, A1, c1, rfl, l0, g0, l1, g1⟩ := k27_open hK
 exact ⟨ad, A0, c0, A1, c1, e, hc 0 _ rfl, by rw [← add_field _ _ 1 (by omega)]; exact hc 1 _ rfl, l0, g0, l1, g1⟩
end Go.Proofs.Ytacifhahfamipaa.P

namespace Go.Proofs.Ytacifhahfamipaa.P
open Go.RowKit Go.Proofs.YtacifhahfamipaaW.PrintWords Go.Proofs.YtacifhahfamipaaW.PrintLast Go.Proofs.YtacifhahfamipaaW.PrintMore Go.Proofs.Cl
set_option linter.unusedVariables false
def mrow (u : List (List Int)) (a : Nat) : List Int := (List.range u.length).map fun b => meetI u a b
def jrow (u : List (List Int)) (a : Nat) : List Int := (List.range u.length).map fun b => joinI u a b
def mtab (u : List (List Int)) : List (List Int) := (List.range u.length).map (mrow u)
def jtab (u : List (List Int)) : List (List Int) := (List.range u.length).map (jrow u)
def OppAt (u : List (List Int)) (nt : List Int) (c : Nat) : Prop := (0 ≤ rd nt c ∧ rd nt c < u.length) ∧ rd nt (rd nt c) = c ∧ meetI u c (rd nt c).toNat = leastI u
def OppTo (u : List (List Int)) (nt : List Int) (c d : Nat) : Prop := rdN u c d = 1 → rdN u (rd nt d).toNat (rd nt c).toNat = 1
def OL (u : List (List Int)) (nt : List Int) : Prop := Lat u ∧ nt.length = u.length ∧ (∀ c, c < u.length → OppAt u nt c) ∧ (∀ c, c < u.length → ∀ d, d < u.length → OppTo u nt c d)
instance (u : List (List Int)) (nt : List Int) (c : Nat) : Decidable (OppAt u nt c) := by unfold OppAt; infer_instance
instance (u : List (List Int)) (nt : List Int) (c d : Nat) : Decidable (OppTo u nt c d) := by unfold OppTo; infer_instance
instance (u : List (List Int)) (nt : List Int) : Decidable (OL u nt) := by unfold OL; infer_instance
def okAll (n : Nat) (xs : List Int) : Bool := xs.all fun a => decide (0 ≤ a ∧ a < n)
abbrev mt (u : List (List Int)) (a b : Int) : Int := meetI u a.toNat b.toNat
abbrev jn (u : List (List Int)) (a b : Int) : Int := joinI u a.toNat b.toNat
def logicF (u : List (List Int)) (nt : List Int) : Bool := decide (OL u nt)
def andF (u : List (List Int)) (nt : List Int) (a b : Int) : Int := if OL u nt ∧ okAll u.length [a, b] = true then mt u a b else -1
def withB (u : List (List Int)) (nt : List Int) (a b : Int) : Prop := jn u (mt u a b) (mt u a (rd nt b)) = a
instance (u : List (List Int)) (nt : List Int) (a b : Int) : Decidable (withB u nt a b) := by unfold withB; infer_instance
def keepsF (u : List (List Int)) (nt : List Int) : Bool := decide (OL u nt ∧ ∀ a, a < u.length → ∀ b, b < u.length → rdN u a b = 0 ∨ jn u a (mt u b (rd nt a)) = b)
def brkB (u : List (List Int)) (nt : List Int) (a b : Nat) : Bool := decide (a ≠ b ∧ rdN u a b = 1 ∧ mt u b (rd nt a) = leastI u)
def brkA (u : List (List Int)) (nt : List Int) (a : Nat) : Bool := decide (0 ≤ firstF u.length (brkB u nt a) 0)
def brkP (u : List (List Int)) (nt : List Int) : Int := firstF u.length (brkA u nt) 0
def breakF (u : List (List Int)) (nt : List Int) : Int × Int × Bool :=
 if OL u nt ∧ 0 ≤ brkP u nt then (brkP u nt, firstF u.length (brkB u nt (brkP u nt).toNat) 0, true) else (-1, -1, false)
def mkN (p : Nat → Bool) : Nat → Nat
 | 0 => 0
 | n + 1 => mkN p n + (if p n = true then 2 ^ n else 0)
theorem mkN_lt (p : Nat → Bool) : ∀ n, mkN p n < 2 ^ n
  | 0 => by simp [mkN]
  | n + 1 => by
    have := mkN_lt p n
    rw [Nat.pow_succ]
    unfold mkN
    split <;> omega
theorem mkN_bit (p : Nat → Bool) : ∀ n a, (mkN p n).testBit a = (decide (a < n) && p a)
  | 0, a => by simp [mkN]
  | n + 1, a => by
    have ih := mkN_bit p n
    have hlt := mkN_lt p n
    unfold mkN
    by_cases hp : p n = true
    · rw [if_pos hp, Nat.add_comm]
      by_cases e : a = n
      · subst e
        rw [Nat.testBit_two_pow_add_eq, Nat.testBit_lt_two_pow hlt, hp]
        simp
      · by_cases l : a < n
        · rw [Nat.testBit_two_pow_add_gt l, ih a]
          simp [l, show a < n + 1 by omega]
        · have : 2 ^ n + mkN p n < 2 ^ a := Nat.lt_of_lt_of_le (by rw [Nat.pow_succ]; omega) (Nat.pow_le_pow_right (by decide) (show n + 1 ≤ a by omega))
          rw [Nat.testBit_lt_two_pow this]
          simp [show ¬ a < n + 1 by omega]
    · rw [if_neg hp, Nat.add_zero, ih a]
      by_cases e : a = n
      · subst e
        simp at hp
        simp [hp]
      · have : decide (a < n) = decide (a < n + 1) := by rw [decide_eq_decide]; omega
        rw [this]
theorem set_ext {n x y : Nat} (hx : x < 2 ^ n) (hy : y < 2 ^ n) (h : ∀ a, a < n → x.testBit a = y.testBit a) : x = y := by
 apply Nat.eq_of_testBit_eq
 intro a
 by_cases l : a < n
 ·exact h a l
 ·have hp : 2 ^ n ≤ 2 ^ a := Nat.pow_le_pow_right (by decide) (by omega)
  rw [Nat.testBit_lt_two_pow (Nat.lt_of_lt_of_le hx hp), Nat.testBit_lt_two_pow (Nat.lt_of_lt_of_le hy hp)]
def Cls (u : List (List Int)) (nt : List Int) (S : Nat) : Prop :=
 ∀ a, a < u.length → S.testBit a = true → S.testBit (rd nt a).toNat = true ∧ ∀ b, b < u.length → S.testBit b = true → S.testBit (mt u a b).toNat = true ∧ S.testBit (jn u a b).toNat = true
instance (u : List (List Int)) (nt : List Int) (S : Nat) : Decidable (Cls u nt S) := by unfold Cls; infer_instance
def SubS (n S T : Nat) : Prop := ∀ a, a < n → S.testBit a = true → T.testBit a = true
instance (n S T : Nat) : Decidable (SubS n S T) := by unfold SubS; infer_instance
def closN (u : List (List Int)) (nt : List Int) (S : Nat) : Nat :=
 mkN (fun a => decide (∀ T, T < 2 ^ u.length → Cls u nt T → SubS u.length S T → T.testBit a = true)) u.length
def isSetB (n : Nat) (s : Int) : Bool := decide (0 < s ∧ s < 2 ^ n)
def subF (u : List (List Int)) (nt : List Int) (s : Int) : Bool := decide (OL u nt ∧ isSetB u.length s = true ∧ Cls u nt s.toNat)
def madeByF (u : List (List Int)) (nt : List Int) (s : Int) : Int := if OL u nt ∧ isSetB u.length s = true then (closN u nt s.toNat : Int) else -1
def AgreeS (u : List (List Int)) (nt : List Int) (S : Nat) : Prop := ∀ a, a < u.length → S.testBit a = true → ∀ b, b < u.length → S.testBit b = true → withB u nt a b ∧ withB u nt b a
instance (u : List (List Int)) (nt : List Int) (a b : Int) : Decidable (withB u nt a b) := by unfold withB; infer_instance
instance (u : List (List Int)) (nt : List Int) (S : Nat) : Decidable (AgreeS u nt S) := by unfold AgreeS; infer_instance
def splitB (u : List (List Int)) (a b c : Int) : Prop := mt u a (jn u b c) = jn u (mt u a b) (mt u a c)
instance (u : List (List Int)) (a b c : Int) : Decidable (splitB u a b c) := by unfold splitB; infer_instance
def castL (l : List Nat) : List Int := l.map fun (a : Nat) => (a : Int)
def sixU : List (List Int) := [[1, 1, 1, 1, 1, 1], [0, 1, 1, 0, 0, 1], [0, 0, 1, 0, 0, 1], [0, 0, 0, 1, 1, 1], [0, 0, 0, 0, 1, 1], [0, 0, 0, 0, 0, 1]]
def sixN : List Int := [5, 4, 3, 2, 1, 0]
def madeU (n : Nat) (U : Nat → Nat → Bool) : List (List Int) := (List.range n).map fun a => (List.range n).map fun b => if U a b = true then 1 else 0
def madeN (n : Nat) (N : Nat → Int) : List Int := (List.range n).map N
def placeN (l : List Int) (x : Int) : Nat := l.idxOf x
def renB (n : Nat) (o : List Int) : Prop := o.length = n ∧ okAll n o = true ∧ o.Nodup
instance (n : Nat) (o : List Int) : Decidable (renB n o) := by unfold renB; infer_instance
def onU (u : List (List Int)) (o : List Int) : List (List Int) := madeU o.length (fun i k => decide (rdN u (o.getD i 0).toNat (o.getD k 0).toNat = 1))
def onN (nt : List Int) (o : List Int) : List Int := madeN o.length (fun i => (placeN o (rd nt (o.getD i 0)) : Int))
def renF (u : List (List Int)) (nt : List Int) (o : List Int) : List (List Int) × List Int := if OL u nt ∧ renB u.length o then (onU u o, onN nt o) else ([], [])
def bitsL (n S : Nat) : List Int := castL ((List.range n).filter fun a => S.testBit a)
def partF (u : List (List Int)) (nt : List Int) (s : Int) : List (List Int) × List Int := if subF u nt s = true then (onU u (bitsL u.length s.toNat), onN nt (bitsL u.length s.toNat)) else ([], [])
end Go.Proofs.Ytacifhahfamipaa.P

namespace Go.Proofs.Ytacifhahfamipaa.P
open Go.RowKit Go.Proofs.YtacifhahfamipaaW.PrintWords Go.Proofs.YtacifhahfamipaaW.PrintLast Go.Proofs.YtacifhahfamipaaW.PrintMore
set_option linter.unusedVariables false
set_option linter.unusedSimpArgs false
open Go.Proofs.Cl
def IsS80 (w0 W : World) (g : Nat) (f0 : List Int) (f1 : Int) : Prop := ∃ A0 c0, W.heap[g]? = some (.cells #[.slice A0 f0.length c0, .int .i64 f1] 80 (0, 0)) ∧ w0.heap.size ≤ g ∧ Kd.C (Kd.int .u8) w0 A0 f0.length f0
def spec_l20Open.f (l0 : List Int) : Option (List Int × Int) := if (l0.length : Int) > 2000 then (if 2000 ≤ (l0.length : Int) then (some (l0.take 2000, 0)) else (none)) else (some (l0, 0))
def spec_l20Rd_pick.j0 : Nat → Int → Bool → List Int → Int → Option (Int × Int)
 | 0, _, _, _, _ => none
 | k + 1, x1, x24, x1000, x1001 => if x24 = true then (some (0, x1001)) else (if (wrap64 (x1001 - 1)) < (x1000.length : Int) then (if 0 ≤ (wrap64 (x1001 - 1)) then (if x1 = 0 then (none) else (some (Int.tmod (wrap64 (rd x1000 (wrap64 (x1001 - 1)))) x1, x1001))) else (none)) else (if (x1000.length : Int) = 0 then (none) else (if 0 ≤ (Int.tmod (wrap64 (x1001 - 1)) (x1000.length : Int)) then (if (Int.tmod (wrap64 (x1001 - 1)) (x1000.length : Int)) < (x1000.length : Int) then (if 0 ≤ (Int.tmod (wrap64 ((wrap64 ((wrap64 (x1001 - 1)) * 7)) + 3)) (x1000.length : Int)) then (if (Int.tmod (wrap64 ((wrap64 ((wrap64 (x1001 - 1)) * 7)) + 3)) (x1000.length : Int)) < (x1000.length : Int) then (if x1 = 0 then (none) else (some (Int.tmod (Go.bits .xor .i64 (wrap64 ((wrap64 ((wrap64 ((wrap64 ((wrap64 (rd x1000 (Int.tmod (wrap64 (x1001 - 1)) (x1000.length : Int)))) * 131)) + (wrap64 ((wrap64 (rd x1000 (Int.tmod (wrap64 ((wrap64 ((wrap64 (x1001 - 1)) * 7)) + 3)) (x1000.length : Int)))) * 1117)))) + (wrap64 ((wrap64 (x1001 - 1)) * 29)))) + (wrap64 ((wrap64 (Int.tdiv (wrap64 (x1001 - 1)) (x1000.length : Int))) * 53)))) (wrap64 (Int.tdiv (wrap64 ((wrap64 ((wrap64 ((wrap64 ((wrap64 (rd x1000 (Int.tmod (wrap64 (x1001 - 1)) (x1000.length : Int)))) * 131)) + (wrap64 ((wrap64 (rd x1000 (Int.tmod (wrap64 ((wrap64 ((wrap64 (x1001 - 1)) * 7)) + 3)) (x1000.length : Int)))) * 1117)))) + (wrap64 ((wrap64 (x1001 - 1)) * 29)))) + (wrap64 ((wrap64 (Int.tdiv (wrap64 (x1001 - 1)) (x1000.length : Int))) * 53)))) 64))) x1, x1001))) else (none)) else (none)) else (none)) else (none))))
def spec_l20Rd_pick.f (k : Nat) (s0_0 : List Int) (s0_1 : Int) (a1 : Int) : Option (Int × Int) := if a1 < 1 then (spec_l20Rd_pick.j0 k a1 true s0_0 (wrap64 (s0_1 + 1))) else (spec_l20Rd_pick.j0 k a1 ((s0_0.length : Int) == 0) s0_0 (wrap64 (s0_1 + 1)))
def spec_RingOf.f (a0 : Int) : Option ((List (List Int)) × List Int × Bool) := if a0 = 6 then (some ((([(([1, 1, 1, 1, 1, 1] : List Int)), (([0, 1, 1, 0, 0, 1] : List Int)), (([0, 0, 1, 0, 0, 1] : List Int)), (([0, 0, 0, 1, 1, 1] : List Int)), (([0, 0, 0, 0, 1, 1] : List Int)), (([0, 0, 0, 0, 0, 1] : List Int))] : List (List Int))), (([5, 4, 3, 2, 1, 0] : List Int)), true)) else (some (([] : List (List Int)), ([] : List Int), false))
def laws_sameInts.l0 : Nat → List Int → List Int → Int → Option (Bool)
 | 0, _, _, _ => none
 | k + 1, x0, x1, x5 => if x5 < (x0.length : Int) then (if 0 ≤ x5 then (if x5 < (x1.length : Int) then (if (rd x0 x5) = (rd x1 x5) then (laws_sameInts.l0 k x0 x1 (wrap64 (x5 + 1))) else (some false)) else (none)) else (none)) else (some true)
def laws_sameInts.f (k : Nat) (l0 : List Int) (l1 : List Int) : Option (Bool) := if (l0.length : Int) = (l1.length : Int) then (laws_sameInts.l0 k l0 l1 0) else (some false)
def laws_sameRows.l0 : Nat → List (List Int) → List (List Int) → Int → Option (Bool)
 | 0, _, _, _ => none
 | k + 1, x0, x1, x5 => if x5 < (x0.length : Int) then (if 0 ≤ x5 then (if x5 < (x1.length : Int) then ((laws_sameInts.f k (rd_L1 x0 x5) (rd_L1 x1 x5)).bind fun t141 => (if t141 = true then (laws_sameRows.l0 k x0 x1 (wrap64 (x5 + 1))) else (some false))) else (none)) else (none)) else (some true)
def laws_sameRows.f (k : Nat) (l0 : List (List Int)) (l1 : List (List Int)) : Option (Bool) := if (l0.length : Int) = (l1.length : Int) then (laws_sameRows.l0 k l0 l1 0) else (some false)
def laws_sameLogic.f (k : Nat) (l0_0 : List (List Int)) (l0_1 : List Int) (l1_0 : List (List Int)) (l1_1 : List Int) : Option (Bool) := (laws_sameRows.f k l0_0 l1_0).bind fun t144 => (if t144 = true then ((laws_sameInts.f k l0_1 l1_1).bind fun t145 => (some t145)) else (some false))
mutual
def impl_OrderOk.j0 : Nat → List (List Int) → Int → Bool → Option (Bool)
 | 0, _, _, _ => none
 | k + 1, x0, x3, x18 => if x18 = true then (some false) else (impl_OrderOk.l0 k x0 x3 x0 (x0.length : Int) 0)
def impl_OrderOk.l0 : Nat → List (List Int) → Int → List (List Int) → Int → Int → Option (Bool)
 | 0, _, _, _, _, _ => none
 | k + 1, x0, x3, x19, x20, x21 => if x21 < x20 then (if 0 ≤ x21 then (if x21 < (x19.length : Int) then (if ((rd_L1 x19 x21).length : Int) = x3 then (if x21 < ((rd_L1 x19 x21).length : Int) then (impl_OrderOk.j2 k x0 x3 x21 (rd_L1 x19 x21) x19 x20 x21 ((rd (rd_L1 x19 x21) x21) != 1)) else (none)) else (impl_OrderOk.j2 k x0 x3 x21 (rd_L1 x19 x21) x19 x20 x21 true)) else (none)) else (none)) else (impl_OrderOk.l2 k x0 x3 x3 0)
def impl_OrderOk.j2 : Nat → List (List Int) → Int → Int → List Int → List (List Int) → Int → Int → Bool → Option (Bool)
 | 0, _, _, _, _, _, _, _, _ => none
 | k + 1, x0, x3, x4, x5, x19, x20, x21, x36 => if x36 = true then (some false) else (impl_OrderOk.l1 k x0 x3 x4 x19 x20 x21 x5 (x5.length : Int) 0)
def impl_OrderOk.l1 : Nat → List (List Int) → Int → Int → List (List Int) → Int → Int → List Int → Int → Int → Option (Bool)
 | 0, _, _, _, _, _, _, _, _, _ => none
 | k + 1, x0, x3, x4, x19, x20, x21, x37, x38, x39 => if x39 < x38 then (if 0 ≤ x39 then (if x39 < (x37.length : Int) then (if (rd x37 x39) = 0 then (impl_OrderOk.j4 k x0 x3 x4 x39 (rd x37 x39) x19 x20 x21 x37 x38 x39 false) else (impl_OrderOk.j4 k x0 x3 x4 x39 (rd x37 x39) x19 x20 x21 x37 x38 x39 ((rd x37 x39) != 1))) else (none)) else (none)) else (impl_OrderOk.l0 k x0 x3 x19 x20 (wrap64 (x21 + 1)))
def impl_OrderOk.j4 : Nat → List (List Int) → Int → Int → Int → Int → List (List Int) → Int → Int → List Int → Int → Int → Bool → Option (Bool)
 | 0, _, _, _, _, _, _, _, _, _, _, _, _ => none
 | k + 1, x0, x3, x4, x6, x7, x19, x20, x21, x37, x38, x39, x49 => if x49 = true then (some false) else (if 0 ≤ x6 then (if x6 < (x0.length : Int) then (if ((rd_L1 x0 x6).length : Int) = x3 then (if x7 = 1 then (if x4 = x6 then (impl_OrderOk.l1 k x0 x3 x4 x19 x20 x21 x37 x38 (wrap64 (x39 + 1))) else (if 0 ≤ x4 then (if x4 < ((rd_L1 x0 x6).length : Int) then (if (rd (rd_L1 x0 x6) x4) = 1 then (some false) else (impl_OrderOk.l1 k x0 x3 x4 x19 x20 x21 x37 x38 (wrap64 (x39 + 1)))) else (none)) else (none))) else (impl_OrderOk.l1 k x0 x3 x4 x19 x20 x21 x37 x38 (wrap64 (x39 + 1)))) else (some false)) else (none)) else (none))
def impl_OrderOk.l2 : Nat → List (List Int) → Int → Int → Int → Option (Bool)
 | 0, _, _, _, _ => none
 | k + 1, x0, x3, x78, x79 => if x79 < x78 then (impl_OrderOk.l3 k x0 x3 x79 x78 x79 x3 0) else (some true)
def impl_OrderOk.l3 : Nat → List (List Int) → Int → Int → Int → Int → Int → Int → Option (Bool)
 | 0, _, _, _, _, _, _, _ => none
 | k + 1, x0, x3, x8, x78, x79, x82, x83 => if x83 < x82 then (impl_OrderOk.l4 k x0 x3 x8 x83 x78 x79 x82 x83 x3 0) else (impl_OrderOk.l2 k x0 x3 x78 (wrap64 (x79 + 1)))
def impl_OrderOk.l4 : Nat → List (List Int) → Int → Int → Int → Int → Int → Int → Int → Int → Int → Option (Bool)
 | 0, _, _, _, _, _, _, _, _, _, _ => none
 | k + 1, x0, x3, x8, x9, x78, x79, x82, x83, x86, x87 => if x87 < x86 then (if 0 ≤ x8 then (if x8 < (x0.length : Int) then (if 0 ≤ x9 then (if x9 < ((rd_L1 x0 x8).length : Int) then (if (rd (rd_L1 x0 x8) x9) = 1 then (if x9 < (x0.length : Int) then (if 0 ≤ x87 then (if x87 < ((rd_L1 x0 x9).length : Int) then (if (rd (rd_L1 x0 x9) x87) = 1 then (if x87 < ((rd_L1 x0 x8).length : Int) then (if (rd (rd_L1 x0 x8) x87) = 1 then (impl_OrderOk.l4 k x0 x3 x8 x9 x78 x79 x82 x83 x86 (wrap64 (x87 + 1))) else (some false)) else (none)) else (impl_OrderOk.l4 k x0 x3 x8 x9 x78 x79 x82 x83 x86 (wrap64 (x87 + 1)))) else (none)) else (none)) else (none)) else (impl_OrderOk.l4 k x0 x3 x8 x9 x78 x79 x82 x83 x86 (wrap64 (x87 + 1)))) else (none)) else (none)) else (none)) else (none)) else (impl_OrderOk.l3 k x0 x3 x8 x78 x79 x82 (wrap64 (x83 + 1)))
end
def impl_OrderOk.f (k : Nat) (l0 : List (List Int)) : Option (Bool) := if (l0.length : Int) < 1 then (impl_OrderOk.j0 k l0 (l0.length : Int) true) else (impl_OrderOk.j0 k l0 (l0.length : Int) (decide ((l0.length : Int) > 12)))
def laws_alive.f (k : Nat)  : Option (Bool) := (impl_OrderOk.f k (([(([1] : List Int))] : List (List Int)))).bind fun t166 => (if t166 = true then ((impl_OrderOk.f k (([(([0] : List Int))] : List (List Int)))).bind fun t173 => (some (!t173))) else (some false))
mutual
def impl_LeastOf.l0 : Nat → List (List Int) → Int → Int → Option (Int × Bool)
 | 0, _, _, _ => none
 | k + 1, x12, x13, x14 => if x14 < x13 then (if 0 ≤ x14 then (if x14 < (x12.length : Int) then (impl_LeastOf.l1 k x14 true x12 x13 x14 (rd_L1 x12 x14) ((rd_L1 x12 x14).length : Int) 0) else (none)) else (none)) else (some ((-1), false))
def impl_LeastOf.l1 : Nat → Int → Bool → List (List Int) → Int → Int → List Int → Int → Int → Option (Int × Bool)
 | 0, _, _, _, _, _, _, _, _ => none
 | k + 1, x4, x6, x12, x13, x14, x19, x20, x21 => if x21 < x20 then (if 0 ≤ x21 then (if x21 < (x19.length : Int) then (if x6 = true then (impl_LeastOf.l1 k x4 ((rd x19 x21) == 1) x12 x13 x14 x19 x20 (wrap64 (x21 + 1))) else (impl_LeastOf.l1 k x4 false x12 x13 x14 x19 x20 (wrap64 (x21 + 1)))) else (none)) else (none)) else (if x6 = true then (some (x4, true)) else (impl_LeastOf.l0 k x12 x13 (wrap64 (x14 + 1))))
end
def impl_LeastOf.f (k : Nat) (l0 : List (List Int)) : Option (Int × Bool) := (impl_OrderOk.f k l0).bind fun t174 => (if t174 = true then (impl_LeastOf.l0 k l0 (l0.length : Int) 0) else (some ((-1), false)))
mutual
def impl_turned.l0 : Nat → List (List Int) → List (List Int) → Int → Int → Option ((List (List Int)))
 | 0, _, _, _, _ => none
 | k + 1, x0, x3, x10, x11 => if x11 < x10 then (if 0 ≤ (x0.length : Int) then (if ((x0.length : Int) : Int).toNat ≤ 35184372088832 then (if 0 ≤ x11 then (if x11 < (x3.length : Int) then (impl_turned.l1 k x0 (x3.set (x11 : Int).toNat (List.replicate ((x0.length : Int) : Int).toNat 0)) x11 x10 x11 (x0.length : Int) 0) else (none)) else (none)) else (none)) else (none)) else (some x3)
def impl_turned.l1 : Nat → List (List Int) → List (List Int) → Int → Int → Int → Int → Int → Option ((List (List Int)))
 | 0, _, _, _, _, _, _, _ => none
 | k + 1, x0, x3, x4, x10, x11, x21, x22 => if x22 < x21 then (if 0 ≤ x4 then (if x4 < (x3.length : Int) then (if 0 ≤ x22 then (if x22 < (x0.length : Int) then (if x4 < ((rd_L1 x0 x22).length : Int) then (if x22 < ((rd_L1 x3 x4).length : Int) then (impl_turned.l1 k x0 (x3.set (x4 : Int).toNat ((rd_L1 x3 x4).set (x22 : Int).toNat (rd (rd_L1 x0 x22) x4))) x4 x10 x11 x21 (wrap64 (x22 + 1))) else (none)) else (none)) else (none)) else (none)) else (none)) else (none)) else (impl_turned.l0 k x0 x3 x10 (wrap64 (x11 + 1)))
end
def impl_turned.f (k : Nat) (l0 : List (List Int)) : Option ((List (List Int))) := if 0 ≤ (l0.length : Int) then (if ((l0.length : Int) : Int).toNat ≤ 11728124029610 then (impl_turned.l0 k l0 (List.replicate ((l0.length : Int) : Int).toNat []) (l0.length : Int) 0) else (none)) else (none)
mutual
def impl_meet.l0 : Nat → List (List Int) → Int → Int → Int → Int → Option (Int)
 | 0, _, _, _, _, _ => none
 | k + 1, x0, x1, x2, x11, x12 => if x12 < x11 then (if 0 ≤ x12 then (if x12 < (x0.length : Int) then (if 0 ≤ x1 then (if x1 < ((rd_L1 x0 x12).length : Int) then (if (rd (rd_L1 x0 x12) x1) = 0 then (impl_meet.j1 k x0 x1 x2 x12 x11 x12 true) else (if 0 ≤ x2 then (if x2 < ((rd_L1 x0 x12).length : Int) then (impl_meet.j1 k x0 x1 x2 x12 x11 x12 ((rd (rd_L1 x0 x12) x2) == 0)) else (none)) else (none))) else (none)) else (none)) else (none)) else (none)) else (some (-1))
def impl_meet.j1 : Nat → List (List Int) → Int → Int → Int → Int → Int → Bool → Option (Int)
 | 0, _, _, _, _, _, _, _ => none
 | k + 1, x0, x1, x2, x7, x11, x12, x32 => if x32 = true then (impl_meet.l0 k x0 x1 x2 x11 (wrap64 (x12 + 1))) else (impl_meet.l1 k x0 x1 x2 x7 true x11 x12 (x0.length : Int) 0)
def impl_meet.l1 : Nat → List (List Int) → Int → Int → Int → Bool → Int → Int → Int → Int → Option (Int)
 | 0, _, _, _, _, _, _, _, _, _ => none
 | k + 1, x0, x1, x2, x7, x8, x11, x12, x34, x35 => if x35 < x34 then (if x8 = true then (if 0 ≤ x35 then (if x35 < (x0.length : Int) then (if 0 ≤ x1 then (if x1 < ((rd_L1 x0 x35).length : Int) then (if (rd (rd_L1 x0 x35) x1) = 0 then (impl_meet.l1 k x0 x1 x2 x7 true x11 x12 x34 (wrap64 (x35 + 1))) else (if 0 ≤ x2 then (if x2 < ((rd_L1 x0 x35).length : Int) then (if (rd (rd_L1 x0 x35) x2) = 0 then (impl_meet.l1 k x0 x1 x2 x7 true x11 x12 x34 (wrap64 (x35 + 1))) else (if 0 ≤ x7 then (if x7 < ((rd_L1 x0 x35).length : Int) then (impl_meet.l1 k x0 x1 x2 x7 ((rd (rd_L1 x0 x35) x7) == 1) x11 x12 x34 (wrap64 (x35 + 1))) else (none)) else (none))) else (none)) else (none))) else (none)) else (none)) else (none)) else (none)) else (impl_meet.l1 k x0 x1 x2 x7 false x11 x12 x34 (wrap64 (x35 + 1)))) else (if x8 = true then (some x7) else (impl_meet.l0 k x0 x1 x2 x11 (wrap64 (x12 + 1))))
end
def impl_meet.f (k : Nat) (l0 : List (List Int)) (a1 : Int) (a2 : Int) : Option (Int) := impl_meet.l0 k l0 a1 a2 (l0.length : Int) 0
mutual
def impl_LatticeOk.l0 : Nat → List (List Int) → List (List Int) → Int → Int → Option (Bool)
 | 0, _, _, _, _ => none
 | k + 1, x0, x3, x12, x13 => if x13 < x12 then (impl_LatticeOk.l1 k x0 x3 x13 x12 x13 (x0.length : Int) 0) else (some true)
def impl_LatticeOk.l1 : Nat → List (List Int) → List (List Int) → Int → Int → Int → Int → Int → Option (Bool)
 | 0, _, _, _, _, _, _, _ => none
 | k + 1, x0, x3, x4, x12, x13, x17, x18 => if x18 < x17 then ((impl_meet.f k x0 x4 x18).bind fun t204 => (if t204 < 0 then (some false) else ((impl_meet.f k x3 x4 x18).bind fun t205 => (if t205 < 0 then (some false) else (impl_LatticeOk.l1 k x0 x3 x4 x12 x13 x17 (wrap64 (x18 + 1))))))) else (impl_LatticeOk.l0 k x0 x3 x12 (wrap64 (x13 + 1)))
end
def impl_LatticeOk.f (k : Nat) (l0 : List (List Int)) : Option (Bool) := (impl_OrderOk.f k l0).bind fun t200 => (if t200 = true then ((impl_turned.f k l0).bind fun t201 => (impl_LatticeOk.l0 k l0 t201 (l0.length : Int) 0)) else (some false))
def impl_isAnswer.f (l0 : List (List Int)) (a1 : Int) : Option (Bool) := if a1 ≥ 0 then (some (decide (a1 < (l0.length : Int)))) else (some false)
def impl_LogicOk.f (l0_0 : List (List Int)) (l0_1 : List Int) : Option (Bool) := some (logicF l0_0 l0_1)
mutual
def impl_AtomsOf.l0 : Nat → List (List Int) → Int → List Int → Int → Int → Option (List Int)
 | 0, _, _, _, _, _ => none
 | k + 1, x0, x3, x5, x18, x19 => if x19 < x18 then (impl_AtomsOf.l1 k x0 x3 x5 x19 0 x18 x19 (x0.length : Int) 0) else (some x5)
def impl_AtomsOf.l1 : Nat → List (List Int) → Int → List Int → Int → Int → Int → Int → Int → Int → Option (List Int)
 | 0, _, _, _, _, _, _, _, _, _ => none
 | k + 1, x0, x3, x5, x6, x7, x18, x19, x23, x24 => if x24 < x23 then (if 0 ≤ x24 then (if x24 < (x0.length : Int) then (if 0 ≤ x6 then (if x6 < ((rd_L1 x0 x24).length : Int) then (impl_AtomsOf.l1 k x0 x3 x5 x6 (wrap64 (x7 + (rd (rd_L1 x0 x24) x6))) x18 x19 x23 (wrap64 (x24 + 1))) else (none)) else (none)) else (none)) else (none)) else (if x6 = x3 then (impl_AtomsOf.l0 k x0 x3 x5 x18 (wrap64 (x19 + 1))) else (if x7 = 2 then (if x5.length < 17592186044416 then (impl_AtomsOf.l0 k x0 x3 (x5 ++ [x6]) x18 (wrap64 (x19 + 1))) else (none)) else (impl_AtomsOf.l0 k x0 x3 x5 x18 (wrap64 (x19 + 1)))))
end
def impl_AtomsOf.f (k : Nat) (l0 : List (List Int)) : Option (List Int) := (impl_LeastOf.f k l0).bind fun bt208 => (if bt208.2 = true then (impl_AtomsOf.l0 k l0 bt208.1 (([] : List Int)) (l0.length : Int) 0) else (some ([] : List Int)))
def spec_l1In.f (a0 : Int) (a1 : Int) (a2 : Int) : Option (Bool) := if a0 ≥ a1 then (some (decide (a0 ≤ a2))) else (some false)
mutual
def spec_SetsOf.l0 : Nat → Int → Int → List (List Int) → List Int → Option ((List (List Int)) × List Int × Bool)
 | 0, _, _, _, _ => none
 | k + 1, x0, x5, x249000, x249001 => if 0 ≤ x0 then (if x5 < (shl .i64 1 x0) then (spec_SetsOf.l1 k x0 x5 (([] : List Int)) 0 x249000 x249001) else (some (x249000, x249001, true))) else (none)
def spec_SetsOf.l1 : Nat → Int → Int → List Int → Int → List (List Int) → List Int → Option ((List (List Int)) × List Int × Bool)
 | 0, _, _, _, _, _, _ => none
 | k + 1, x0, x5, x6, x7, x249000, x249001 => if 0 ≤ x0 then (if x7 < (shl .i64 1 x0) then (if (Go.bits .and .i64 x5 x7) = x5 then (if x6.length < 17592186044416 then (spec_SetsOf.l1 k x0 x5 (x6 ++ [1]) (wrap64 (x7 + 1)) x249000 x249001) else (none)) else (if x6.length < 17592186044416 then (spec_SetsOf.l1 k x0 x5 (x6 ++ [0]) (wrap64 (x7 + 1)) x249000 x249001) else (none))) else (if x249000.length < 5864062014805 then (if x249001.length < 17592186044416 then (spec_SetsOf.l0 k x0 (wrap64 (x5 + 1)) (x249000 ++ [x6]) (x249001 ++ [wrap64 ((wrap64 ((shl .i64 1 x0) - 1)) - x5)])) else (none)) else (none))) else (none)
end
def spec_SetsOf.f (k : Nat) (a0 : Int) : Option ((List (List Int)) × List Int × Bool) := (spec_l1In.f a0 0 3).bind fun t249 => (if t249 = true then (spec_SetsOf.l0 k a0 0 ([] : List (List Int)) ([] : List Int)) else (some (([] : List (List Int)), ([] : List Int), false)))
mutual
def spec_l20Sets.l0 : Nat → Int → List (List Int) → Int → Option ((List (List Int)))
 | 0, _, _, _ => none
 | k + 1, x0, x3, x4 => if 0 ≤ x0 then (if x4 < (shl .i64 1 x0) then (spec_l20Sets.l1 k x0 x3 x4 (([] : List Int)) 0) else (some x3)) else (none)
def spec_l20Sets.l1 : Nat → Int → List (List Int) → Int → List Int → Int → Option ((List (List Int)))
 | 0, _, _, _, _, _ => none
 | k + 1, x0, x3, x4, x5, x6 => if 0 ≤ x0 then (if x6 < (shl .i64 1 x0) then (if (Go.bits .and .i64 x4 x6) = x4 then (if x5.length < 17592186044416 then (spec_l20Sets.l1 k x0 x3 x4 (x5 ++ [1]) (wrap64 (x6 + 1))) else (none)) else (if x5.length < 17592186044416 then (spec_l20Sets.l1 k x0 x3 x4 (x5 ++ [0]) (wrap64 (x6 + 1))) else (none))) else (if x3.length < 5864062014805 then (spec_l20Sets.l0 k x0 (x3 ++ [x5]) (wrap64 (x4 + 1))) else (none))) else (none)
end
def spec_l20Sets.f (k : Nat) (a0 : Int) : Option ((List (List Int))) := spec_l20Sets.l0 k a0 (([] : List (List Int))) 0
def spec_l20Boole.l0 : Nat → Int → Int → List (List Int) → List Int → Option ((List (List Int)) × List Int)
 | 0, _, _, _, _ => none
 | k + 1, x0, x4, x309000, x309001 => if 0 ≤ x0 then (if x4 < (shl .i64 1 x0) then (if x309001.length < 17592186044416 then (spec_l20Boole.l0 k x0 (wrap64 (x4 + 1)) x309000 (x309001 ++ [wrap64 ((wrap64 ((shl .i64 1 x0) - 1)) - x4)])) else (none)) else (some (x309000, x309001))) else (none)
def spec_l20Boole.f (k : Nat) (a0 : Int) : Option ((List (List Int)) × List Int) := (spec_l20Sets.f k a0).bind fun t305 => (spec_l20Boole.l0 k a0 0 t305 ([] : List Int))
def spec_l20Rd_odd.f (k : Nat) (s0_0 : List Int) (s0_1 : Int) (a1 : Int) : Option (Bool × Int) := if a1 > 0 then ((spec_l20Rd_pick.f k s0_0 s0_1 a1).bind fun bt312 => (some ((bt312.1 == (wrap64 (a1 - 1))), bt312.2))) else (some (false, s0_1))
mutual
def spec_l20Glued.l0 : Nat → Int → Int → Int → List (List Int) → List Int → List (List Int) → List Int → List (List Int) → List Int → Option ((List (List Int)) × List Int)
 | 0, _, _, _, _, _, _, _, _, _ => none
 | k + 1, x5, x6, x8, x315000, x315001, x316000, x316001, x318000, x318001 => if x8 < (wrap64 ((wrap64 (x5 + x6)) - 2)) then (spec_l20Glued.l1 k x5 x6 x8 (([] : List Int)) 0 x315000 x315001 x316000 x316001 x318000 x318001) else (some (x318000, x318001))
def spec_l20Glued.l1 : Nat → Int → Int → Int → List Int → Int → List (List Int) → List Int → List (List Int) → List Int → List (List Int) → List Int → Option ((List (List Int)) × List Int)
 | 0, _, _, _, _, _, _, _, _, _, _, _ => none
 | k + 1, x5, x6, x8, x9, x10, x315000, x315001, x316000, x316001, x318000, x318001 => if x10 < (wrap64 ((wrap64 (x5 + x6)) - 2)) then (if x8 = 0 then (spec_l20Glued.j2 k x5 x6 x8 x9 x10 0 true x315000 x315001 x316000 x316001 x318000 x318001) else (spec_l20Glued.j2 k x5 x6 x8 x9 x10 0 (x10 == (wrap64 ((wrap64 (x5 + x6)) - 3))) x315000 x315001 x316000 x316001 x318000 x318001)) else (if x318000.length < 5864062014805 then ((some (x318000 ++ [x9] : List (List Int))).bind fun y340 => (if x8 = 0 then (if x318001.length < 17592186044416 then (spec_l20Glued.l0 k x5 x6 (wrap64 (x8 + 1)) x315000 x315001 x316000 x316001 y340 (x318001 ++ [wrap64 ((wrap64 (x5 + x6)) - 3)])) else (none)) else (if x8 = (wrap64 ((wrap64 (x5 + x6)) - 3)) then (if x318001.length < 17592186044416 then (spec_l20Glued.l0 k x5 x6 (wrap64 (x8 + 1)) x315000 x315001 x316000 x316001 y340 (x318001 ++ [0])) else (none)) else (if x8 < (wrap64 (x5 - 1)) then (if 0 ≤ x8 then (if x8 < (x315001.length : Int) then (if x318001.length < 17592186044416 then (spec_l20Glued.l0 k x5 x6 (wrap64 (x8 + 1)) x315000 x315001 x316000 x316001 y340 (x318001 ++ [rd x315001 x8])) else (none)) else (none)) else (none)) else (if 0 ≤ (wrap64 ((wrap64 (x8 - x5)) + 2)) then (if (wrap64 ((wrap64 (x8 - x5)) + 2)) < (x316001.length : Int) then (if x318001.length < 17592186044416 then (spec_l20Glued.l0 k x5 x6 (wrap64 (x8 + 1)) x315000 x315001 x316000 x316001 y340 (x318001 ++ [wrap64 ((wrap64 ((rd x316001 (wrap64 ((wrap64 (x8 - x5)) + 2))) + x5)) - 2)])) else (none)) else (none)) else (none)))))) else (none))
def spec_l20Glued.j2 : Nat → Int → Int → Int → List Int → Int → Int → Bool → List (List Int) → List Int → List (List Int) → List Int → List (List Int) → List Int → Option ((List (List Int)) × List Int)
 | 0, _, _, _, _, _, _, _, _, _, _, _, _, _ => none
 | k + 1, x5, x6, x8, x9, x10, x11, x36, x315000, x315001, x316000, x316001, x318000, x318001 => if x36 = true then (if x9.length < 17592186044416 then (spec_l20Glued.l1 k x5 x6 x8 (x9 ++ [1]) (wrap64 (x10 + 1)) x315000 x315001 x316000 x316001 x318000 x318001) else (none)) else (if x8 < (wrap64 (x5 - 1)) then (spec_l20Glued.j3 k x5 x6 x8 x9 x10 x11 (decide (x10 < (wrap64 (x5 - 1)))) x315000 x315001 x316000 x316001 x318000 x318001) else (spec_l20Glued.j3 k x5 x6 x8 x9 x10 x11 false x315000 x315001 x316000 x316001 x318000 x318001))
def spec_l20Glued.j3 : Nat → Int → Int → Int → List Int → Int → Int → Bool → List (List Int) → List Int → List (List Int) → List Int → List (List Int) → List Int → Option ((List (List Int)) × List Int)
 | 0, _, _, _, _, _, _, _, _, _, _, _, _, _ => none
 | k + 1, x5, x6, x8, x9, x10, x11, x47, x315000, x315001, x316000, x316001, x318000, x318001 => if x47 = true then (if 0 ≤ x8 then (if x8 < (x315000.length : Int) then (if 0 ≤ x10 then (if x10 < ((rd_L1 x315000 x8).length : Int) then (if x9.length < 17592186044416 then (spec_l20Glued.l1 k x5 x6 x8 (x9 ++ [rd (rd_L1 x315000 x8) x10]) (wrap64 (x10 + 1)) x315000 x315001 x316000 x316001 x318000 x318001) else (none)) else (none)) else (none)) else (none)) else (none)) else (if x8 ≥ (wrap64 (x5 - 1)) then (if x10 ≥ (wrap64 (x5 - 1)) then (spec_l20Glued.j4 k x5 x6 x8 x9 x10 x11 (decide (x8 < (wrap64 ((wrap64 (x5 + x6)) - 3)))) x315000 x315001 x316000 x316001 x318000 x318001) else (spec_l20Glued.j4 k x5 x6 x8 x9 x10 x11 false x315000 x315001 x316000 x316001 x318000 x318001)) else (spec_l20Glued.j4 k x5 x6 x8 x9 x10 x11 false x315000 x315001 x316000 x316001 x318000 x318001))
def spec_l20Glued.j4 : Nat → Int → Int → Int → List Int → Int → Int → Bool → List (List Int) → List Int → List (List Int) → List Int → List (List Int) → List Int → Option ((List (List Int)) × List Int)
 | 0, _, _, _, _, _, _, _, _, _, _, _, _, _ => none
 | k + 1, x5, x6, x8, x9, x10, x11, x66, x315000, x315001, x316000, x316001, x318000, x318001 => if x66 = true then (if 0 ≤ (wrap64 ((wrap64 (x8 - x5)) + 2)) then (if (wrap64 ((wrap64 (x8 - x5)) + 2)) < (x316000.length : Int) then (if 0 ≤ (wrap64 ((wrap64 (x10 - x5)) + 2)) then (if (wrap64 ((wrap64 (x10 - x5)) + 2)) < ((rd_L1 x316000 (wrap64 ((wrap64 (x8 - x5)) + 2))).length : Int) then (if x9.length < 17592186044416 then (spec_l20Glued.l1 k x5 x6 x8 (x9 ++ [rd (rd_L1 x316000 (wrap64 ((wrap64 (x8 - x5)) + 2))) (wrap64 ((wrap64 (x10 - x5)) + 2))]) (wrap64 (x10 + 1)) x315000 x315001 x316000 x316001 x318000 x318001) else (none)) else (none)) else (none)) else (none)) else (none)) else (if x8 = x10 then (if x9.length < 17592186044416 then (spec_l20Glued.l1 k x5 x6 x8 (x9 ++ [1]) (wrap64 (x10 + 1)) x315000 x315001 x316000 x316001 x318000 x318001) else (none)) else (if x9.length < 17592186044416 then (spec_l20Glued.l1 k x5 x6 x8 (x9 ++ [x11]) (wrap64 (x10 + 1)) x315000 x315001 x316000 x316001 x318000 x318001) else (none)))
end
def spec_l20Glued.f (k : Nat) (l0_0 : List (List Int)) (l0_1 : List Int) (l1_0 : List (List Int)) (l1_1 : List Int) : Option ((List (List Int)) × List Int) := spec_l20Glued.l0 k (l0_1.length : Int) (l1_1.length : Int) 0 l0_0 l0_1 l1_0 l1_1 ([] : List (List Int)) ([] : List Int)
def spec_l20Six.f  : Option ((List (List Int)) × List Int) := some (sixU, sixN)
mutual
def spec_l20Pasted.l0 : Nat → Int → List (List Int) → Option ((List (List Int)) × List Int)
 | 0, _, _ => none
 | k + 1, x2, x359000 => if x2 < 12 then (spec_l20Pasted.l1 k x2 (([] : List Int)) 0 x359000) else (some (x359000, (([11, 6, 7, 8, 9, 10, 1, 2, 3, 4, 5, 0] : List Int))))
def spec_l20Pasted.l1 : Nat → Int → List Int → Int → List (List Int) → Option ((List (List Int)) × List Int)
 | 0, _, _, _, _ => none
 | k + 1, x2, x3, x4, x359000 => if x4 < 12 then (if x2 = x4 then (spec_l20Pasted.j2 k x2 x3 x4 0 true x359000) else (if x2 = 0 then (spec_l20Pasted.j2 k x2 x3 x4 0 true x359000) else (spec_l20Pasted.j2 k x2 x3 x4 0 (x4 == 11) x359000))) else (if x359000.length < 5864062014805 then (spec_l20Pasted.l0 k (wrap64 (x2 + 1)) (x359000 ++ [x3])) else (none))
def spec_l20Pasted.j2 : Nat → Int → List Int → Int → Int → Bool → List (List Int) → Option ((List (List Int)) × List Int)
 | 0, _, _, _, _, _, _ => none
 | k + 1, x2, x3, x4, x5, x17, x359000 => if x17 = true then (if x3.length < 17592186044416 then (spec_l20Pasted.l1 k x2 (x3 ++ [1]) (wrap64 (x4 + 1)) x359000) else (none)) else ((spec_l1In.f x2 1 5).bind fun t371 => (if t371 = true then ((spec_l1In.f x4 6 10).bind fun t372 => (if t372 = true then (spec_l20Pasted.j3 k x2 x3 x4 x5 (x2 != (wrap64 (x4 - 5))) x359000) else (spec_l20Pasted.j3 k x2 x3 x4 x5 false x359000))) else (spec_l20Pasted.j3 k x2 x3 x4 x5 false x359000)))
def spec_l20Pasted.j3 : Nat → Int → List Int → Int → Int → Bool → List (List Int) → Option ((List (List Int)) × List Int)
 | 0, _, _, _, _, _, _ => none
 | k + 1, x2, x3, x4, x5, x29, x359000 => if x29 = true then (if x2 ≤ 3 then (if (wrap64 (x4 - 5)) ≤ 3 then (if x3.length < 17592186044416 then (spec_l20Pasted.l1 k x2 (x3 ++ [1]) (wrap64 (x4 + 1)) x359000) else (none)) else (if x2 ≥ 3 then (if (wrap64 (x4 - 5)) ≥ 3 then (if x3.length < 17592186044416 then (spec_l20Pasted.l1 k x2 (x3 ++ [1]) (wrap64 (x4 + 1)) x359000) else (none)) else (if x3.length < 17592186044416 then (spec_l20Pasted.l1 k x2 (x3 ++ [x5]) (wrap64 (x4 + 1)) x359000) else (none))) else (if x3.length < 17592186044416 then (spec_l20Pasted.l1 k x2 (x3 ++ [x5]) (wrap64 (x4 + 1)) x359000) else (none)))) else (if x2 ≥ 3 then (if (wrap64 (x4 - 5)) ≥ 3 then (if x3.length < 17592186044416 then (spec_l20Pasted.l1 k x2 (x3 ++ [1]) (wrap64 (x4 + 1)) x359000) else (none)) else (if x3.length < 17592186044416 then (spec_l20Pasted.l1 k x2 (x3 ++ [x5]) (wrap64 (x4 + 1)) x359000) else (none))) else (if x3.length < 17592186044416 then (spec_l20Pasted.l1 k x2 (x3 ++ [x5]) (wrap64 (x4 + 1)) x359000) else (none)))) else (if x3.length < 17592186044416 then (spec_l20Pasted.l1 k x2 (x3 ++ [x5]) (wrap64 (x4 + 1)) x359000) else (none))
end
def spec_l20Pasted.f (k : Nat)  : Option ((List (List Int)) × List Int) := spec_l20Pasted.l0 k 0 ([] : List (List Int))
mutual
def spec_l20Rename.l0 : Nat → List Int → List Int → Int → List (List Int) → List Int → Option ((List (List Int)) × List Int)
 | 0, _, _, _, _, _ => none
 | k + 1, x1, x5, x6, x398000, x398001 => if x6 < (x1.length : Int) then (if 0 ≤ x6 then (if 0 ≤ (rd x1 x6) then (if (rd x1 x6) < (x5.length : Int) then (spec_l20Rename.l0 k x1 (x5.set ((rd x1 x6) : Int).toNat x6) (wrap64 (x6 + 1)) x398000 x398001) else (none)) else (none)) else (none)) else (spec_l20Rename.l1 k x1 x5 0 x398000 x398001 ([] : List (List Int)) ([] : List Int))
def spec_l20Rename.l1 : Nat → List Int → List Int → Int → List (List Int) → List Int → List (List Int) → List Int → Option ((List (List Int)) × List Int)
 | 0, _, _, _, _, _, _, _ => none
 | k + 1, x1, x5, x8, x398000, x398001, x405000, x405001 => if x8 < (x1.length : Int) then (spec_l20Rename.l2 k x1 x5 x8 (([] : List Int)) 0 x398000 x398001 x405000 x405001) else (some (x405000, x405001))
def spec_l20Rename.l2 : Nat → List Int → List Int → Int → List Int → Int → List (List Int) → List Int → List (List Int) → List Int → Option ((List (List Int)) × List Int)
 | 0, _, _, _, _, _, _, _, _, _ => none
 | k + 1, x1, x5, x8, x9, x10, x398000, x398001, x405000, x405001 => if x10 < (x1.length : Int) then (if 0 ≤ x8 then (if x8 < (x1.length : Int) then (if 0 ≤ (rd x1 x8) then (if (rd x1 x8) < (x398000.length : Int) then (if 0 ≤ x10 then (if 0 ≤ (rd x1 x10) then (if (rd x1 x10) < ((rd_L1 x398000 (rd x1 x8)).length : Int) then (if x9.length < 17592186044416 then (spec_l20Rename.l2 k x1 x5 x8 (x9 ++ [rd (rd_L1 x398000 (rd x1 x8)) (rd x1 x10)]) (wrap64 (x10 + 1)) x398000 x398001 x405000 x405001) else (none)) else (none)) else (none)) else (none)) else (none)) else (none)) else (none)) else (none)) else (if x405000.length < 5864062014805 then (if 0 ≤ x8 then (if x8 < (x1.length : Int) then (if 0 ≤ (rd x1 x8) then (if (rd x1 x8) < (x398001.length : Int) then (if 0 ≤ (rd x398001 (rd x1 x8)) then (if (rd x398001 (rd x1 x8)) < (x5.length : Int) then (if x405001.length < 17592186044416 then (spec_l20Rename.l1 k x1 x5 (wrap64 (x8 + 1)) x398000 x398001 (x405000 ++ [x9]) (x405001 ++ [rd x5 (rd x398001 (rd x1 x8))])) else (none)) else (none)) else (none)) else (none)) else (none)) else (none)) else (none)) else (none))
end
def spec_l20Rename.f (k : Nat) (l0_0 : List (List Int)) (l0_1 : List Int) (l1 : List Int) : Option ((List (List Int)) × List Int) := if 0 ≤ (l1.length : Int) then (if ((l1.length : Int) : Int).toNat ≤ 35184372088832 then (spec_l20Rename.l0 k l1 (List.replicate ((l1.length : Int) : Int).toNat 0) 0 l0_0 l0_1) else (none)) else (none)
mutual
def spec_l20Logic.j2 : Nat → Int → List Int → Int → List (List Int) → List Int → Option ((List (List Int)) × List Int × Int)
 | 0, _, _, _, _, _ => none
 | k + 1, x1, x1000, x1001, x426000, x426001 => spec_l20Logic.l0 k x1 (([] : List Int)) 0 x1000 x1001 x426000 x426001
def spec_l20Logic.l0 : Nat → Int → List Int → Int → List Int → Int → List (List Int) → List Int → Option ((List (List Int)) × List Int × Int)
 | 0, _, _, _, _, _, _, _ => none
 | k + 1, x1, x6, x7, x1000, x1001, x426000, x426001 => if x7 < (x426001.length : Int) then ((spec_l20Rd_pick.f k x1000 x1001 (wrap64 (x7 + 1))).bind fun bt535 => (if x6.length < 17592186044416 then (spec_l20Logic.l1 k x1 (x6 ++ [x7]) x7 bt535.1 x7 x1000 bt535.2 x426000 x426001) else (none))) else ((spec_l20Rd_pick.f k x1000 x1001 2).bind fun bt543 => (if bt543.1 = 0 then ((spec_l20Rename.f k x426000 x426001 x6).bind fun bt545 => (spec_l20Logic.j5 k x1 x1000 bt543.2 bt545.1 bt545.2)) else (spec_l20Logic.j5 k x1 x1000 bt543.2 x426000 x426001)))
def spec_l20Logic.l1 : Nat → Int → List Int → Int → Int → Int → List Int → Int → List (List Int) → List Int → Option ((List (List Int)) × List Int × Int)
 | 0, _, _, _, _, _, _, _, _, _ => none
 | k + 1, x1, x6, x7, x8, x9, x1000, x1001, x426000, x426001 => if x9 > x8 then (if 0 ≤ (wrap64 (x9 - 1)) then (if (wrap64 (x9 - 1)) < (x6.length : Int) then (if 0 ≤ x9 then (if x9 < (x6.length : Int) then (spec_l20Logic.l1 k x1 (x6.set (x9 : Int).toNat (rd x6 (wrap64 (x9 - 1)))) x7 x8 (wrap64 (x9 - 1)) x1000 x1001 x426000 x426001) else (none)) else (none)) else (none)) else (none)) else (if 0 ≤ x8 then (if x8 < (x6.length : Int) then (spec_l20Logic.l0 k x1 (x6.set (x8 : Int).toNat x7) (wrap64 (x7 + 1)) x1000 x1001 x426000 x426001) else (none)) else (none))
def spec_l20Logic.j5 : Nat → Int → List Int → Int → List (List Int) → List Int → Option ((List (List Int)) × List Int × Int)
 | 0, _, _, _, _, _ => none
 | k + 1, x1, x1000, x1001, x426000, x426001 => (spec_l20Rd_odd.f k x1000 x1001 x1).bind fun bt551 => (if bt551.1 = true then ((spec_l20Rd_pick.f k x1000 bt551.2 4).bind fun bt553 => (if bt553.1 = 0 then (some (([] : List (List Int)), ([] : List Int), bt553.2)) else (if bt553.1 = 1 then (if 1 ≤ (x426001.length : Int) then (some (x426000, (x426001.drop (1 : Int).toNat), bt553.2)) else (none)) else (if bt553.1 = 2 then ((spec_l20Rd_pick.f k x1000 bt553.2 (x426001.length : Int)).bind fun bt558 => ((spec_l20Rd_pick.f k x1000 bt558.2 (wrap64 ((x426001.length : Int) + 1))).bind fun bt560 => (if 0 ≤ bt558.1 then (if bt558.1 < (x426001.length : Int) then (some (x426000, (x426001.set (bt558.1 : Int).toNat bt560.1), bt560.2)) else (none)) else (none)))) else (if 0 ≤ (wrap64 ((x426000.length : Int) - 1)) then (if (wrap64 ((x426000.length : Int) - 1)) < (x426000.length : Int) then (if 0 < ((rd_L1 x426000 (wrap64 ((x426000.length : Int) - 1))).length : Int) then (some ((x426000.set ((wrap64 ((x426000.length : Int) - 1)) : Int).toNat ((rd_L1 x426000 (wrap64 ((x426000.length : Int) - 1))).set (0 : Int).toNat 1)), x426001, bt553.2)) else (none)) else (none)) else (none)))))) else (some (x426000, x426001, bt551.2)))
def spec_l20Logic.j0 : Nat → Int → Int → Bool → List Int → Int → Option ((List (List Int)) × List Int × Int)
 | 0, _, _, _, _, _ => none
 | k + 1, x1, x12, x14, x1000, x1001 => if x14 = true then ((spec_l20Rd_pick.f k x1000 x1001 4).bind fun bt428 => ((spec_l20Boole.f k bt428.1).bind fun bt430 => (spec_l20Logic.j2 k x1 x1000 bt428.2 bt430.1 bt430.2))) else (if x12 = 2 then (spec_l20Logic.j1 k x1 x12 (x12 == 2) x1000 x1001) else (spec_l20Logic.j1 k x1 x12 (x12 == 3) x1000 x1001))
def spec_l20Logic.j1 : Nat → Int → Int → Bool → List Int → Int → Option ((List (List Int)) × List Int × Int)
 | 0, _, _, _, _, _ => none
 | k + 1, x1, x12, x20, x1000, x1001 => if x20 = true then ((spec_l20Boole.f k 2).bind fun bt436 => ((spec_l20Boole.f k 2).bind fun bt442 => ((spec_l20Glued.f k bt436.1 bt436.2 bt442.1 bt442.2).bind fun bt448 => (spec_l20Logic.j2 k x1 x1000 x1001 bt448.1 bt448.2)))) else (if x12 = 4 then ((spec_l20Boole.f k 2).bind fun bt454 => ((spec_l20Boole.f k 3).bind fun bt460 => ((spec_l20Glued.f k bt454.1 bt454.2 bt460.1 bt460.2).bind fun bt466 => (spec_l20Logic.j2 k x1 x1000 x1001 bt466.1 bt466.2)))) else (if x12 = 5 then ((spec_l20Boole.f k 2).bind fun bt472 => ((spec_l20Boole.f k 2).bind fun bt478 => ((spec_l20Glued.f k bt472.1 bt472.2 bt478.1 bt478.2).bind fun bt484 => ((spec_l20Boole.f k 2).bind fun bt490 => ((spec_l20Glued.f k bt484.1 bt484.2 bt490.1 bt490.2).bind fun bt496 => (spec_l20Logic.j2 k x1 x1000 x1001 bt496.1 bt496.2)))))) else (if x12 = 6 then ((spec_l20Six.f).bind fun bt502 => (spec_l20Logic.j2 k x1 x1000 x1001 bt502.1 bt502.2)) else (if x12 = 7 then ((spec_l20Six.f).bind fun bt508 => ((spec_l20Boole.f k 2).bind fun bt514 => ((spec_l20Glued.f k bt508.1 bt508.2 bt514.1 bt514.2).bind fun bt520 => (spec_l20Logic.j2 k x1 x1000 x1001 bt520.1 bt520.2)))) else ((spec_l20Pasted.f k).bind fun bt526 => (spec_l20Logic.j2 k x1 x1000 x1001 bt526.1 bt526.2))))))
end
def spec_l20Logic.f (k : Nat) (s0_0 : List Int) (s0_1 : Int) (a1 : Int) : Option ((List (List Int)) × List Int × Int) := (spec_l20Rd_pick.f k s0_0 s0_1 9).bind fun bt426 => (if bt426.1 = 0 then (spec_l20Logic.j0 k a1 bt426.1 (bt426.1 == 0) s0_0 bt426.2) else (spec_l20Logic.j0 k a1 bt426.1 (bt426.1 == 1) s0_0 bt426.2))
def impl_KeepsOk.f (l0_0 : List (List Int)) (l0_1 : List Int) : Option (Bool) := some (keepsF l0_0 l0_1)
mutual
def spec_l1Meet.l0 : Nat → List (List Int) → Int → Int → Int → Int → Option (Int)
 | 0, _, _, _, _, _ => none
 | k + 1, x0, x1, x2, x7, x8 => if x8 < (x0.length : Int) then (if 0 ≤ x8 then (if 0 ≤ x1 then (if x1 < ((rd_L1 x0 x8).length : Int) then (if (rd (rd_L1 x0 x8) x1) = 1 then (if 0 ≤ x2 then (if x2 < ((rd_L1 x0 x8).length : Int) then (if (rd (rd_L1 x0 x8) x2) = 1 then (if x7 < 0 then (spec_l1Meet.l0 k x0 x1 x2 x8 (wrap64 (x8 + 1))) else (if 0 ≤ x7 then (if x7 < (x0.length : Int) then (if x8 < ((rd_L1 x0 x7).length : Int) then (if (rd (rd_L1 x0 x7) x8) = 1 then (spec_l1Meet.l0 k x0 x1 x2 x8 (wrap64 (x8 + 1))) else (spec_l1Meet.l0 k x0 x1 x2 x7 (wrap64 (x8 + 1)))) else (none)) else (none)) else (none))) else (spec_l1Meet.l0 k x0 x1 x2 x7 (wrap64 (x8 + 1)))) else (none)) else (none)) else (spec_l1Meet.l0 k x0 x1 x2 x7 (wrap64 (x8 + 1)))) else (none)) else (none)) else (none)) else (spec_l1Meet.l1 k x0 x1 x2 x7 0)
def spec_l1Meet.l1 : Nat → List (List Int) → Int → Int → Int → Int → Option (Int)
 | 0, _, _, _, _, _ => none
 | k + 1, x0, x1, x2, x7, x9 => if x9 < (x0.length : Int) then (if 0 ≤ x9 then (if 0 ≤ x1 then (if x1 < ((rd_L1 x0 x9).length : Int) then (if (rd (rd_L1 x0 x9) x1) = 1 then (if 0 ≤ x2 then (if x2 < ((rd_L1 x0 x9).length : Int) then (if (rd (rd_L1 x0 x9) x2) = 1 then (if 0 ≤ x7 then (if x7 < ((rd_L1 x0 x9).length : Int) then (if (rd (rd_L1 x0 x9) x7) = 0 then (some (-1)) else (spec_l1Meet.l1 k x0 x1 x2 x7 (wrap64 (x9 + 1)))) else (none)) else (none)) else (spec_l1Meet.l1 k x0 x1 x2 x7 (wrap64 (x9 + 1)))) else (none)) else (none)) else (spec_l1Meet.l1 k x0 x1 x2 x7 (wrap64 (x9 + 1)))) else (none)) else (none)) else (none)) else (some x7)
end
def spec_l1Meet.f (k : Nat) (l0 : List (List Int)) (a1 : Int) (a2 : Int) : Option (Int) := spec_l1Meet.l0 k l0 a1 a2 (-1) 0
mutual
def spec_l1Join.l0 : Nat → List (List Int) → Int → Int → Int → Int → Option (Int)
 | 0, _, _, _, _, _ => none
 | k + 1, x0, x1, x2, x7, x8 => if x8 < (x0.length : Int) then (if 0 ≤ x1 then (if x1 < (x0.length : Int) then (if 0 ≤ x8 then (if x8 < ((rd_L1 x0 x1).length : Int) then (if (rd (rd_L1 x0 x1) x8) = 1 then (if 0 ≤ x2 then (if x2 < (x0.length : Int) then (if x8 < ((rd_L1 x0 x2).length : Int) then (if (rd (rd_L1 x0 x2) x8) = 1 then (if x7 < 0 then (spec_l1Join.l0 k x0 x1 x2 x8 (wrap64 (x8 + 1))) else (if 0 ≤ x7 then (if x7 < ((rd_L1 x0 x8).length : Int) then (if (rd (rd_L1 x0 x8) x7) = 1 then (spec_l1Join.l0 k x0 x1 x2 x8 (wrap64 (x8 + 1))) else (spec_l1Join.l0 k x0 x1 x2 x7 (wrap64 (x8 + 1)))) else (none)) else (none))) else (spec_l1Join.l0 k x0 x1 x2 x7 (wrap64 (x8 + 1)))) else (none)) else (none)) else (none)) else (spec_l1Join.l0 k x0 x1 x2 x7 (wrap64 (x8 + 1)))) else (none)) else (none)) else (none)) else (none)) else (spec_l1Join.l1 k x0 x1 x2 x7 0)
def spec_l1Join.l1 : Nat → List (List Int) → Int → Int → Int → Int → Option (Int)
 | 0, _, _, _, _, _ => none
 | k + 1, x0, x1, x2, x7, x9 => if x9 < (x0.length : Int) then (if 0 ≤ x1 then (if x1 < (x0.length : Int) then (if 0 ≤ x9 then (if x9 < ((rd_L1 x0 x1).length : Int) then (if (rd (rd_L1 x0 x1) x9) = 1 then (if 0 ≤ x2 then (if x2 < (x0.length : Int) then (if x9 < ((rd_L1 x0 x2).length : Int) then (if (rd (rd_L1 x0 x2) x9) = 1 then (if 0 ≤ x7 then (if x7 < (x0.length : Int) then (if x9 < ((rd_L1 x0 x7).length : Int) then (if (rd (rd_L1 x0 x7) x9) = 0 then (some (-1)) else (spec_l1Join.l1 k x0 x1 x2 x7 (wrap64 (x9 + 1)))) else (none)) else (none)) else (none)) else (spec_l1Join.l1 k x0 x1 x2 x7 (wrap64 (x9 + 1)))) else (none)) else (none)) else (none)) else (spec_l1Join.l1 k x0 x1 x2 x7 (wrap64 (x9 + 1)))) else (none)) else (none)) else (none)) else (none)) else (some x7)
end
def spec_l1Join.f (k : Nat) (l0 : List (List Int)) (a1 : Int) (a2 : Int) : Option (Int) := spec_l1Join.l0 k l0 a1 a2 (-1) 0
mutual
def spec_OrderOk.l0 : Nat → List (List Int) → Int → Int → Option (Bool)
 | 0, _, _, _ => none
 | k + 1, x0, x3, x4 => if x4 < x3 then (if 0 ≤ x4 then (if x4 < (x0.length : Int) then (if ((rd_L1 x0 x4).length : Int) = x3 then (spec_OrderOk.l1 k x0 x3 x4 0) else (some false)) else (none)) else (none)) else (spec_OrderOk.l2 k x0 x3 0)
def spec_OrderOk.l1 : Nat → List (List Int) → Int → Int → Int → Option (Bool)
 | 0, _, _, _, _ => none
 | k + 1, x0, x3, x4, x5 => if x5 < x3 then (if 0 ≤ x4 then (if x4 < (x0.length : Int) then (if 0 ≤ x5 then (if x5 < ((rd_L1 x0 x4).length : Int) then ((spec_l1In.f (rd (rd_L1 x0 x4) x5) 0 1).bind fun t607 => (if t607 = true then (spec_OrderOk.l1 k x0 x3 x4 (wrap64 (x5 + 1))) else (some false))) else (none)) else (none)) else (none)) else (none)) else (spec_OrderOk.l0 k x0 x3 (wrap64 (x4 + 1)))
def spec_OrderOk.l2 : Nat → List (List Int) → Int → Int → Option (Bool)
 | 0, _, _, _ => none
 | k + 1, x0, x3, x6 => if x6 < x3 then (spec_OrderOk.l3 k x0 x3 x6 0) else (some true)
def spec_OrderOk.l3 : Nat → List (List Int) → Int → Int → Int → Option (Bool)
 | 0, _, _, _, _ => none
 | k + 1, x0, x3, x6, x7 => if x7 < x3 then (if x6 = x7 then (if 0 ≤ x6 then (if x6 < (x0.length : Int) then (if 0 ≤ x7 then (if x7 < ((rd_L1 x0 x6).length : Int) then (if (rd (rd_L1 x0 x6) x7) = 0 then (spec_OrderOk.j4 k x0 x3 x6 x7 true) else (spec_OrderOk.j4 k x0 x3 x6 x7 false)) else (none)) else (none)) else (none)) else (none)) else (if 0 ≤ x6 then (if x6 < (x0.length : Int) then (if 0 ≤ x7 then (if x7 < ((rd_L1 x0 x6).length : Int) then (if (rd (rd_L1 x0 x6) x7) = 1 then (if x7 < (x0.length : Int) then (if x6 < ((rd_L1 x0 x7).length : Int) then (spec_OrderOk.j4 k x0 x3 x6 x7 ((rd (rd_L1 x0 x7) x6) == 1)) else (none)) else (none)) else (spec_OrderOk.j4 k x0 x3 x6 x7 false)) else (none)) else (none)) else (none)) else (none))) else (spec_OrderOk.l2 k x0 x3 (wrap64 (x6 + 1)))
def spec_OrderOk.j4 : Nat → List (List Int) → Int → Int → Int → Bool → Option (Bool)
 | 0, _, _, _, _, _ => none
 | k + 1, x0, x3, x6, x7, x87 => if x87 = true then (some false) else (spec_OrderOk.l4 k x0 x3 x6 x7 0)
def spec_OrderOk.l4 : Nat → List (List Int) → Int → Int → Int → Int → Option (Bool)
 | 0, _, _, _, _, _ => none
 | k + 1, x0, x3, x6, x7, x8 => if x8 < x3 then (if 0 ≤ x6 then (if x6 < (x0.length : Int) then (if 0 ≤ x7 then (if x7 < ((rd_L1 x0 x6).length : Int) then (if (rd (rd_L1 x0 x6) x7) = 1 then (if x7 < (x0.length : Int) then (if 0 ≤ x8 then (if x8 < ((rd_L1 x0 x7).length : Int) then (if (rd (rd_L1 x0 x7) x8) = 1 then (if x8 < ((rd_L1 x0 x6).length : Int) then (if (rd (rd_L1 x0 x6) x8) = 0 then (some false) else (spec_OrderOk.l4 k x0 x3 x6 x7 (wrap64 (x8 + 1)))) else (none)) else (spec_OrderOk.l4 k x0 x3 x6 x7 (wrap64 (x8 + 1)))) else (none)) else (none)) else (none)) else (spec_OrderOk.l4 k x0 x3 x6 x7 (wrap64 (x8 + 1)))) else (none)) else (none)) else (none)) else (none)) else (spec_OrderOk.l3 k x0 x3 x6 (wrap64 (x7 + 1)))
end
def spec_OrderOk.f (k : Nat) (l0 : List (List Int)) : Option (Bool) := (spec_l1In.f (l0.length : Int) 1 12).bind fun t603 => (if t603 = true then (spec_OrderOk.l0 k l0 (l0.length : Int) 0) else (some false))
mutual
def spec_LatticeOk.l0 : Nat → List (List Int) → Int → Option (Bool)
 | 0, _, _ => none
 | k + 1, x0, x3 => if x3 < (x0.length : Int) then ((spec_OrderOk.f k x0).bind fun t620 => (spec_LatticeOk.j1 k x0 x3 t620)) else (spec_LatticeOk.j1 k x0 x3 false)
def spec_LatticeOk.j1 : Nat → List (List Int) → Int → Bool → Option (Bool)
 | 0, _, _, _ => none
 | k + 1, x0, x3, x12 => if x12 = true then (spec_LatticeOk.l1 k x0 x3 0) else ((spec_OrderOk.f k x0).bind fun t621 => (some t621))
def spec_LatticeOk.l1 : Nat → List (List Int) → Int → Int → Option (Bool)
 | 0, _, _, _ => none
 | k + 1, x0, x3, x4 => if x4 < x3 then ((spec_l1Meet.f k x0 x3 x4).bind fun t622 => (if t622 < 0 then (some false) else ((spec_l1Join.f k x0 x3 x4).bind fun t623 => (if t623 < 0 then (some false) else (spec_LatticeOk.l1 k x0 x3 (wrap64 (x4 + 1))))))) else (spec_LatticeOk.l0 k x0 (wrap64 (x3 + 1)))
end
def spec_LatticeOk.f (k : Nat) (l0 : List (List Int)) : Option (Bool) := spec_LatticeOk.l0 k l0 0
mutual
def spec_LeastOf.l0 : Nat → List (List Int) → Int → Option (Int × Bool)
 | 0, _, _ => none
 | k + 1, x0, x4 => if x4 < (x0.length : Int) then ((spec_OrderOk.f k x0).bind fun t624 => (spec_LeastOf.j1 k x0 x4 t624)) else (spec_LeastOf.j1 k x0 x4 false)
def spec_LeastOf.j1 : Nat → List (List Int) → Int → Bool → Option (Int × Bool)
 | 0, _, _, _ => none
 | k + 1, x0, x4, x14 => if x14 = true then (spec_LeastOf.l1 k x0 x4 true 0) else (some ((-1), false))
def spec_LeastOf.l1 : Nat → List (List Int) → Int → Bool → Int → Option (Int × Bool)
 | 0, _, _, _, _ => none
 | k + 1, x0, x4, x5, x6 => if x6 < (x0.length : Int) then (if x5 = true then (if 0 ≤ x4 then (if x4 < (x0.length : Int) then (if 0 ≤ x6 then (if x6 < ((rd_L1 x0 x4).length : Int) then (spec_LeastOf.l1 k x0 x4 ((rd (rd_L1 x0 x4) x6) == 1) (wrap64 (x6 + 1))) else (none)) else (none)) else (none)) else (none)) else (spec_LeastOf.l1 k x0 x4 false (wrap64 (x6 + 1)))) else (if x5 = true then (some (x4, true)) else (spec_LeastOf.l0 k x0 (wrap64 (x4 + 1))))
end
def spec_LeastOf.f (k : Nat) (l0 : List (List Int)) : Option (Int × Bool) := spec_LeastOf.l0 k l0 0
mutual
def spec_LogicOk.j0 : Nat → Int → Bool → List (List Int) → List Int → Option (Bool)
 | 0, _, _, _, _ => none
 | k + 1, x3, x22, x628000, x628001 => if x22 = true then (some false) else (spec_LogicOk.l0 k x3 0 x628000 x628001)
def spec_LogicOk.l0 : Nat → Int → Int → List (List Int) → List Int → Option (Bool)
 | 0, _, _, _, _ => none
 | k + 1, x3, x4, x628000, x628001 => if x4 < x3 then (if 0 ≤ x4 then (if x4 < (x628001.length : Int) then ((spec_l1In.f (rd x628001 x4) 0 (wrap64 (x3 - 1))).bind fun t630 => (if t630 = true then (spec_LogicOk.l0 k x3 (wrap64 (x4 + 1)) x628000 x628001) else (some false))) else (none)) else (none)) else ((spec_LeastOf.f k x628000).bind fun bt631 => (spec_LogicOk.l1 k x3 bt631.1 0 x628000 x628001))
def spec_LogicOk.l1 : Nat → Int → Int → Int → List (List Int) → List Int → Option (Bool)
 | 0, _, _, _, _, _ => none
 | k + 1, x3, x5, x7, x628000, x628001 => if x7 < x3 then (if 0 ≤ x7 then (if x7 < (x628001.length : Int) then (if 0 ≤ (rd x628001 x7) then (if (rd x628001 x7) < (x628001.length : Int) then (if (rd x628001 (rd x628001 x7)) = x7 then ((spec_l1Meet.f k x628000 x7 (rd x628001 x7)).bind fun t636 => (spec_LogicOk.j3 k x3 x5 x7 (t636 != x5) x628000 x628001)) else (spec_LogicOk.j3 k x3 x5 x7 true x628000 x628001)) else (none)) else (none)) else (none)) else (none)) else (some true)
def spec_LogicOk.j3 : Nat → Int → Int → Int → Bool → List (List Int) → List Int → Option (Bool)
 | 0, _, _, _, _, _, _ => none
 | k + 1, x3, x5, x7, x71, x628000, x628001 => if x71 = true then (some false) else (spec_LogicOk.l2 k x3 x5 x7 0 x628000 x628001)
def spec_LogicOk.l2 : Nat → Int → Int → Int → Int → List (List Int) → List Int → Option (Bool)
 | 0, _, _, _, _, _, _ => none
 | k + 1, x3, x5, x7, x8, x628000, x628001 => if x8 < x3 then (if 0 ≤ x7 then (if x7 < (x628000.length : Int) then (if 0 ≤ x8 then (if x8 < ((rd_L1 x628000 x7).length : Int) then (if (rd (rd_L1 x628000 x7) x8) = 1 then (if x8 < (x628001.length : Int) then (if 0 ≤ (rd x628001 x8) then (if (rd x628001 x8) < (x628000.length : Int) then (if x7 < (x628001.length : Int) then (if 0 ≤ (rd x628001 x7) then (if (rd x628001 x7) < ((rd_L1 x628000 (rd x628001 x8)).length : Int) then (if (rd (rd_L1 x628000 (rd x628001 x8)) (rd x628001 x7)) = 0 then (some false) else (spec_LogicOk.l2 k x3 x5 x7 (wrap64 (x8 + 1)) x628000 x628001)) else (none)) else (none)) else (none)) else (none)) else (none)) else (none)) else (spec_LogicOk.l2 k x3 x5 x7 (wrap64 (x8 + 1)) x628000 x628001)) else (none)) else (none)) else (none)) else (none)) else (spec_LogicOk.l1 k x3 x5 (wrap64 (x7 + 1)) x628000 x628001)
end
def spec_LogicOk.f (k : Nat) (l0_0 : List (List Int)) (l0_1 : List Int) : Option (Bool) := (spec_LatticeOk.f k l0_0).bind fun t628 => (if t628 = true then (spec_LogicOk.j0 k (l0_0.length : Int) ((l0_1.length : Int) != (l0_0.length : Int)) l0_0 l0_1) else (spec_LogicOk.j0 k (l0_0.length : Int) true l0_0 l0_1))
def impl_BreakOf.f (l0_0 : List (List Int)) (l0_1 : List Int) : Option (Int × Int × Bool) := some (breakF l0_0 l0_1)
mutual
def spec_SubOk.j0 : Nat → Int → Int → Bool → List (List Int) → List Int → Option (Bool)
 | 0, _, _, _, _, _ => none
 | k + 1, x1, x5, x21, x691000, x691001 => if x21 = true then (some false) else (spec_SubOk.l0 k x1 x5 0 x691000 x691001)
def spec_SubOk.l0 : Nat → Int → Int → Int → List (List Int) → List Int → Option (Bool)
 | 0, _, _, _, _, _ => none
 | k + 1, x1, x5, x6, x691000, x691001 => if x6 < x5 then (if 0 ≤ x6 then (if (Int.tmod (shr .i64 x1 x6) 2) = 0 then (spec_SubOk.l0 k x1 x5 (wrap64 (x6 + 1)) x691000 x691001) else (spec_SubOk.l1 k x1 x5 x6 0 x691000 x691001)) else (none)) else (some true)
def spec_SubOk.l1 : Nat → Int → Int → Int → Int → List (List Int) → List Int → Option (Bool)
 | 0, _, _, _, _, _, _ => none
 | k + 1, x1, x5, x6, x7, x691000, x691001 => if x7 < x5 then (if 0 ≤ x7 then (if (Int.tmod (shr .i64 x1 x7) 2) = 1 then ((spec_l1Meet.f k x691000 x6 x7).bind fun t693 => (if 0 ≤ t693 then (if (Int.tmod (shr .i64 x1 t693) 2) = 0 then (some false) else (spec_SubOk.l1 k x1 x5 x6 (wrap64 (x7 + 1)) x691000 x691001)) else (none))) else (spec_SubOk.l1 k x1 x5 x6 (wrap64 (x7 + 1)) x691000 x691001)) else (none)) else (if 0 ≤ x6 then (if x6 < (x691001.length : Int) then (if 0 ≤ (rd x691001 x6) then (if (Int.tmod (shr .i64 x1 (rd x691001 x6)) 2) = 0 then (some false) else (spec_SubOk.l0 k x1 x5 (wrap64 (x6 + 1)) x691000 x691001)) else (none)) else (none)) else (none))
end
def spec_SubOk.f (k : Nat) (l0_0 : List (List Int)) (l0_1 : List Int) (a1 : Int) : Option (Bool) := (spec_LogicOk.f k l0_0 l0_1).bind fun t691 => (if t691 = true then ((spec_l1In.f a1 1 (wrap64 ((shl .i64 1 (l0_1.length : Int)) - 1))).bind fun t692 => (spec_SubOk.j0 k a1 (l0_1.length : Int) (!t692) l0_0 l0_1)) else (spec_SubOk.j0 k a1 (l0_1.length : Int) true l0_0 l0_1))
mutual
def spec_MadeBy.j0 : Nat → Int → Int → Bool → List (List Int) → List Int → Option (Int)
 | 0, _, _, _, _, _ => none
 | k + 1, x1, x5, x23, x696000, x696001 => if x23 = true then (some (-1)) else (spec_MadeBy.l0 k x5 x1 x696000 x696001)
def spec_MadeBy.l0 : Nat → Int → Int → List (List Int) → List Int → Option (Int)
 | 0, _, _, _, _ => none
 | k + 1, x5, x6, x696000, x696001 => (spec_SubOk.f k x696000 x696001 x6).bind fun t698 => (if t698 = true then (some x6) else (spec_MadeBy.l1 k x5 x6 x6 0 x696000 x696001))
def spec_MadeBy.l1 : Nat → Int → Int → Int → Int → List (List Int) → List Int → Option (Int)
 | 0, _, _, _, _, _, _ => none
 | k + 1, x5, x6, x7, x8, x696000, x696001 => if x8 < x5 then (spec_MadeBy.l2 k x5 x6 x7 x8 0 x696000 x696001) else (spec_MadeBy.l0 k x5 x7 x696000 x696001)
def spec_MadeBy.l2 : Nat → Int → Int → Int → Int → Int → List (List Int) → List Int → Option (Int)
 | 0, _, _, _, _, _, _, _ => none
 | k + 1, x5, x6, x7, x8, x9, x696000, x696001 => if x9 < x5 then (if 0 ≤ x8 then (if (Int.tmod (shr .i64 x6 x8) 2) = 1 then (if 0 ≤ x9 then (if (Int.tmod (shr .i64 x6 x9) 2) = 1 then ((spec_l1Meet.f k x696000 x8 x9).bind fun t699 => (if 0 ≤ t699 then (if x8 < (x696001.length : Int) then (if 0 ≤ (rd x696001 x8) then (spec_MadeBy.l2 k x5 x6 (Go.bits .or .i64 (Go.bits .or .i64 x7 (shl .i64 1 t699)) (shl .i64 1 (rd x696001 x8))) x8 (wrap64 (x9 + 1)) x696000 x696001) else (none)) else (none)) else (none))) else (spec_MadeBy.l2 k x5 x6 x7 x8 (wrap64 (x9 + 1)) x696000 x696001)) else (none)) else (spec_MadeBy.l2 k x5 x6 x7 x8 (wrap64 (x9 + 1)) x696000 x696001)) else (none)) else (spec_MadeBy.l1 k x5 x6 x7 (wrap64 (x8 + 1)) x696000 x696001)
end
def spec_MadeBy.f (k : Nat) (l0_0 : List (List Int)) (l0_1 : List Int) (a1 : Int) : Option (Int) := (spec_LogicOk.f k l0_0 l0_1).bind fun t696 => (if t696 = true then ((spec_l1In.f a1 1 (wrap64 ((shl .i64 1 (l0_1.length : Int)) - 1))).bind fun t697 => (spec_MadeBy.j0 k a1 (l0_1.length : Int) (!t697) l0_0 l0_1)) else (spec_MadeBy.j0 k a1 (l0_1.length : Int) true l0_0 l0_1))
mutual
def spec_l20Some.j0 : Nat → Int → List Int → Int → List (List Int) → List Int → Option ((List (List Int)) × List Int × Int × Int)
 | 0, _, _, _, _, _ => none
 | k + 1, x8, x1000, x1001, x710000, x710001 => (spec_LogicOk.f k x710000 x710001).bind fun t718 => (if t718 = true then ((spec_l20Rd_pick.f k x1000 x1001 2).bind fun bt719 => (spec_l20Some.j1 k x8 (bt719.1 == 0) x1000 bt719.2 x710000 x710001)) else (spec_l20Some.j1 k x8 false x1000 x1001 x710000 x710001))
def spec_l20Some.j1 : Nat → Int → Bool → List Int → Int → List (List Int) → List Int → Option ((List (List Int)) × List Int × Int × Int)
 | 0, _, _, _, _, _, _ => none
 | k + 1, x8, x40, x1000, x1001, x710000, x710001 => if x40 = true then ((spec_MadeBy.f k x710000 x710001 x8).bind fun t721 => ((spec_l20Rd_pick.f k x1000 x1001 40).bind fun bt722 => ((spec_l20Rd_pick.f k x1000 bt722.2 50).bind fun bt724 => (some (x710000, x710001, wrap64 ((wrap64 (t721 + (wrap64 ((wrap64 (Int.tdiv bt722.1 39)) * 4096)))) - (wrap64 ((wrap64 (Int.tdiv bt724.1 49)) * 9000))), bt724.2))))) else ((spec_l20Rd_pick.f k x1000 x1001 40).bind fun bt726 => ((spec_l20Rd_pick.f k x1000 bt726.2 50).bind fun bt728 => (some (x710000, x710001, wrap64 ((wrap64 (x8 + (wrap64 ((wrap64 (Int.tdiv bt726.1 39)) * 4096)))) - (wrap64 ((wrap64 (Int.tdiv bt728.1 49)) * 9000))), bt728.2))))
end
def spec_l20Some.f (k : Nat) (s0_0 : List Int) (s0_1 : Int) (a1 : Int) : Option ((List (List Int)) × List Int × Int × Int) := (spec_l20Logic.f k s0_0 s0_1 a1).bind fun bt702 => ((spec_l20Rd_pick.f k s0_0 bt702.2.2 (mx (bt702.2.1.length : Int) 1)).bind fun bt710 => (if 0 ≤ bt710.1 then ((spec_l20Rd_pick.f k s0_0 bt710.2 (mx (bt702.2.1.length : Int) 1)).bind fun bt712 => (if 0 ≤ bt712.1 then ((spec_l20Rd_pick.f k s0_0 bt712.2 2).bind fun bt714 => (if bt714.1 = 0 then ((spec_l20Rd_pick.f k s0_0 bt714.2 (mx (bt702.2.1.length : Int) 1)).bind fun bt716 => (if 0 ≤ bt716.1 then (spec_l20Some.j0 k (Go.bits .or .i64 (Go.bits .or .i64 (shl .i64 1 bt710.1) (shl .i64 1 bt712.1)) (shl .i64 1 bt716.1)) s0_0 bt716.2 bt702.1 bt702.2.1) else (none))) else (spec_l20Some.j0 k (Go.bits .or .i64 (shl .i64 1 bt710.1) (shl .i64 1 bt712.1)) s0_0 bt714.2 bt702.1 bt702.2.1))) else (none))) else (none)))
def spec_DrawMadeBy.f (k : Nat) (l0 : List Int) : Option ((List (List Int)) × List Int × Int) := (spec_l20Open.f l0).bind fun bt731 => ((spec_l20Some.f k bt731.1 bt731.2 12).bind fun bt734 => (some (bt734.1, bt734.2.1, bt734.2.2.1)))
def impl_MadeBy.f (l0_0 : List (List Int)) (l0_1 : List Int) (a1 : Int) : Option (Int) := some (madeByF l0_0 l0_1 a1)
def impl_SubOk.f (l0_0 : List (List Int)) (l0_1 : List Int) (a1 : Int) : Option (Bool) := some (subF l0_0 l0_1 a1)
def laws_FnMadeBy.l0 : Nat → Int → Int → Int → List (List Int) → List Int → Option (Bool)
 | 0, _, _, _, _, _ => none
 | k + 1, x4, x5, x6, x750000, x750001 => if x6 < (x750001.length : Int) then (if 0 ≤ x6 then ((impl_MadeBy.f x750000 x750001 (shl .i64 1 x6)).bind fun t755 => (if 0 ≤ (rd x750001 x6) then ((impl_MadeBy.f x750000 x750001 (shl .i64 1 (rd x750001 x6))).bind fun t757 => (if t755 = t757 then (laws_FnMadeBy.l0 k x4 x5 (wrap64 (x6 + 1)) x750000 x750001) else (some false))) else (none))) else (none)) else ((impl_SubOk.f x750000 x750001 x5).bind fun t753 => (if t753 = true then (if (Go.bits .and .i64 x5 x4) = x4 then ((impl_MadeBy.f x750000 x750001 x5).bind fun t754 => (some (t754 == x5))) else (some false)) else (some false)))
def laws_FnMadeBy.f (k : Nat) (l0 : List Int) : Option (Bool) := if (l0.length : Int) > 1048576 then (some true) else ((spec_DrawMadeBy.f k l0).bind fun bt742 => ((impl_MadeBy.f bt742.1 bt742.2.1 bt742.2.2).bind fun t750 => ((spec_MadeBy.f k bt742.1 bt742.2.1 bt742.2.2).bind fun t751 => (if t750 = t751 then (if t750 < 0 then (if t750 = (-1) then ((laws_alive.f k).bind fun t752 => (some t752)) else (some false)) else (laws_FnMadeBy.l0 k bt742.2.2 t750 0 bt742.1 bt742.2.1)) else (some false)))))
def laws_FnMadeBy.Pure : Prop := ∀ (l0 : List Int), l0.length ≤ maxLen → l0.length * 1 ≤ 140737488351232 → (∀ x ∈ l0, (Lit.int .u8 x).wf = true) → ∃ k, laws_FnMadeBy.f k l0 = some true
def spec_DrawSubOk.f (k : Nat) (l0 : List Int) : Option ((List (List Int)) × List Int × Int) := (spec_l20Open.f l0).bind fun bt759 => ((spec_l20Some.f k bt759.1 bt759.2 12).bind fun bt762 => (some (bt762.1, bt762.2.1, bt762.2.2.1)))
def spec_NoOf.f (k : Nat) (l0_0 : List (List Int)) (l0_1 : List Int) : Option (Int) := (spec_LogicOk.f k l0_0 l0_1).bind fun t771 => (if t771 = true then ((spec_LeastOf.f k l0_0).bind fun bt772 => (some bt772.1)) else (some (-1)))
def spec_l2Both.f (k : Nat) (l0_0 : List (List Int)) (l0_1 : List Int) (a1 : Int) (a2 : Int) : Option (Bool) := (spec_LogicOk.f k l0_0 l0_1).bind fun t775 => (if t775 = true then ((spec_l1In.f a1 0 (wrap64 ((l0_1.length : Int) - 1))).bind fun t776 => (if t776 = true then ((spec_l1In.f a2 0 (wrap64 ((l0_1.length : Int) - 1))).bind fun t777 => (some t777)) else (some false))) else (some false))
def spec_NotOf.f (k : Nat) (l0_0 : List (List Int)) (l0_1 : List Int) (a1 : Int) : Option (Int) := (spec_l2Both.f k l0_0 l0_1 a1 a1).bind fun t779 => (if t779 = true then (if 0 ≤ a1 then (if a1 < (l0_1.length : Int) then (some (rd l0_1 a1)) else (none)) else (none)) else (some (-1)))
def spec_YesOf.f (k : Nat) (l0_0 : List (List Int)) (l0_1 : List Int) : Option (Int) := (spec_NoOf.f k l0_0 l0_1).bind fun t782 => ((spec_NotOf.f k l0_0 l0_1 t782).bind fun t783 => (some t783))
def laws_FnSubOk.f (k : Nat) (l0 : List Int) : Option (Bool) := if (l0.length : Int) > 1048576 then (some true) else ((spec_DrawSubOk.f k l0).bind fun bt784 => ((impl_SubOk.f bt784.1 bt784.2.1 bt784.2.2).bind fun t792 => ((spec_SubOk.f k bt784.1 bt784.2.1 bt784.2.2).bind fun t793 => (if (t792 != t793) = true then (some false) else ((spec_LogicOk.f k bt784.1 bt784.2.1).bind fun t794 => (if t794 = true then ((spec_NoOf.f k bt784.1 bt784.2.1).bind fun t796 => (if 0 ≤ t796 then ((spec_YesOf.f k bt784.1 bt784.2.1).bind fun t797 => (if 0 ≤ t797 then (if t792 = true then (if (Go.bits .and .i64 bt784.2.2 (Go.bits .or .i64 (shl .i64 1 t796) (shl .i64 1 t797))) = (Go.bits .or .i64 (shl .i64 1 t796) (shl .i64 1 t797)) then ((impl_SubOk.f bt784.1 bt784.2.1 (Go.bits .or .i64 (shl .i64 1 t796) (shl .i64 1 t797))).bind fun t798 => (if t798 = true then ((impl_SubOk.f bt784.1 bt784.2.1 (wrap64 ((shl .i64 1 (bt784.2.1.length : Int)) - 1))).bind fun t799 => (some t799)) else (some false))) else (some false)) else ((impl_SubOk.f bt784.1 bt784.2.1 (Go.bits .or .i64 (shl .i64 1 t796) (shl .i64 1 t797))).bind fun t800 => (if t800 = true then ((impl_SubOk.f bt784.1 bt784.2.1 (wrap64 ((shl .i64 1 (bt784.2.1.length : Int)) - 1))).bind fun t801 => (some t801)) else (some false)))) else (none))) else (none))) else (if t792 = true then (some false) else ((laws_alive.f k).bind fun t795 => (some t795)))))))))
def laws_FnSubOk.Pure : Prop := ∀ (l0 : List Int), l0.length ≤ maxLen → l0.length * 1 ≤ 140737488351232 → (∀ x ∈ l0, (Lit.int .u8 x).wf = true) → ∃ k, laws_FnSubOk.f k l0 = some true
def spec_DrawBreakOf.f (k : Nat) (l0 : List Int) : Option ((List (List Int)) × List Int) := (spec_l20Open.f l0).bind fun bt803 => ((spec_l20Logic.f k bt803.1 bt803.2 9).bind fun bt806 => (some (bt806.1, bt806.2.1)))
mutual
def spec_BreakOf.l0 : Nat → Int → List (List Int) → List Int → Option (Int × Int × Bool)
 | 0, _, _, _ => none
 | k + 1, x5, x814000, x814001 => if x5 < (x814001.length : Int) then ((spec_LogicOk.f k x814000 x814001).bind fun t814 => (spec_BreakOf.j1 k x5 t814 x814000 x814001)) else (spec_BreakOf.j1 k x5 false x814000 x814001)
def spec_BreakOf.j1 : Nat → Int → Bool → List (List Int) → List Int → Option (Int × Int × Bool)
 | 0, _, _, _, _ => none
 | k + 1, x5, x15, x814000, x814001 => if x15 = true then (spec_BreakOf.l1 k x5 0 x814000 x814001) else (some ((-1), (-1), false))
def spec_BreakOf.l1 : Nat → Int → Int → List (List Int) → List Int → Option (Int × Int × Bool)
 | 0, _, _, _, _ => none
 | k + 1, x5, x6, x814000, x814001 => if x6 < (x814001.length : Int) then (if x5 = x6 then (spec_BreakOf.l1 k x5 (wrap64 (x6 + 1)) x814000 x814001) else (if 0 ≤ x5 then (if x5 < (x814000.length : Int) then (if 0 ≤ x6 then (if x6 < ((rd_L1 x814000 x5).length : Int) then (if (rd (rd_L1 x814000 x5) x6) = 1 then (if x5 < (x814001.length : Int) then ((spec_l1Meet.f k x814000 x6 (rd x814001 x5)).bind fun t818 => ((spec_l1Meet.f k x814000 x5 (rd x814001 x5)).bind fun t820 => (if t818 = t820 then (some (x5, x6, true)) else (spec_BreakOf.l1 k x5 (wrap64 (x6 + 1)) x814000 x814001)))) else (none)) else (spec_BreakOf.l1 k x5 (wrap64 (x6 + 1)) x814000 x814001)) else (none)) else (none)) else (none)) else (none))) else (spec_BreakOf.l0 k (wrap64 (x5 + 1)) x814000 x814001)
end
def spec_BreakOf.f (k : Nat) (l0_0 : List (List Int)) (l0_1 : List Int) : Option (Int × Int × Bool) := spec_BreakOf.l0 k 0 l0_0 l0_1
def impl_PartOf.f (l0_0 : List (List Int)) (l0_1 : List Int) (a1 : Int) : Option ((List (List Int)) × List Int) := some (partF l0_0 l0_1 a1)
def laws_FnBreakOf.j0 : Nat → Int → Int → Bool → Bool → List (List Int) → List Int → Option (Bool)
 | 0, _, _, _, _, _, _ => none
 | k + 1, x4, x5, x6, x41, x828000, x828001 => if x41 = true then (some false) else (if x6 = true then (if 0 ≤ x4 then (if 0 ≤ x5 then ((impl_MadeBy.f x828000 x828001 (Go.bits .or .i64 (shl .i64 1 x4) (shl .i64 1 x5))).bind fun t837 => ((impl_PartOf.f x828000 x828001 t837).bind fun bt838 => (if (bt838.2.length : Int) = 6 then ((impl_LogicOk.f bt838.1 bt838.2).bind fun t845 => (if t845 = true then ((impl_KeepsOk.f bt838.1 bt838.2).bind fun t846 => (if t846 = true then (some false) else ((impl_AtomsOf.f k bt838.1).bind fun t847 => (some ((t847.length : Int) == 2))))) else (some false))) else (some false)))) else (none)) else (none)) else (if x4 = (-1) then (if x5 = (-1) then ((impl_KeepsOk.f x828000 x828001).bind fun t834 => ((impl_LogicOk.f x828000 x828001).bind fun t835 => (if (t834 == t835) = true then ((laws_alive.f k).bind fun t836 => (some t836)) else (some false)))) else (some false)) else (some false)))
def laws_FnBreakOf.f (k : Nat) (l0 : List Int) : Option (Bool) := if (l0.length : Int) > 1048576 then (some true) else ((spec_DrawBreakOf.f k l0).bind fun bt821 => ((impl_BreakOf.f bt821.1 bt821.2).bind fun bt828 => ((spec_BreakOf.f k bt821.1 bt821.2).bind fun bt831 => (if bt828.1 = bt831.1 then (if bt828.2.1 = bt831.2.1 then (laws_FnBreakOf.j0 k bt828.1 bt828.2.1 bt828.2.2 (bt828.2.2 != bt831.2.2) bt821.1 bt821.2) else (laws_FnBreakOf.j0 k bt828.1 bt828.2.1 bt828.2.2 true bt821.1 bt821.2)) else (laws_FnBreakOf.j0 k bt828.1 bt828.2.1 bt828.2.2 true bt821.1 bt821.2)))))
def laws_FnBreakOf.Pure : Prop := ∀ (l0 : List Int), l0.length ≤ maxLen → l0.length * 1 ≤ 140737488351232 → (∀ x ∈ l0, (Lit.int .u8 x).wf = true) → ∃ k, laws_FnBreakOf.f k l0 = some true
def spec_DrawPartOf.f (k : Nat) (l0 : List Int) : Option ((List (List Int)) × List Int × Int) := (spec_l20Open.f l0).bind fun bt851 => ((spec_l20Some.f k bt851.1 bt851.2 12).bind fun bt854 => (some (bt854.1, bt854.2.1, bt854.2.2.1)))
mutual
def spec_PartOf.l0 : Nat → Int → List Int → Int → List (List Int) → List Int → Option ((List (List Int)) × List Int)
 | 0, _, _, _, _, _ => none
 | k + 1, x1, x6, x7, x863000, x863001 => if x7 < (x863001.length : Int) then (if 0 ≤ x7 then (if (Int.tmod (shr .i64 x1 x7) 2) = 1 then (if x6.length < 17592186044416 then (spec_PartOf.l0 k x1 (x6 ++ [x7]) (wrap64 (x7 + 1)) x863000 x863001) else (none)) else (spec_PartOf.l0 k x1 x6 (wrap64 (x7 + 1)) x863000 x863001)) else (none)) else (spec_PartOf.l1 k x6 0 x863000 x863001 ([] : List (List Int)) ([] : List Int))
def spec_PartOf.l1 : Nat → List Int → Int → List (List Int) → List Int → List (List Int) → List Int → Option ((List (List Int)) × List Int)
 | 0, _, _, _, _, _, _ => none
 | k + 1, x6, x8, x863000, x863001, x865000, x865001 => if x8 < (x6.length : Int) then (spec_PartOf.l2 k x6 x8 (([] : List Int)) 0 x863000 x863001 x865000 x865001) else (some (x865000, x865001))
def spec_PartOf.l2 : Nat → List Int → Int → List Int → Int → List (List Int) → List Int → List (List Int) → List Int → Option ((List (List Int)) × List Int)
 | 0, _, _, _, _, _, _, _, _ => none
 | k + 1, x6, x8, x9, x10, x863000, x863001, x865000, x865001 => if x10 < (x6.length : Int) then (if 0 ≤ x8 then (if x8 < (x6.length : Int) then (if 0 ≤ (rd x6 x8) then (if (rd x6 x8) < (x863000.length : Int) then (if 0 ≤ x10 then (if 0 ≤ (rd x6 x10) then (if (rd x6 x10) < ((rd_L1 x863000 (rd x6 x8)).length : Int) then (if x9.length < 17592186044416 then ((some (x9 ++ [rd (rd_L1 x863000 (rd x6 x8)) (rd x6 x10)] : List Int)).bind fun y879 => (if (rd x6 x8) < (x863001.length : Int) then (if (rd x863001 (rd x6 x8)) = (rd x6 x10) then (if x865001.length < 17592186044416 then (spec_PartOf.l2 k x6 x8 y879 (wrap64 (x10 + 1)) x863000 x863001 x865000 (x865001 ++ [x10])) else (none)) else (spec_PartOf.l2 k x6 x8 y879 (wrap64 (x10 + 1)) x863000 x863001 x865000 x865001)) else (none))) else (none)) else (none)) else (none)) else (none)) else (none)) else (none)) else (none)) else (none)) else (if x865000.length < 5864062014805 then (spec_PartOf.l1 k x6 (wrap64 (x8 + 1)) x863000 x863001 (x865000 ++ [x9]) x865001) else (none))
end
def spec_PartOf.f (k : Nat) (l0_0 : List (List Int)) (l0_1 : List Int) (a1 : Int) : Option ((List (List Int)) × List Int) := (spec_SubOk.f k l0_0 l0_1 a1).bind fun t865 => (if t865 = true then (spec_PartOf.l0 k a1 (([] : List Int)) 0 l0_0 l0_1) else (some (([] : List (List Int)), ([] : List Int))))
def laws_FnPartOf.f (k : Nat) (l0 : List Int) : Option (Bool) := if (l0.length : Int) > 1048576 then (some true) else ((spec_DrawPartOf.f k l0).bind fun bt891 => ((impl_PartOf.f bt891.1 bt891.2.1 bt891.2.2).bind fun bt899 => ((spec_PartOf.f k bt891.1 bt891.2.1 bt891.2.2).bind fun bt906 => ((laws_sameLogic.f k bt899.1 bt899.2 bt906.1 bt906.2).bind fun t912 => (if t912 = true then (if (bt899.2.length : Int) = 0 then ((laws_alive.f k).bind fun t913 => (some t913)) else ((impl_LogicOk.f bt899.1 bt899.2).bind fun t914 => (if t914 = true then ((impl_KeepsOk.f bt891.1 bt891.2.1).bind fun t915 => (if t915 = true then ((impl_KeepsOk.f bt899.1 bt899.2).bind fun t916 => (some t916)) else (some true))) else (some false)))) else (some false))))))
def laws_FnPartOf.Pure : Prop := ∀ (l0 : List Int), l0.length ≤ maxLen → l0.length * 1 ≤ 140737488351232 → (∀ x ∈ l0, (Lit.int .u8 x).wf = true) → ∃ k, laws_FnPartOf.f k l0 = some true
def impl_AndOf.f (l0_0 : List (List Int)) (l0_1 : List Int) (a1 : Int) (a2 : Int) : Option (Int) := some (andF l0_0 l0_1 a1 a2)
mutual
def spec_DrawRenamed.l0 : Nat → List Int → Int → List Int → Int → List (List Int) → List Int → Option ((List (List Int)) × List Int × List Int)
 | 0, _, _, _, _, _, _ => none
 | k + 1, x6, x7, x1037000, x1037001, x1045000, x1045001 => if x7 < (x1045001.length : Int) then ((spec_l20Rd_pick.f k x1037000 x1037001 (wrap64 (x7 + 1))).bind fun bt1052 => (if x6.length < 17592186044416 then (spec_DrawRenamed.l1 k (x6 ++ [x7]) x7 bt1052.1 x7 x1037000 bt1052.2 x1045000 x1045001) else (none))) else (if (x6.length : Int) > 0 then ((spec_l20Rd_odd.f k x1037000 x1037001 12).bind fun bt1048 => (if bt1048.1 = true then (if 0 ≤ (wrap64 ((x6.length : Int) - 1)) then (if (wrap64 ((x6.length : Int) - 1)) < (x6.length : Int) then (if 0 < (x6.length : Int) then (some (x1045000, x1045001, (x6.set (0 : Int).toNat (rd x6 (wrap64 ((x6.length : Int) - 1)))))) else (none)) else (none)) else (none)) else (some (x1045000, x1045001, x6)))) else (some (x1045000, x1045001, x6)))
def spec_DrawRenamed.l1 : Nat → List Int → Int → Int → Int → List Int → Int → List (List Int) → List Int → Option ((List (List Int)) × List Int × List Int)
 | 0, _, _, _, _, _, _, _, _ => none
 | k + 1, x6, x7, x8, x9, x1037000, x1037001, x1045000, x1045001 => if x9 > x8 then (if 0 ≤ (wrap64 (x9 - 1)) then (if (wrap64 (x9 - 1)) < (x6.length : Int) then (if 0 ≤ x9 then (if x9 < (x6.length : Int) then (spec_DrawRenamed.l1 k (x6.set (x9 : Int).toNat (rd x6 (wrap64 (x9 - 1)))) x7 x8 (wrap64 (x9 - 1)) x1037000 x1037001 x1045000 x1045001) else (none)) else (none)) else (none)) else (none)) else (if 0 ≤ x8 then (if x8 < (x6.length : Int) then (spec_DrawRenamed.l0 k (x6.set (x8 : Int).toNat x7) (wrap64 (x7 + 1)) x1037000 x1037001 x1045000 x1045001) else (none)) else (none))
end
def spec_DrawRenamed.f (k : Nat) (l0 : List Int) : Option ((List (List Int)) × List Int × List Int) := (spec_l20Open.f l0).bind fun bt1034 => ((spec_l20Logic.f k bt1034.1 bt1034.2 14).bind fun bt1037 => (spec_DrawRenamed.l0 k (([] : List Int)) 0 bt1034.1 bt1037.2.2 bt1037.1 bt1037.2.1))
def impl_Renamed.f (l0_0 : List (List Int)) (l0_1 : List Int) (l1 : List Int) : Option ((List (List Int)) × List Int) := if (l1.all fun x => (Lit.int .i64 x).wf) = true then some (renF l0_0 l0_1 l1) else none
mutual
def spec_Renamed.j0 : Nat → List Int → Bool → List (List Int) → List Int → Option ((List (List Int)) × List Int)
 | 0, _, _, _, _ => none
 | k + 1, x1, x23, x1061000, x1061001 => if x23 = true then (some (([] : List (List Int)), ([] : List Int))) else (if 0 ≤ (x1.length : Int) then (if ((x1.length : Int) : Int).toNat ≤ 35184372088832 then (spec_Renamed.l0 k x1 (List.replicate ((x1.length : Int) : Int).toNat 0) 0 0 x1061000 x1061001) else (none)) else (none))
def spec_Renamed.l0 : Nat → List Int → List Int → Int → Int → List (List Int) → List Int → Option ((List (List Int)) × List Int)
 | 0, _, _, _, _, _, _ => none
 | k + 1, x1, x6, x7, x8, x1061000, x1061001 => if x8 < (x1.length : Int) then (if 0 ≤ x8 then ((spec_l1In.f (rd x1 x8) 0 (wrap64 ((x1.length : Int) - 1))).bind fun t1068 => (if t1068 = true then (if 0 ≤ (rd x1 x8) then (if (rd x1 x8) < (x6.length : Int) then (spec_Renamed.l0 k x1 (x6.set ((rd x1 x8) : Int).toNat x8) (Go.bits .or .i64 x7 (shl .i64 1 (rd x1 x8))) (wrap64 (x8 + 1)) x1061000 x1061001) else (none)) else (none)) else (some (([] : List (List Int)), ([] : List Int))))) else (none)) else (if x7 = (wrap64 ((shl .i64 1 (x1.length : Int)) - 1)) then (spec_Renamed.l1 k x1 x6 0 x1061000 x1061001 ([] : List (List Int)) ([] : List Int)) else (some (([] : List (List Int)), ([] : List Int))))
def spec_Renamed.l1 : Nat → List Int → List Int → Int → List (List Int) → List Int → List (List Int) → List Int → Option ((List (List Int)) × List Int)
 | 0, _, _, _, _, _, _, _ => none
 | k + 1, x1, x6, x9, x1061000, x1061001, x1063000, x1063001 => if x9 < (x1.length : Int) then (spec_Renamed.l2 k x1 x6 x9 (([] : List Int)) 0 x1061000 x1061001 x1063000 x1063001) else (some (x1063000, x1063001))
def spec_Renamed.l2 : Nat → List Int → List Int → Int → List Int → Int → List (List Int) → List Int → List (List Int) → List Int → Option ((List (List Int)) × List Int)
 | 0, _, _, _, _, _, _, _, _, _ => none
 | k + 1, x1, x6, x9, x10, x11, x1061000, x1061001, x1063000, x1063001 => if x11 < (x1.length : Int) then (if 0 ≤ x9 then (if x9 < (x1.length : Int) then (if 0 ≤ (rd x1 x9) then (if (rd x1 x9) < (x1061000.length : Int) then (if 0 ≤ x11 then (if 0 ≤ (rd x1 x11) then (if (rd x1 x11) < ((rd_L1 x1061000 (rd x1 x9)).length : Int) then (if x10.length < 17592186044416 then (spec_Renamed.l2 k x1 x6 x9 (x10 ++ [rd (rd_L1 x1061000 (rd x1 x9)) (rd x1 x11)]) (wrap64 (x11 + 1)) x1061000 x1061001 x1063000 x1063001) else (none)) else (none)) else (none)) else (none)) else (none)) else (none)) else (none)) else (none)) else (if x1063000.length < 5864062014805 then (if 0 ≤ x9 then (if x9 < (x1.length : Int) then (if 0 ≤ (rd x1 x9) then (if (rd x1 x9) < (x1061001.length : Int) then (if 0 ≤ (rd x1061001 (rd x1 x9)) then (if (rd x1061001 (rd x1 x9)) < (x6.length : Int) then (if x1063001.length < 17592186044416 then (spec_Renamed.l1 k x1 x6 (wrap64 (x9 + 1)) x1061000 x1061001 (x1063000 ++ [x10]) (x1063001 ++ [rd x6 (rd x1061001 (rd x1 x9))])) else (none)) else (none)) else (none)) else (none)) else (none)) else (none)) else (none)) else (none))
end
def spec_Renamed.f (k : Nat) (l0_0 : List (List Int)) (l0_1 : List Int) (l1 : List Int) : Option ((List (List Int)) × List Int) := (spec_LogicOk.f k l0_0 l0_1).bind fun t1063 => (if t1063 = true then (spec_Renamed.j0 k l1 ((l1.length : Int) != (l0_1.length : Int)) l0_0 l0_1) else (spec_Renamed.j0 k l1 true l0_0 l0_1))
def spec_AndOf.f (k : Nat) (l0_0 : List (List Int)) (l0_1 : List Int) (a1 : Int) (a2 : Int) : Option (Int) := (spec_l2Both.f k l0_0 l0_1 a1 a2).bind fun t1092 => (if t1092 = true then ((spec_l1Meet.f k l0_0 a1 a2).bind fun t1093 => (some t1093)) else (some (-1)))
def laws_FnRenamed.l0 : Nat → List Int → Int → Int → List (List Int) → List Int → List (List Int) → List Int → Option (Bool)
 | 0, _, _, _, _, _, _, _ => none
 | k + 1, x4, x6, x7, x1104000, x1104001, x1111000, x1111001 => if x7 < x6 then (if x6 = 0 then (none) else ((spec_AndOf.f k x1111000 x1111001 x7 (Int.tmod (wrap64 ((wrap64 (x7 * 5)) + 1)) x6)).bind fun t1126 => (if t1126 < 0 then (some false) else (if 0 ≤ t1126 then (if t1126 < (x4.length : Int) then (if 0 ≤ x7 then (if x7 < (x4.length : Int) then (if 0 ≤ (Int.tmod (wrap64 ((wrap64 (x7 * 5)) + 1)) x6) then (if (Int.tmod (wrap64 ((wrap64 (x7 * 5)) + 1)) x6) < (x4.length : Int) then ((impl_AndOf.f x1104000 x1104001 (rd x4 x7) (rd x4 (Int.tmod (wrap64 ((wrap64 (x7 * 5)) + 1)) x6))).bind fun t1130 => (if (rd x4 t1126) = t1130 then (laws_FnRenamed.l0 k x4 x6 (wrap64 (x7 + 1)) x1104000 x1104001 x1111000 x1111001) else (some false))) else (none)) else (none)) else (none)) else (none)) else (none)) else (none))))) else ((impl_LogicOk.f x1111000 x1111001).bind fun t1119 => (if t1119 = true then ((impl_AtomsOf.f k x1111000).bind fun t1120 => ((impl_AtomsOf.f k x1104000).bind fun t1123 => (some ((t1120.length : Int) == (t1123.length : Int))))) else (some false)))
def laws_FnRenamed.f (k : Nat) (l0 : List Int) : Option (Bool) := if (l0.length : Int) > 1048576 then (some true) else ((spec_DrawRenamed.f k l0).bind fun bt1094 => ((impl_Renamed.f bt1094.1 bt1094.2.1 bt1094.2.2).bind fun bt1104 => ((spec_Renamed.f k bt1094.1 bt1094.2.1 bt1094.2.2).bind fun bt1111 => ((laws_sameLogic.f k bt1104.1 bt1104.2 bt1111.1 bt1111.2).bind fun t1117 => (if t1117 = true then (if (bt1104.2.length : Int) = 0 then ((laws_alive.f k).bind fun t1118 => (some t1118)) else (laws_FnRenamed.l0 k bt1094.2.2 (bt1094.2.2.length : Int) 0 bt1094.1 bt1094.2.1 bt1104.1 bt1104.2)) else (some false))))))
def laws_FnRenamed.Pure : Prop := ∀ (l0 : List Int), l0.length ≤ maxLen → l0.length * 1 ≤ 140737488351232 → (∀ x ∈ l0, (Lit.int .u8 x).wf = true) → ∃ k, laws_FnRenamed.f k l0 = some true
def spec_l5With.f (k : Nat) (l0_0 : List (List Int)) (l0_1 : List Int) (a1 : Int) (a2 : Int) : Option (Bool) := (spec_l1Meet.f k l0_0 a1 a2).bind fun t1268 => (if 0 ≤ a2 then (if a2 < (l0_1.length : Int) then ((spec_l1Meet.f k l0_0 a1 (rd l0_1 a2)).bind fun t1270 => ((spec_l1Join.f k l0_0 t1268 t1270).bind fun t1271 => (some (t1271 == a1)))) else (none)) else (none))
mutual
def spec_CentreOf.l0 : Nat → List Int → Int → List (List Int) → List Int → Option (List Int)
 | 0, _, _, _, _ => none
 | k + 1, x3, x4, x1273000, x1273001 => if x4 < (x1273001.length : Int) then ((spec_LogicOk.f k x1273000 x1273001).bind fun t1276 => (spec_CentreOf.j1 k x3 x4 t1276 x1273000 x1273001)) else (spec_CentreOf.j1 k x3 x4 false x1273000 x1273001)
def spec_CentreOf.j1 : Nat → List Int → Int → Bool → List (List Int) → List Int → Option (List Int)
 | 0, _, _, _, _, _ => none
 | k + 1, x3, x4, x16, x1273000, x1273001 => if x16 = true then (spec_CentreOf.l1 k x3 x4 true 0 x1273000 x1273001) else (some x3)
def spec_CentreOf.l1 : Nat → List Int → Int → Bool → Int → List (List Int) → List Int → Option (List Int)
 | 0, _, _, _, _, _, _ => none
 | k + 1, x3, x4, x5, x6, x1273000, x1273001 => if x6 < (x1273001.length : Int) then (if x5 = true then ((spec_l5With.f k x1273000 x1273001 x4 x6).bind fun t1277 => (if t1277 = true then ((spec_l5With.f k x1273000 x1273001 x6 x4).bind fun t1278 => (spec_CentreOf.l1 k x3 x4 t1278 (wrap64 (x6 + 1)) x1273000 x1273001)) else (spec_CentreOf.l1 k x3 x4 false (wrap64 (x6 + 1)) x1273000 x1273001))) else (spec_CentreOf.l1 k x3 x4 false (wrap64 (x6 + 1)) x1273000 x1273001)) else (if x5 = true then (if x3.length < 17592186044416 then (spec_CentreOf.l0 k (x3 ++ [x4]) (wrap64 (x4 + 1)) x1273000 x1273001) else (none)) else (spec_CentreOf.l0 k x3 (wrap64 (x4 + 1)) x1273000 x1273001))
end
def spec_CentreOf.f (k : Nat) (l0_0 : List (List Int)) (l0_1 : List Int) : Option (List Int) := spec_CentreOf.l0 k (([] : List Int)) 0 l0_0 l0_1
end Go.Proofs.Ytacifhahfamipaa.P

namespace Go.Proofs.Ytacifhahfamipaa.P
open Go.RowKit Go.Proofs.YtacifhahfamipaaW.PrintWords Go.Proofs.YtacifhahfamipaaW.PrintLast Go.Proofs.YtacifhahfamipaaW.PrintMore
attribute [local go_sem] max2_int min2_int max_two min_two max_three min_three max_four min_four
set_option linter.unusedVariables false
set_option linter.unusedSimpArgs false
theorem info3 : (Try.prog.info? 3).map (fun i => (i.zero, i.size, i.bytes)) = some (some (.int .i64 0), 1, 8) := by kernel_rfl
theorem info5 : (Try.prog.info? 5).map (fun i => (i.zero, i.size, i.bytes)) = some (some (.int .u8 0), 1, 1) := by kernel_rfl
theorem info25 : (Try.prog.info? 25).map (fun i => (i.zero, i.size, i.bytes)) = some (some (.slice none 0 0), 1, 24) := by kernel_rfl
end Go.Proofs.Ytacifhahfamipaa.P

namespace Go.Proofs.Ytacifhahfamipaa.P
open Go.RowKit Go.Proofs.YtacifhahfamipaaW.PrintWords Go.Proofs.YtacifhahfamipaaW.PrintLast Go.Proofs.YtacifhahfamipaaW.PrintMore
set_option linter.unusedVariables false
def bA (n m : Nat) : Array Bool := ((List.range n).map fun i => m.testBit i).toArray
section
variable {P : Program} {md : Region.Mode} {ops : Array Oper} {Q : Exit → Act → World → Prop} {S : World → Prop} {ds : List Nat} {i : Nat} {N : Option Tmp} {oi : Oper} {v : Value} {fuel : Nat} {l : Array Bool} {a a' : Act} {w : World}
theorem pu_ (l' : Array Bool) (h : wpAnyLast P md ops Q S ds fuel l' a' w) (hi : ops[i]? = some oi := by rfl) (hN : oi.dst = N := by rfl) (hc : anyB md ops l l' i = true := by first | exact any_of HT_.out (by kernel_rfl) | kernel_rfl)
    (hQ : ∀ c a w, Q (.panic c) (a.put oi.dst v) w → Q (.panic c) a w := by exact fun _ _ _ h => h)
    (hy : Yields P ops oi v a := by (refine Or.inl ⟨by rfl, ?_⟩; intro w'; go_simp; with_reducible rfl))
    (ha : a.put N v = a' := by (simp only [Act.put, List.setIfInBounds_toArray, List.set_cons_zero, List.set_cons_succ, i64_w, i32_w]; rfl))
     : wpAnyLast P md ops Q S ds (fuel + 1) l a w := pure_ l' hi hN hc hQ hy ha h
theorem of_ (l' : Array Bool) (h : wpAnyLast P md ops Q S ds fuel l' a' w) (hi : ops[i]? = some oi := by rfl) (hN : oi.dst = N := by rfl) (hc : anyB md ops l l' i = true := by first | exact any_of HT_.out (by kernel_rfl) | kernel_rfl)
    (hQ : ∀ c a w, Q (.panic c) (a.put oi.dst undef) w → Q (.panic c) a w := by exact fun _ _ _ h => h)
    (hy : Yields P ops oi undef a := by exact Or.inr ⟨by rfl, rfl⟩)
    (ha : a.put N undef = a' := by (simp only [Act.put, List.setIfInBounds_toArray, List.set_cons_zero, List.set_cons_succ, i64_w, i32_w]; rfl))
     : wpAnyLast P md ops Q S ds (fuel + 1) l a w := pure_ l' hi hN hc hQ hy ha h
theorem tk_ (l' : Array Bool) (h : wpAnyLast P md ops Q S ds fuel l' a' w) (hi : ops[i]? = some oi := by rfl) (hN : oi.dst = N := by rfl) (hc : takeB md ops ds l l' i = true := by first | exact take_ofW HT_.out HW_.out (by kernel_rfl) | kernel_rfl)
    (hQ : ∀ c a w, Q (.panic c) (a.put oi.dst v) w → Q (.panic c) a w := by exact fun _ _ _ h => h)
    (hy : YieldsIf P ops S oi v a := by (refine Or.inl ⟨by rfl, ?_⟩; intro w' hs_; (repeat (obtain ⟨_, hs_⟩ := hs_)); go_simp; with_reducible rfl)) (hS : S w := by exact hHeld)
    (ha : a.put N v = a' := by (simp only [Act.put, List.setIfInBounds_toArray, List.set_cons_zero, List.set_cons_succ, i64_w, i32_w]; rfl))
     : wpAnyLast P md ops Q S ds (fuel + 1) l a w := take_ l' hi hN hc hQ hy hS ha h
theorem no_ (h : wpAnyLast P md ops Q S ds fuel l a' w) (h0 : a.put N v = a' := by (simp only [Act.put, List.setIfInBounds_toArray, List.set_cons_zero, List.set_cons_succ, i64_w, i32_w]; rfl))  : wpAnyLast P md ops Q S ds fuel l (a.put N v) w := norm_ h0 h
end
section
variable {P : Program} {ops : Array Oper} {rest : List Oper} {o : Oper} {a : Act} {Q : Exit → Act → World → Prop}
theorem bx_ {W : World} {N : Tmp} {cs : Array Value} {t : TypeId} (h : ∀ g, g = W.heap.size → ∀ w1, w1.heap[g]? = some (.cells cs t (0, 0)) → Below W.heap.size W w1 → wpList P ops Q rest (a.put o.dst (.pointer (some ⟨g, 0, none⟩))) w1) (hd : o.dst = some N := by rfl) (hgd : o.guard = none := by rfl)
    (hrun : (execOp a.eval o).run P W = .ok (.value (.pointer (some ⟨W.heap.size, 0, none⟩))) (W.alloc (.cells cs t (0, 0))) := by first | (go_simp; done) | (go_simp; rfl))
     : wpList P ops Q (o :: rest) a W := box_event hgd hd hrun h
theorem gl_ {w : World} (N : Option Tmp) {f : FuncId} {fn : Func} (hf : P.funcs[f]? = some fn) {as_ : Array Operand} {ts : Array TypeId} (args : Array Value) (h : Calls P f args w fun e w' => ∃ v, e = .returned v ∧ wpList P ops Q rest (a.put N v) w') (hd : o.dst = N := by rfl) (hg : o.guard = none := by rfl) (hname : (fn.name == "runtime.NumGoroutine") = false := by kernel_rfl) (hb : fn.body.isSome = true := by rfl)
    (hop : o.op = .call { callee := .value (.func f), args := as_, argTypes := ts } := by rfl) (hargs : as_.map a.eval = args := by (try simp only [List.map_toArray, List.map_cons, List.map_nil]); first | done | rfl | (simp only [List.length_drop, List.length_take]; rfl))
     : wpList P ops Q (o :: rest) a w := goesL_ N hd hg hf hname hb args hop hargs h
theorem ge_ {w : World} {N : Option Tmp} {K : Act → World → Prop} {f : FuncId} {fn : Func} {as_ : Array Operand} {ts : Array TypeId} (hf : P.funcs[f]? = some fn) (args : Array Value) (h : Calls P f args w fun e w' => ∃ v, e = .returned v ∧ K (a.put N v) w') (hname : (fn.name == "runtime.NumGoroutine") = false := by kernel_rfl) (hb : fn.body.isSome = true := by rfl)
    (hw : Region.wanted o (yielded ops a.tmps) = true := by rfl) (hN : o.dst = N := by rfl) (hop : o.op = .call { callee := .value (.func f), args := as_, argTypes := ts } := by rfl) (hargs : as_.map a.eval = args := by (try simp only [List.map_toArray, List.map_cons, List.map_nil]); first | done | rfl | (simp only [List.length_drop, List.length_take]; rfl))
     : if Region.wanted o (yielded ops a.tmps) = true then Oper.wp P o a w K Q else K (a.put N undef) w := goes_ hf hname hb args hw hN hop hargs h
end
theorem cz20 {w : World} {g : Nat} {t : TypeId} {x y : Value} (h : w.heap[g]? = some (.cells #[x, y] t (0, 0))) : w.cell? ⟨g, 0, none⟩ = some x := (blk_cell h 0).trans rfl
theorem cz21 {w : World} {g : Nat} {t : TypeId} {x y : Value} (h : w.heap[g]? = some (.cells #[x, y] t (0, 0))) : w.cell? ⟨g, 1, none⟩ = some y := (blk_cell h 1).trans rfl
theorem y1 {p q : Prop} (h0 : p) (h : p → q := by intro y0_; (repeat (first | exact (Kd.S_reads' y0_).2.2 | exact (Kd.Q_reads' y0_).2.2 | exact (Kd.R_reads' y0_).2.2 | exact (Kd.N_reads' y0_).2.2 | (with_reducible refine Kd.C_alloc ?_ _) | (with_reducible refine Kd.C_drewN ?_ _) | (with_reducible refine Kd.C_drew ?_)))) : q := h h0
theorem y2 {p q : Prop} (h0 : p) (h : p → q := by intro y0_; first | exact (Kd.S_reads' y0_).2.1 | exact (Kd.Q_reads' y0_).2.1 | exact (Kd.R_reads' y0_).2.1 | exact (Kd.N_reads' y0_).2.1) : q := h h0
theorem y3 {p r q : Prop} (h0 : p) (h1 : r) (h : p → r → q := by intro y0_ y1_; (repeat (first | exact (Kd.C_below y0_ y1_) | (with_reducible refine Kd.C_alloc ?_ _) | (with_reducible refine Kd.C_drewN ?_ _) | (with_reducible refine Kd.C_drew ?_)))) : q := h h0 h1
theorem y4 {p q : Prop} (h0 : p) (h : p → q := by intro y0_; (repeat (first | exact y0_ | (with_reducible refine Kd.C_alloc ?_ _) | (with_reducible refine Kd.C_drewN ?_ _) | (with_reducible refine Kd.C_drew ?_)))) : q := h h0
theorem bd_ {α β : Type} {o : Option α} {f : α → Option β} {r : β} (h : o.bind f = some r) : ∃ a, Aside0 (o = some a) ∧ f a = some r :=
 match Option.bind_eq_some_iff.mp h with | ⟨a, h1, h2⟩ => ⟨a, ⟨h1⟩, h2⟩
theorem nf_ : ¬ (false = true) := by decide
section
variable {α : Type} [BEq α] [LawfulBEq α] {a b : α}
theorem bt_ (h : a = b) : (a == b) = true := beq_iff_eq.mpr h
theorem bu_ (h : a = b) : (a != b) = false := bne_eq_false_iff_eq.mpr h
theorem bv_ (h : ¬ a = b) : (a == b) = false := beq_eq_false_iff_ne.mpr h
theorem bw_ (h : ¬ a = b) : (a != b) = true := bne_iff_ne.mpr h
end
theorem dT_ {p : Prop} [Decidable p] (h : p) : decide p = true := decide_eq_true h
theorem dF_ {p : Prop} [Decidable p] (h : ¬ p) : decide p = false := decide_eq_false h
section
variable {α : Type} {p q : Prop}
theorem ok_ [Decidable p] {x : Option α} {r : α} (h : (if p then x else none) = some r) : p ∧ x = some r := by
 by_cases k : p
 ·rw [if_pos k] at h
  exact ⟨k, h⟩
 ·rw [if_neg k] at h
  exact absurd h (by simp)
theorem od_ [Decidable p] {x : Option α} {r : α} (h : (if p then x else none) = some r) : decide p = true ∧ x = some r := ⟨decide_eq_true (ok_ h).1, (ok_ h).2⟩
theorem oa_ [Decidable p] (h : decide p = true := by first | (with_reducible assumption) | assumption) : p := of_decide_eq_true h
theorem xS (h0 : p) (h : p → q := by intro y0_; (with_reducible repeat (first | apply Kd.S_alloc | apply Kd.S_drewN | apply Kd.S_drew)); exact y0_) : q := h h0
theorem xR (h0 : p) (h : p → q := by intro y0_; (with_reducible repeat (first | apply Kd.R_alloc | apply Kd.R_drewN | apply Kd.R_drew)); exact y0_) : q := h h0
theorem xQ (h0 : p) (h : p → q := by intro y0_; (with_reducible repeat (first | apply Kd.Q_alloc | apply Kd.Q_drewN | apply Kd.Q_drew)); exact y0_) : q := h h0
theorem xN (h0 : p) (h : p → q := by intro y0_; (with_reducible repeat (first | apply Kd.N_alloc | apply Kd.N_drewN | apply Kd.N_drew)); exact y0_) : q := h h0
theorem xb (h0 : p) (h : p → q := by intro y0_; (with_reducible repeat (first | refine blk_drewN ?_ _ | refine blk_drew ?_ | refine blk_alloc ?_ _)); exact y0_) : q := h h0
end
theorem al_ {w : World} {A : Option Addr} {n : Nat} {xs : List (List Int)} (h : Kd.C (Kd.slice 3 (Kd.int .i64)) w A n xs) (i : Int) (h0 : decide (0 ≤ i) = true := by first | (with_reducible assumption) | assumption) (h1 : decide (i < (n : Int)) = true := by first | (with_reducible assumption) | assumption) :
    ∃ ad A0 c0, A = some ad ∧ w.cell? (ad.add i.toNat) = some (.slice A0 (rd_L1 xs i).length c0) ∧ Aside0 ((rd_L1 xs i).length ≤ c0) ∧ Aside0 ((Kd.int .i64).C w A0 (rd_L1 xs i).length (rd_L1 xs i)) ∧ ((0 ≤ i) = True) ∧ ((i < (n : Int)) = True) := by
  obtain ⟨ad, A0, c0, h2, h3, h4, h5⟩ := at_L1 h i (of_decide_eq_true h0) (of_decide_eq_true h1)
  exact ⟨ad, A0, c0, h2, h3, ⟨h4⟩, ⟨h5⟩, eq_true (of_decide_eq_true h0), eq_true (of_decide_eq_true h1)⟩
theorem ai_ {w : World} {A : Option Addr} {n : Nat} {k : IntKind} {xs : List Int} (h : (Kd.int k).C w A n xs) (i : Int) (h0 : decide (0 ≤ i) = true := by first | (with_reducible assumption) | assumption) (h1 : decide (i < (n : Int)) = true := by first | (with_reducible assumption) | assumption) :
    ∃ ad, A = some ad ∧ w.cell? (ad.add i.toNat) = some (.int k (rd xs i)) ∧ ((0 ≤ i) = True) ∧ ((i < (n : Int)) = True) := by
  obtain ⟨ad, h2, h3⟩ := Kd.at_int h i (of_decide_eq_true h0) (of_decide_eq_true h1)
  exact ⟨ad, h2, h3, eq_true (of_decide_eq_true h0), eq_true (of_decide_eq_true h1)⟩
theorem ak {p : Prop} (h : p) : Aside0 p := ⟨h⟩
theorem ij_ {α : Type} {a b : α} (h : some a = some b) : a = b := Option.some.inj h
theorem is_ {o : Option Value} {A B : Option Addr} {n m c d : Nat} (h : o = some (.slice A n c)) (k : o = some (.slice B m d)) : A = B ∧ c = d := by
 have e := Option.some.inj (h.symm.trans k)
 injection e with e1 e2 e3
 exact ⟨e1, e3⟩
section
variable {α : Type} {p p2 p3 p4 p5 p6 : Prop} [Decidable p] [Decidable p2] [Decidable p3] [Decidable p4] [Decidable p5] [Decidable p6] {x y : Option α} {r : α}
theorem od2 (h : (if p then if p2 then x else none else none) = some r) : decide p = true ∧ decide p2 = true ∧ x = some r := ⟨(od_ h).1, od_ (od_ h).2⟩
theorem od3 (h : (if p then if p2 then if p3 then x else none else none else none) = some r) : decide p = true ∧ decide p2 = true ∧ decide p3 = true ∧ x = some r := ⟨(od_ h).1, od2 (od_ h).2⟩
theorem od4 (h : (if p then if p2 then if p3 then if p4 then x else none else none else none else none) = some r) : decide p = true ∧ decide p2 = true ∧ decide p3 = true ∧ decide p4 = true ∧ x = some r := ⟨(od_ h).1, od3 (od_ h).2⟩
theorem od5 (h : (if p then if p2 then if p3 then if p4 then if p5 then x else none else none else none else none else none) = some r) : decide p = true ∧ decide p2 = true ∧ decide p3 = true ∧ decide p4 = true ∧ decide p5 = true ∧ x = some r := ⟨(od_ h).1, od4 (od_ h).2⟩
theorem od6 (h : (if p then if p2 then if p3 then if p4 then if p5 then if p6 then x else none else none else none else none else none else none) = some r) : decide p = true ∧ decide p2 = true ∧ decide p3 = true ∧ decide p4 = true ∧ decide p5 = true ∧ decide p6 = true ∧ x = some r := ⟨(od_ h).1, od5 (od_ h).2⟩
theorem os_ (h : (if p then x else y) = some r) : decide p = true ∧ x = some r ∨ decide p = false ∧ y = some r := by
 by_cases k : p
 ·rw [if_pos k] at h
  exact .inl ⟨decide_eq_true k, h⟩
 ·rw [if_neg k] at h
  exact .inr ⟨decide_eq_false k, h⟩
theorem oe2 {β : Type} [BEq β] [LawfulBEq β] {a b : β} [Decidable (a = b)] (h : (if a = b then x else y) = some r) : (a = b ∧ (a == b) = true ∧ (a != b) = false) ∧ x = some r ∨ ((¬ a = b) ∧ (a == b) = false ∧ (a != b) = true) ∧ y = some r := by
 by_cases k : a = b
 ·rw [if_pos k] at h
  exact .inl ⟨⟨k, bt_ k, bu_ k⟩, h⟩
 ·rw [if_neg k] at h
  exact .inr ⟨⟨k, bv_ k, bw_ k⟩, h⟩
end
section
variable {α : Type} {p : Prop} {x y : Option α} {r : α}
theorem op_ [Decidable p] (h : (if p then x else y) = some r) : p ∧ x = some r ∨ ¬ p ∧ y = some r := by
 by_cases k : p
 ·rw [if_pos k] at h
  exact .inl ⟨k, h⟩
 ·rw [if_neg k] at h
  exact .inr ⟨k, h⟩
theorem ox_ {b : Bool} (h : (if b = true then x else y) = some r) : b = true ∧ x = some r ∨ b = false ∧ y = some r := by
 cases b with
 | true => exact .inl ⟨rfl, by rw [if_pos rfl] at h; exact h⟩
 | false => exact .inr ⟨rfl, by rw [if_neg nf_] at h; exact h⟩
end
end Go.Proofs.Ytacifhahfamipaa.P

namespace Go.Proofs.Ytacifhahfamipaa.P
open Go.RowKit Go.Proofs.YtacifhahfamipaaW.PrintWords Go.Proofs.YtacifhahfamipaaW.PrintLast Go.Proofs.YtacifhahfamipaaW.PrintMore
attribute [local go_sem] max2_int min2_int max_two min_two max_three min_three max_four min_four
set_option linter.unusedVariables false
set_option linter.unusedSimpArgs false
theorem z6_3 {p : Prop} (h : p := by have := a9.out; have := HK2.out; have := d7.out; have := HK4.out; have := d3.out; omega) : p := h
theorem z6_2 {p : Prop} (h : p := by have := a9.out; have := HK2.out; have := HK3.out; have := HK4.out; have := HK5.out; omega) : p := h
theorem z6_1 {p : Prop} (h : p := by first | rfl | (simp; done) | (simp [*]; done)) : p := h
theorem z6_0 {p : Prop} (h : p := by repeat (first | exact Drawn0.refl _ | apply Drawn0.step)) : p := h
set_option maxHeartbeats 8000000 in
set_option maxRecDepth 100000 in
theorem impl_OrderOk.calls (k : Nat) (A0 : Option Addr) (c0 : Nat) (l0 : List (List Int)) (r : Bool) (w : World) (hr0 : Kd.C (Kd.slice 3 (Kd.int .i64)) w A0 l0.length l0) (hc0 : l0.length ≤ c0) (h : impl_OrderOk.f k l0 = some r) :
 Calls Try.prog 67 #[.slice A0 l0.length c0] w fun e w' => e = .returned (.bool r) ∧ Drawn0 w w' := by
 have HR0 := ak hr0
 have m8 := ak hc0
 clear hr0 hc0
 have H : (if (l0.length : Int) < 1 then (impl_OrderOk.j0 k l0 (l0.length : Int) true) else (impl_OrderOk.j0 k l0 (l0.length : Int) (decide ((l0.length : Int) > 12)))) = some r := h
 clear h
 have h4 := ak H
 clear H
 go_enter Try.func67, Try.ntmps67
 go_upto_region 2 with (fail)
 go_cut [18] (fun k8 wc => ∃ (kq : Nat) (b6 : Bool), k8 = .bool b6 ∧ Aside0 (impl_OrderOk.j0 kq l0 (l0.length : Int) b6 = some r) ∧ Aside0 (kq ≤ k) ∧ Drawn0 w wc)
 case first =>
  have H := h4.out
  clear h4
  replace H := op_ H
  rcases H with ⟨c3, H⟩ | ⟨c3, H⟩
  ·
   have b7 : decide ((l0.length : Int) < 1) = true := dT_ c3
   have h5 : decide (l0.length < 1) = true := dT_ (by omega)
   clear c3
   (first | rw [b7] | (simp only [i64_w, i32_w]; rw [b7]) | skip)
   have H' := ak H
   clear H
   go_wp2
   go_meet
   case rel => exact ⟨_, (true), z6_1, H', ⟨(by first | omega | exact Nat.le_refl _)⟩, z6_0⟩
  have b7 : decide ((l0.length : Int) < 1) = false := dF_ c3
  have h5 : decide (l0.length < 1) = false := dF_ (by omega)
  clear c3
  (first | rw [b7] | (simp only [i64_w, i32_w]; rw [b7]) | skip)
  have H' := ak H
  clear H
  go_wp2
  go_meet
  case rel => exact ⟨_, (decide ((l0.length : Int) > 12)), z6_1, H', ⟨(by first | omega | exact Nat.le_refl _)⟩, z6_0⟩
 case rest =>
  clear h4
  obtain ⟨kq, b6, rfl, HA, a9, ⟨mc1, rfl⟩⟩ := hcut
  cases kq with
  | zero => exact absurd HA.out (by simp [impl_OrderOk.j0])
  | succ i6 =>
   have H := HA.out
   clear HA
   simp only [impl_OrderOk.j0] at H
   replace H := ox_ H
   rcases H with ⟨rfl, H⟩ | ⟨rfl, H⟩
   ·
    obtain rfl := Option.some.inj H
    go_wp2
    go_ret
    exact ⟨z6_1, z6_0⟩
   have H' := ak H
   clear H
   go_wp2
   go_loopg [21] i6 (fun kq k9 w' => ∃ (a0 : Int), k9 = .int .i64 a0 ∧ Aside0 (impl_OrderOk.l0 kq l0 (l0.length : Int) l0 (l0.length : Int) a0 = some r) ∧ Aside0 (kq ≤ i6) ∧ Drawn0 w w')
   case atStart => exact ⟨(0), z6_1, H', ⟨Nat.le_refl _⟩, z6_0⟩
   case round =>
    clear H'
    try clear c4
    obtain ⟨a0, rfl, HA, HK2, ⟨m2, rfl⟩⟩ := hrel
    cases gk with
    | zero => exact absurd HA.out (by simp [impl_OrderOk.l0])
    | succ k2 =>
     have H := HA.out
     clear HA
     simp only [impl_OrderOk.l0] at H
     replace H := os_ H
     rcases H with ⟨b1, H⟩ | ⟨b1, H⟩
     ·
      replace H := od2 H
      obtain ⟨e0, e1, H⟩ := H
      have h6 := ak H
      clear H
      obtain ⟨ad148, h7, h8, e148, hx148_0, h3, HR148_0, e2, q148⟩ := al_ HR0.out a0
      cases e148
      go_upto_region 7 with (fail)
      go_cut [36] (fun l5 wc => ∃ (kq : Nat) (b8 : Bool), l5 = .bool b8 ∧ Aside0 (impl_OrderOk.j2 kq l0 (l0.length : Int) a0 (rd_L1 l0 a0) l0 (l0.length : Int) a0 b8 = some r) ∧ Aside0 (kq ≤ k2) ∧ Drawn0 w wc)
      case first =>
       have H := h6.out
       clear h6
       replace H := oe2 H
       rcases H with ⟨⟨c9, b9, h9⟩, H⟩ | ⟨⟨c9, b9, h9⟩, H⟩
       ·
        have i0 : ((rd_L1 l0 a0).length == l0.length) = true := by first | simpa using c9 | (simp at c9 ⊢; omega)
        clear c9
        (first | rw [b9] | (simp only [i64_w, i32_w]; rw [b9]) | skip)
        replace H := od_ H
        obtain ⟨i7, H⟩ := H
        have H' := ak H
        clear H
        obtain ⟨ad149, e149, hx149_0, l6, q149⟩ := ai_ HR148_0.out a0
        cases e149
        go_wp2
        go_meet
        case rel => exact ⟨_, (((rd (rd_L1 l0 a0) a0) != 1)), z6_1, H', ⟨(by have := a9.out; have := HK2.out; first | omega | exact Nat.le_refl _)⟩, z6_0⟩
       have i0 : ((rd_L1 l0 a0).length == l0.length) = false := by first | simpa using c9 | (simp at c9 ⊢; omega)
       (first | rw [b9] | (simp only [i64_w, i32_w]; rw [b9]) | skip)
       have H' := ak H
       clear H
       go_wp2
       go_meet
       case rel => exact ⟨_, (true), z6_1, H', ⟨(by have := a9.out; have := HK2.out; first | omega | exact Nat.le_refl _)⟩, z6_0⟩
      case rest =>
       clear h6
       try clear c4
       try clear c5
       try clear b1
       try clear c6
       try clear e0
       try clear c7
       try clear e1
       try clear hx148_0
       try clear e2
       try clear q148
       obtain ⟨kq, b8, rfl, HA, d7, ⟨mc7, rfl⟩⟩ := hcut
       cases kq with
       | zero => exact absurd HA.out (by simp [impl_OrderOk.j2])
       | succ i8 =>
        have H := HA.out
        clear HA
        simp only [impl_OrderOk.j2] at H
        replace H := ox_ H
        rcases H with ⟨rfl, H⟩ | ⟨rfl, H⟩
        ·
         obtain rfl := Option.some.inj H
         go_wp2
         go_ret
         exact ⟨z6_1, z6_0⟩
        have H' := ak H
        clear H
        go_wp2
        go_loopg [39] i8 (fun kq l7 w' => ∃ (a1 : Int), l7 = .int .i64 a1 ∧ Aside0 (impl_OrderOk.l1 kq l0 (l0.length : Int) a0 l0 (l0.length : Int) a0 (rd_L1 l0 a0) ((rd_L1 l0 a0).length : Int) a1 = some r) ∧ Aside0 (kq ≤ i8) ∧ Drawn0 w w')
        case atStart => exact ⟨(0), z6_1, H', ⟨Nat.le_refl _⟩, z6_0⟩
        case round =>
         clear H'
         try clear c4
         try clear c5
         try clear b1
         try clear c6
         try clear e0
         try clear c7
         try clear e1
         try clear l8
         try clear hx148_0
         try clear e2
         try clear q148
         obtain ⟨a1, rfl, HA, HK4, ⟨m4, rfl⟩⟩ := hrel
         cases gk with
         | zero => exact absurd HA.out (by simp [impl_OrderOk.l1])
         | succ k4 =>
          have H := HA.out
          clear HA
          simp only [impl_OrderOk.l1] at H
          replace H := os_ H
          rcases H with ⟨d8, H⟩ | ⟨d8, H⟩
          ·
           replace H := od2 H
           obtain ⟨f2, f3, H⟩ := H
           have e3 := ak H
           clear H
           obtain ⟨ad150, e150, hx150_0, i1, q150⟩ := ai_ HR148_0.out a1
           cases e150
           go_upto_region 12 with (fail)
           go_cut [49] (fun l9 wc => ∃ (kq : Nat) (b2 : Bool), l9 = .bool b2 ∧ Aside0 (impl_OrderOk.j4 kq l0 (l0.length : Int) a0 a1 (rd (rd_L1 l0 a0) a1) l0 (l0.length : Int) a0 (rd_L1 l0 a0) ((rd_L1 l0 a0).length : Int) a1 b2 = some r) ∧ Aside0 (kq ≤ k4) ∧ Drawn0 w wc)
           case first =>
            have H := e3.out
            clear e3
            replace H := oe2 H
            rcases H with ⟨⟨-, b0, f4⟩, H⟩ | ⟨⟨m9, b0, f4⟩, H⟩
            ·
             (first | rw [b0] | (simp only [i64_w, i32_w]; rw [b0]) | skip)
             have H' := ak H
             clear H
             go_wp2
             go_meet
             case rel => exact ⟨_, (false), z6_1, H', ⟨(by have := a9.out; have := HK2.out; have := d7.out; have := HK4.out; first | omega | exact Nat.le_refl _)⟩, z6_0⟩
            (first | rw [b0] | (simp only [i64_w, i32_w]; rw [b0]) | skip)
            have H' := ak H
            clear H
            go_wp2
            go_meet
            case rel => exact ⟨_, (((rd (rd_L1 l0 a0) a1) != 1)), z6_1, H', ⟨(by have := a9.out; have := HK2.out; have := d7.out; have := HK4.out; first | omega | exact Nat.le_refl _)⟩, z6_0⟩
           case rest =>
            clear e3
            try clear c4
            try clear c5
            try clear b1
            try clear c6
            try clear e0
            try clear c7
            try clear e1
            try clear l8
            try clear n0
            try clear d8
            try clear n1
            try clear f2
            try clear n2
            try clear f3
            try clear hx148_0
            try clear hx150_0
            try clear e2
            try clear i1
            try clear q148
            try clear q150
            obtain ⟨kq, b2, rfl, HA, d3, ⟨mc14, rfl⟩⟩ := hcut
            cases kq with
            | zero => exact absurd HA.out (by simp [impl_OrderOk.j4])
            | succ e4 =>
             have H := HA.out
             clear HA
             simp only [impl_OrderOk.j4] at H
             replace H := ox_ H
             rcases H with ⟨rfl, H⟩ | ⟨rfl, H⟩
             ·
              obtain rfl := Option.some.inj H
              go_wp2
              go_ret
              exact ⟨z6_1, z6_0⟩
             replace H := od2 H
             obtain ⟨i9, j1, H⟩ := H
             replace H := oe2 H
             rcases H with ⟨⟨f1, f5, f6⟩, H⟩ | ⟨⟨f1, f5, f6⟩, H⟩
             ·
              have f7 : ((rd_L1 l0 a1).length == l0.length) = true := by first | simpa using f1 | (simp at f1 ⊢; omega)
              clear f1
              replace H := oe2 H
              rcases H with ⟨⟨-, f8, f9⟩, H⟩ | ⟨⟨n3, f8, f9⟩, H⟩
              ·
               replace H := oe2 H
               rcases H with ⟨⟨-, g0, g1⟩, H⟩ | ⟨⟨n4, g0, g1⟩, H⟩
               ·
                have H' := ak H
                clear H
                obtain ⟨ad151, a6, a7, e151, hx151_0, a5, HR151_0, d4, q151⟩ := al_ HR0.out a1
                obtain rfl := ij_ e151
                go_wp2
                go_roundg e4
                case measure => have := a9.out; have := HK2.out; have := d7.out; have := HK4.out; have := d3.out; omega
                case rel => exact ⟨(wrap64 (a1 + 1)), z6_1, H', ⟨z6_3⟩, z6_0⟩
               replace H := od2 H
               obtain ⟨j3, j5, H⟩ := H
               replace H := oe2 H
               rcases H with ⟨⟨-, g2, g3⟩, H⟩ | ⟨⟨n5, g2, g3⟩, H⟩
               ·
                obtain rfl := Option.some.inj H
                obtain ⟨ad151, a6, a7, e151, hx151_0, a5, HR151_0, d4, q151⟩ := al_ HR0.out a1
                obtain rfl := ij_ e151
                obtain ⟨ad152, e5, e6, e152, hx152_0, d5, HR152_0, i2, q152⟩ := al_ HR0.out a1
                obtain rfl := ij_ e152
                obtain ⟨rfl, rfl⟩ := is_ hx151_0 hx152_0
                obtain ⟨ad153, e153, hx153_0, i3, q153⟩ := ai_ HR152_0.out a0
                cases e153
                go_wp2
                go_ret
                exact ⟨z6_1, z6_0⟩
               have H' := ak H
               clear H
               obtain ⟨ad151, a6, a7, e151, hx151_0, a5, HR151_0, d4, q151⟩ := al_ HR0.out a1
               obtain rfl := ij_ e151
               obtain ⟨ad152, e5, e6, e152, hx152_0, d5, HR152_0, i2, q152⟩ := al_ HR0.out a1
               obtain rfl := ij_ e152
               obtain ⟨rfl, rfl⟩ := is_ hx151_0 hx152_0
               obtain ⟨ad153, e153, hx153_0, i3, q153⟩ := ai_ HR152_0.out a0
               cases e153
               go_wp2
               go_roundg e4
               case measure => have := a9.out; have := HK2.out; have := d7.out; have := HK4.out; have := d3.out; omega
               case rel => exact ⟨(wrap64 (a1 + 1)), z6_1, H', ⟨z6_3⟩, z6_0⟩
              have H' := ak H
              clear H
              obtain ⟨ad151, a6, a7, e151, hx151_0, a5, HR151_0, d4, q151⟩ := al_ HR0.out a1
              obtain rfl := ij_ e151
              go_wp2
              go_roundg e4
              case measure => have := a9.out; have := HK2.out; have := d7.out; have := HK4.out; have := d3.out; omega
              case rel => exact ⟨(wrap64 (a1 + 1)), z6_1, H', ⟨z6_3⟩, z6_0⟩
             have f7 : ((rd_L1 l0 a1).length == l0.length) = false := by first | simpa using f1 | (simp at f1 ⊢; omega)
             obtain rfl := Option.some.inj H
             obtain ⟨ad151, a6, a7, e151, hx151_0, a5, HR151_0, d4, q151⟩ := al_ HR0.out a1
             obtain rfl := ij_ e151
             go_wp2
             go_ret
             exact ⟨z6_1, z6_0⟩
          have H' := ak H
          clear H
          go_wp2
          go_roundg k4
          case measure => have := a9.out; have := HK2.out; have := d7.out; have := HK4.out; omega
          case rel => exact ⟨(wrap64 (a0 + 1)), z6_1, H', ⟨(by have := a9.out; have := HK2.out; have := d7.out; have := HK4.out; omega)⟩, z6_0⟩
     have H' := ak H
     clear H
     go_wp2
     go_loopg [79] k2 (fun kq m0 w' => ∃ (a2 : Int), m0 = .int .i64 a2 ∧ Aside0 (impl_OrderOk.l2 kq l0 (l0.length : Int) (l0.length : Int) a2 = some r) ∧ Aside0 (kq ≤ k2) ∧ Drawn0 w w')
     case atStart => exact ⟨(0), z6_1, H', ⟨Nat.le_refl _⟩, z6_0⟩
     case round =>
      clear H'
      try clear c4
      try clear c5
      try clear b1
      obtain ⟨a2, rfl, HA, HK3, ⟨m3, rfl⟩⟩ := hrel
      cases gk with
      | zero => exact absurd HA.out (by simp [impl_OrderOk.l2])
      | succ k3 =>
       have H := HA.out
       clear HA
       simp only [impl_OrderOk.l2] at H
       replace H := os_ H
       rcases H with ⟨d0, H⟩ | ⟨d0, H⟩
       ·
        have H' := ak H
        clear H
        go_wp2
        go_loopg [83] k3 (fun kq m1 w' => ∃ (a3 : Int), m1 = .int .i64 a3 ∧ Aside0 (impl_OrderOk.l3 kq l0 (l0.length : Int) a2 (l0.length : Int) a2 (l0.length : Int) a3 = some r) ∧ Aside0 (kq ≤ k3) ∧ Drawn0 w w')
        case atStart => exact ⟨(0), z6_1, H', ⟨Nat.le_refl _⟩, z6_0⟩
        case round =>
         clear H'
         try clear c4
         try clear c5
         try clear b1
         try clear m6
         try clear d0
         obtain ⟨a3, rfl, HA, HK4, ⟨m4, rfl⟩⟩ := hrel
         cases gk with
         | zero => exact absurd HA.out (by simp [impl_OrderOk.l3])
         | succ k4 =>
          have H := HA.out
          clear HA
          simp only [impl_OrderOk.l3] at H
          replace H := os_ H
          rcases H with ⟨d9, H⟩ | ⟨d9, H⟩
          ·
           have H' := ak H
           clear H
           go_wp2
           go_loopg [87] k4 (fun kq m7 w' => ∃ (a4 : Int), m7 = .int .i64 a4 ∧ Aside0 (impl_OrderOk.l4 kq l0 (l0.length : Int) a2 a3 (l0.length : Int) a2 (l0.length : Int) a3 (l0.length : Int) a4 = some r) ∧ Aside0 (kq ≤ k4) ∧ Drawn0 w w')
           case atStart => exact ⟨(0), z6_1, H', ⟨Nat.le_refl _⟩, z6_0⟩
           case round =>
            clear H'
            try clear c4
            try clear c5
            try clear b1
            try clear m6
            try clear d0
            try clear n6
            try clear d9
            obtain ⟨a4, rfl, HA, HK5, ⟨m5, rfl⟩⟩ := hrel
            cases gk with
            | zero => exact absurd HA.out (by simp [impl_OrderOk.l4])
            | succ k5 =>
             have H := HA.out
             clear HA
             simp only [impl_OrderOk.l4] at H
             replace H := os_ H
             rcases H with ⟨g4, H⟩ | ⟨g4, H⟩
             ·
              replace H := od4 H
              obtain ⟨j6, j7, j8, j9, H⟩ := H
              replace H := oe2 H
              rcases H with ⟨⟨-, g5, g6⟩, H⟩ | ⟨⟨n7, g5, g6⟩, H⟩
              ·
               replace H := od3 H
               obtain ⟨k0, k1, k6, H⟩ := H
               replace H := oe2 H
               rcases H with ⟨⟨-, g7, g8⟩, H⟩ | ⟨⟨n8, g7, g8⟩, H⟩
               ·
                replace H := od_ H
                obtain ⟨k7, H⟩ := H
                replace H := oe2 H
                rcases H with ⟨⟨-, g9, h0⟩, H⟩ | ⟨⟨n9, g9, h0⟩, H⟩
                ·
                 have H' := ak H
                 clear H
                 obtain ⟨ad154, b3, b4, e154, hx154_0, a8, HR154_0, e7, q154⟩ := al_ HR0.out a2
                 cases e154
                 obtain ⟨ad155, e155, hx155_0, e8, q155⟩ := ai_ HR154_0.out a3
                 cases e155
                 obtain ⟨ad156, d1, d2, e156, hx156_0, b5, HR156_0, h1, q156⟩ := al_ HR0.out a3
                 obtain rfl := ij_ e156
                 obtain ⟨ad157, e157, hx157_0, h2, q157⟩ := ai_ HR156_0.out a4
                 cases e157
                 obtain ⟨ad158, e9, f0, e158, hx158_0, d6, HR158_0, i4, q158⟩ := al_ HR0.out a2
                 obtain rfl := ij_ e158
                 obtain ⟨rfl, rfl⟩ := is_ hx154_0 hx158_0
                 obtain ⟨ad159, e159, hx159_0, i5, q159⟩ := ai_ HR158_0.out a4
                 cases e159
                 go_wp2
                 go_roundg k5
                 case measure => have := a9.out; have := HK2.out; have := HK3.out; have := HK4.out; have := HK5.out; omega
                 case rel => exact ⟨(wrap64 (a4 + 1)), z6_1, H', ⟨z6_2⟩, z6_0⟩
                obtain rfl := Option.some.inj H
                obtain ⟨ad154, b3, b4, e154, hx154_0, a8, HR154_0, e7, q154⟩ := al_ HR0.out a2
                cases e154
                obtain ⟨ad155, e155, hx155_0, e8, q155⟩ := ai_ HR154_0.out a3
                cases e155
                obtain ⟨ad156, d1, d2, e156, hx156_0, b5, HR156_0, h1, q156⟩ := al_ HR0.out a3
                obtain rfl := ij_ e156
                obtain ⟨ad157, e157, hx157_0, h2, q157⟩ := ai_ HR156_0.out a4
                cases e157
                obtain ⟨ad158, e9, f0, e158, hx158_0, d6, HR158_0, i4, q158⟩ := al_ HR0.out a2
                obtain rfl := ij_ e158
                obtain ⟨rfl, rfl⟩ := is_ hx154_0 hx158_0
                obtain ⟨ad159, e159, hx159_0, i5, q159⟩ := ai_ HR158_0.out a4
                cases e159
                go_wp2
                go_ret
                exact ⟨z6_1, z6_0⟩
               have H' := ak H
               clear H
               obtain ⟨ad154, b3, b4, e154, hx154_0, a8, HR154_0, e7, q154⟩ := al_ HR0.out a2
               cases e154
               obtain ⟨ad155, e155, hx155_0, e8, q155⟩ := ai_ HR154_0.out a3
               cases e155
               obtain ⟨ad156, d1, d2, e156, hx156_0, b5, HR156_0, h1, q156⟩ := al_ HR0.out a3
               obtain rfl := ij_ e156
               obtain ⟨ad157, e157, hx157_0, h2, q157⟩ := ai_ HR156_0.out a4
               cases e157
               go_wp2
               go_roundg k5
               case measure => have := a9.out; have := HK2.out; have := HK3.out; have := HK4.out; have := HK5.out; omega
               case rel => exact ⟨(wrap64 (a4 + 1)), z6_1, H', ⟨z6_2⟩, z6_0⟩
              have H' := ak H
              clear H
              obtain ⟨ad154, b3, b4, e154, hx154_0, a8, HR154_0, e7, q154⟩ := al_ HR0.out a2
              cases e154
              obtain ⟨ad155, e155, hx155_0, e8, q155⟩ := ai_ HR154_0.out a3
              cases e155
              go_wp2
              go_roundg k5
              case measure => have := a9.out; have := HK2.out; have := HK3.out; have := HK4.out; have := HK5.out; omega
              case rel => exact ⟨(wrap64 (a4 + 1)), z6_1, H', ⟨z6_2⟩, z6_0⟩
             have H' := ak H
             clear H
             go_wp2
             go_roundg k5
             case measure => have := a9.out; have := HK2.out; have := HK3.out; have := HK4.out; have := HK5.out; omega
             case rel => exact ⟨(wrap64 (a3 + 1)), z6_1, H', ⟨z6_2⟩, z6_0⟩
          have H' := ak H
          clear H
          go_wp2
          go_roundg k4
          case measure => have := a9.out; have := HK2.out; have := HK3.out; have := HK4.out; omega
          case rel => exact ⟨(wrap64 (a2 + 1)), z6_1, H', ⟨(by have := a9.out; have := HK2.out; have := HK3.out; have := HK4.out; omega)⟩, z6_0⟩
       obtain rfl := Option.some.inj H
       go_wp2
       go_ret
       exact ⟨z6_1, z6_0⟩

end Go.Proofs.Ytacifhahfamipaa.P

namespace Go.Proofs.Ytacifhahfamipaa.P
open Go.RowKit Go.Proofs.YtacifhahfamipaaW.PrintWords Go.Proofs.YtacifhahfamipaaW.PrintLast Go.Proofs.YtacifhahfamipaaW.PrintMore
attribute [local go_sem] max2_int min2_int max_two min_two max_three min_three max_four min_four
set_option linter.unusedVariables false
set_option linter.unusedSimpArgs false
theorem z4_1 {p : Prop} (h : p := by repeat (first | exact Drawn0.refl _ | apply Drawn0.step)) : p := h
theorem z4_0 {p : Prop} (h : p := by first | rfl | (simp; done) | (simp [*]; done)) : p := h
set_option maxHeartbeats 8000000 in
set_option maxRecDepth 100000 in
theorem impl_LeastOf.calls (k : Nat) (A0 : Option Addr) (c0 : Nat) (l0 : List (List Int)) (r1 : Int) (r2 : Bool) (w : World) (hr0 : Kd.C (Kd.slice 3 (Kd.int .i64)) w A0 l0.length l0) (hc0 : l0.length ≤ c0) (h : impl_LeastOf.f k l0 = some (r1, r2)) :
 Calls Try.prog 69 #[.slice A0 l0.length c0] w fun e w' => e = .returned (.tuple #[.int .i64 r1, .bool r2]) ∧ Drawn0 w w' := by
 have HR0 := ak hr0
 have b3 := ak hc0
 clear hr0 hc0
 have H : ((impl_OrderOk.f k l0).bind fun a3 => (if a3 = true then (impl_LeastOf.l0 k l0 (l0.length : Int) 0) else (some ((-1), false)))) = some (r1, r2) := h
 clear h
 obtain ⟨a3, A2, H⟩ := bd_ H
 try dsimp only at H
 replace H := ox_ H
 rcases H with ⟨rfl, H⟩ | ⟨rfl, H⟩
 ·
  have H' := ak H
  clear H
  go_enter Try.func69, Try.ntmps69
  go_wp2_with (first | ((with_reducible refine gate_callee (f := 67) rfl ?_); refine gl_ (some 10) Try.func67 #[.slice A0 l0.length c0] ?_; (with_reducible refine (impl_OrderOk.calls k _ _ l0 true _ (y4 HR0.out) b3.out A2.out).mono ?_); rintro e w' ⟨rfl, ⟨nd, rfl⟩⟩; refine ⟨_, rfl, ?_⟩))
  go_loopg [14] k (fun kq b4 w' => ∃ (a0 : Int), b4 = .int .i64 a0 ∧ Aside0 (impl_LeastOf.l0 kq l0 (l0.length : Int) a0 = some (r1, r2)) ∧ Aside0 (kq ≤ k) ∧ Drawn0 w w')
  case atStart => exact ⟨(0), z4_0, H', ⟨Nat.le_refl _⟩, z4_1⟩
  case round =>
   clear H'
   try clear c3
   obtain ⟨a0, rfl, HA, HK1, ⟨m1, rfl⟩⟩ := hrel
   cases gk with
   | zero => exact absurd HA.out (by simp [impl_LeastOf.l0])
   | succ k1 =>
    have H := HA.out
    clear HA
    simp only [impl_LeastOf.l0] at H
    replace H := os_ H
    rcases H with ⟨a4, H⟩ | ⟨a4, H⟩
    ·
     replace H := od2 H
     obtain ⟨a6, a7, H⟩ := H
     have H' := ak H
     clear H
     obtain ⟨ad175, a8, a9, e175, hx175_0, a5, HR175_0, b0, q175⟩ := al_ HR0.out a0
     cases e175
     go_wp2
     go_loopg [6, 21] k1 (fun kq v6 b5 w' => ∃ (a2 : Bool) (a1 : Int), v6 = .bool a2 ∧ b5 = .int .i64 a1 ∧ Aside0 (impl_LeastOf.l1 kq a0 a2 l0 (l0.length : Int) a0 (rd_L1 l0 a0) ((rd_L1 l0 a0).length : Int) a1 = some (r1, r2)) ∧ Aside0 (kq ≤ k1) ∧ Drawn0 w w')
     case atStart => exact ⟨(true), (0), z4_0, z4_0, H', ⟨Nat.le_refl _⟩, z4_1⟩
     case round =>
      clear H'
      try clear c3
      try clear c4
      try clear a4
      try clear c5
      try clear a6
      try clear c6
      try clear a7
      try clear hx175_0
      try clear b0
      try clear q175
      obtain ⟨a2, a1, rfl, rfl, HA, HK2, ⟨m2, rfl⟩⟩ := hrel
      cases gk with
      | zero => exact absurd HA.out (by simp [impl_LeastOf.l1])
      | succ k2 =>
       have H := HA.out
       clear HA
       simp only [impl_LeastOf.l1] at H
       replace H := os_ H
       rcases H with ⟨b1, H⟩ | ⟨b1, H⟩
       ·
        replace H := od2 H
        obtain ⟨b6, b7, H⟩ := H
        replace H := ox_ H
        rcases H with ⟨rfl, H⟩ | ⟨rfl, H⟩
        ·
         have H' := ak H
         clear H
         obtain ⟨ad176, e176, hx176_0, b2, q176⟩ := ai_ HR175_0.out a1
         cases e176
         go_wp2
         go_roundg k2
         case measure => have := HK1.out; have := HK2.out; omega
         case rel => exact ⟨(((rd (rd_L1 l0 a0) a1) == 1)), (wrap64 (a1 + 1)), z4_0, z4_0, H', ⟨(by have := HK1.out; have := HK2.out; omega)⟩, z4_1⟩
        have H' := ak H
        clear H
        obtain ⟨ad176, e176, hx176_0, b2, q176⟩ := ai_ HR175_0.out a1
        cases e176
        go_wp2
        go_roundg k2
        case measure => have := HK1.out; have := HK2.out; omega
        case rel => exact ⟨(false), (wrap64 (a1 + 1)), z4_0, z4_0, H', ⟨(by have := HK1.out; have := HK2.out; omega)⟩, z4_1⟩
       replace H := ox_ H
       rcases H with ⟨rfl, H⟩ | ⟨rfl, H⟩
       ·
        simp only [Option.some.injEq, Prod.mk.injEq] at H
        obtain ⟨rfl, rfl⟩ := H
        go_wp2
        go_ret2
        exact ⟨z4_0, z4_1⟩
       have H' := ak H
       clear H
       go_wp2
       go_roundg k2
       case measure => have := HK1.out; have := HK2.out; omega
       case rel => exact ⟨(wrap64 (a0 + 1)), z4_0, H', ⟨(by have := HK1.out; have := HK2.out; omega)⟩, z4_1⟩
    simp only [Option.some.injEq, Prod.mk.injEq] at H
    obtain ⟨rfl, rfl⟩ := H
    go_wp2
    go_ret2
    exact ⟨z4_0, z4_1⟩
 simp only [Option.some.injEq, Prod.mk.injEq] at H
 obtain ⟨rfl, rfl⟩ := H
 go_enter Try.func69, Try.ntmps69
 go_wp2_with (first | ((with_reducible refine gate_callee (f := 67) rfl ?_); refine gl_ (some 10) Try.func67 #[.slice A0 l0.length c0] ?_; (with_reducible refine (impl_OrderOk.calls k _ _ l0 false _ (y4 HR0.out) b3.out A2.out).mono ?_); rintro e w' ⟨rfl, ⟨nd, rfl⟩⟩; refine ⟨_, rfl, ?_⟩))
 go_ret2
 exact ⟨z4_0, z4_1⟩

end Go.Proofs.Ytacifhahfamipaa.P

namespace Go.Proofs.Ytacifhahfamipaa.P
open Go.RowKit Go.Proofs.YtacifhahfamipaaW.PrintWords Go.Proofs.YtacifhahfamipaaW.PrintLast Go.Proofs.YtacifhahfamipaaW.PrintMore
attribute [local go_sem] max2_int min2_int max_two min_two max_three min_three max_four min_four
set_option linter.unusedVariables false
set_option linter.unusedSimpArgs false
theorem z1_1 {p : Prop} (h : p := by first | rfl | (simp; done) | (simp [*]; done)) : p := h
theorem z1_0 {p : Prop} (h : p := by repeat (first | (with_reducible first | exact HB.out | apply below_alloc | apply pw_below_drewN | apply below_drew1) | exact HB.out)) : p := h
set_option maxHeartbeats 8000000 in
set_option maxRecDepth 100000 in
theorem impl_AtomsOf.calls (k : Nat) (A0 : Option Addr) (c0 : Nat) (l0 : List (List Int)) (r : List Int) (w : World) (hr0 : Kd.C (Kd.slice 3 (Kd.int .i64)) w A0 l0.length l0) (hc0 : l0.length ≤ c0) (h : impl_AtomsOf.f k l0 = some r) :
 Calls Try.prog 21 #[.slice A0 l0.length c0] w fun e w' => ∃ v0_ : Value, e = .returned (v0_) ∧ Kd.R (Kd.int .i64) 3 w' w.heap.size (fun _ => True) v0_ r ∧ Below w.heap.size w w' := by
 have HR0 := ak hr0
 have d0 := ak hc0
 clear hr0 hc0
 have HB := ak (Below.refl w.heap.size w)
 have H : ((impl_LeastOf.f k l0).bind fun a6 => (if a6.2 = true then (impl_AtomsOf.l0 k l0 a6.1 (([] : List Int)) (l0.length : Int) 0) else (some ([] : List Int)))) = some r := h
 clear h
 obtain ⟨⟨a4, d4⟩, A2, H⟩ := bd_ H
 try dsimp only at H
 replace H := ox_ H
 rcases H with ⟨rfl, H⟩ | ⟨rfl, H⟩
 ·
  obtain ⟨y210, hy210⟩ : ∃ y_ : List Int, y_ = (([] : List Int)) := ⟨_, rfl⟩
  replace H : (impl_AtomsOf.l0 k l0 a4 y210 (l0.length : Int) 0) = some r := by first | (rw [hy210]; with_reducible exact H) | (have H2_ := (Option.bind_some _ _).symm.trans H; rw [hy210]; with_reducible exact H2_) | (have H2_ := (Option.bind_some _ _).symm.trans H; with_reducible exact H2_) | with_reducible exact H | (rw [hy210]; exact H) | exact H
  have Ny210 := ak hy210
  clear hy210
  have H' := ak H
  clear H
  go_enter Try.func21, Try.ntmps21
  go_wp2_with (first | ((with_reducible refine gate_callee (f := 69) rfl ?_); refine gl_ (some 11) Try.func69 #[.slice A0 l0.length c0] ?_; (with_reducible refine (impl_LeastOf.calls k _ _ l0 a4 true _ (y4 HR0.out) d0.out A2.out).mono ?_); rintro e w' ⟨rfl, ⟨nd, rfl⟩⟩; refine ⟨_, rfl, ?_⟩) | ((with_reducible refine gate_dst (N := 16) rfl ?_); refine Kd.R_lit (Kd.int .i64) _ 3 ?hg (N := 16) ?hd (xs := ([] : List Int)) (inner := []) (ok := fun _ => True) (okp := fun _ => True) ?hr ?hp (fun _ hk => hk) trivial (Below.refl _ _) (Nat.le_refl _) (by simp) ?_; (case hd => rfl); (case hg => rfl); (case hr => first | (go_simp; done) | (go_simp; rfl)); (case hp => exact (Reps.none _ _)); intro d5 w4 ho5 hb hg_ hnew_; clear hg_ hnew_; (first | rw [← Ny210.out] at ho5 | (simp only [Int.reduceToNat] at ho5; rw [← Ny210.out] at ho5)); have a9 := ak (Kd.R_lower ho5 (below_size z1_0)); replace HB := ak (below_step z1_0 hb); clear hb ho5))
  go_loopg [5, 19] k (fun kq v5 d6 w' => ∃ (a2 : List Int) (a0 : Int), d6 = .int .i64 a0 ∧ Aside0 (impl_AtomsOf.l0 kq l0 a4 a2 (l0.length : Int) a0 = some r) ∧ Aside0 (kq ≤ k) ∧ Aside0 (Kd.R (Kd.int .i64) 3 w' w.heap.size (fun _ => True) v5 a2) ∧ Aside0 (Below w.heap.size w w'))
  case atStart => exact ⟨(y210), (0), z1_1, H', ⟨Nat.le_refl _⟩, ⟨(xR a9.out)⟩, ⟨z1_0⟩⟩
  case round =>
   clear H'
   try clear c3
   obtain ⟨a2, a0, rfl, HA, HK1, a3, HB⟩ := hrel
   cases gk with
   | zero => exact absurd HA.out (by simp [impl_AtomsOf.l0])
   | succ k1 =>
    have H := HA.out
    clear HA
    simp only [impl_AtomsOf.l0] at H
    replace H := os_ H
    rcases H with ⟨b0, H⟩ | ⟨b0, H⟩
    ·
     have H' := ak H
     clear H
     go_wp2
     go_loopg [7, 24] k1 (fun kq v7 d7 w' => ∃ (a5 : Int) (a1 : Int), v7 = .int .i64 a5 ∧ d7 = .int .i64 a1 ∧ Aside0 (impl_AtomsOf.l1 kq l0 a4 a2 a0 a5 (l0.length : Int) a0 (l0.length : Int) a1 = some r) ∧ Aside0 (kq ≤ k1) ∧ Aside0 (Kd.R (Kd.int .i64) 3 w' w.heap.size (fun _ => True) u5 a2) ∧ Aside0 (Below w.heap.size w w'))
     case atStart => exact ⟨(0), (0), z1_1, z1_1, H', ⟨Nat.le_refl _⟩, ⟨(xR a3.out)⟩, ⟨z1_0⟩⟩
     case round =>
      clear H'
      try clear c3
      try clear c6
      try clear b0
      obtain ⟨a5, a1, rfl, rfl, HA, HK2, a3, HB⟩ := hrel
      cases gk with
      | zero => exact absurd HA.out (by simp [impl_AtomsOf.l1])
      | succ k2 =>
       have H := HA.out
       clear HA
       simp only [impl_AtomsOf.l1] at H
       replace H := os_ H
       rcases H with ⟨b7, H⟩ | ⟨b7, H⟩
       ·
        replace H := od4 H
        obtain ⟨d8, d9, d1, d2, H⟩ := H
        have H' := ak H
        clear H
        have a7 : 0 ≤ (a1 : Int) := oa_
        have q213 : a1 < (l0.length : Int) := oa_
        obtain ⟨ad213, b8, b9, e213, hx213_0, hl213_0, hi213_0⟩ := at_L1 HR0.out a1 a7 q213
        cases e213
        replace hx213_0 := (HB.out.cell (World.block_lt_of_cell? w _ hx213_0)).trans hx213_0
        have HR213_0 := ak hi213_0
        have b6 := ak hl213_0
        clear hi213_0 hl213_0
        replace a7 := eq_true a7
        replace q213 := eq_true q213
        have a8 : 0 ≤ (a0 : Int) := oa_
        have q214 : a0 < ((rd_L1 l0 a1).length : Int) := oa_
        obtain ⟨ad214, e214, hx214_0⟩ := Kd.at_int HR213_0.out a0 a8 q214
        cases e214
        replace hx214_0 := (HB.out.cell (World.block_lt_of_cell? w _ hx214_0)).trans hx214_0
        replace a8 := eq_true a8
        replace q214 := eq_true q214
        go_wp2
        go_roundg k2
        case measure => have := HK1.out; have := HK2.out; omega
        case rel => exact ⟨(wrap64 (a5 + (rd (rd_L1 l0 a1) a0))), (wrap64 (a1 + 1)), z1_1, z1_1, H', ⟨(by have := HK1.out; have := HK2.out; omega)⟩, ⟨(xR a3.out)⟩, ⟨z1_0⟩⟩
       replace H := oe2 H
       rcases H with ⟨⟨-, b1, b2⟩, H⟩ | ⟨⟨e1, b1, b2⟩, H⟩
       ·
        have H' := ak H
        clear H
        go_wp2
        go_roundg k2
        case measure => have := HK1.out; have := HK2.out; omega
        case rel => exact ⟨(a2), (wrap64 (a0 + 1)), z1_1, H', ⟨(by have := HK1.out; have := HK2.out; omega)⟩, ⟨(xR a3.out)⟩, ⟨z1_0⟩⟩
       replace H := oe2 H
       rcases H with ⟨⟨-, b3, b4⟩, H⟩ | ⟨⟨e2, b3, b4⟩, H⟩
       ·
        replace H := ok_ H
        obtain ⟨d3, H⟩ := H
        have LMc14 := ak d3
        clear d3
        obtain ⟨y215, hy215⟩ : ∃ y_ : List Int, y_ = (a2 ++ [a0]) := ⟨_, rfl⟩
        replace H : (impl_AtomsOf.l0 k2 l0 a4 y215 (l0.length : Int) (wrap64 (a0 + 1))) = some r := by first | (rw [hy215]; with_reducible exact H) | (have H2_ := (Option.bind_some _ _).symm.trans H; rw [hy215]; with_reducible exact H2_) | (have H2_ := (Option.bind_some _ _).symm.trans H; with_reducible exact H2_) | with_reducible exact H | (rw [hy215]; exact H) | exact H
        have Ny215 := ak hy215
        clear hy215
        have H' := ak H
        clear H
        go_wp2_with (first | ((with_reducible refine gate_builtin (b := .append) (xs := #[.tmp 44, .tmp 46]) rfl ?_); at_builtin; refine Kd.R_append (Kd.int .i64) (w0 := w) w.heap.size rfl (.tmp 44) (.tmp 46) 25 3 (.int .i64 0) 8 rfl Try.underlying25 info3 rfl (by decide) (by omega) u5 a2 a0 [.int .i64 a0] (fun _ => True) (fun _ => False) rfl rfl ?aP (fun _ hk => hk.elim) ?aF ?aO ?aB ?aS ?aL ?_; (case aP => exact rfl); (case aB => exact z1_0); (case aF => exact (fun _ _ => trivial)); (case aO => exact (xR a3.out)); (case aS => exact (below_size z1_0)); (case aL => have := LMc14.out; omega); intro e0 e3 ho hb hg hat; rw [← Ny215.out] at ho; replace HB := ak (hb); have b5 := ak (ho); clear a3; clear ho hb hg hat))
        go_roundg k2
        case measure => have := HK1.out; have := HK2.out; omega
        case rel => exact ⟨(y215), (wrap64 (a0 + 1)), z1_1, H', ⟨(by have := HK1.out; have := HK2.out; omega)⟩, ⟨(xR b5.out)⟩, ⟨z1_0⟩⟩
       have H' := ak H
       clear H
       go_wp2
       go_roundg k2
       case measure => have := HK1.out; have := HK2.out; omega
       case rel => exact ⟨(a2), (wrap64 (a0 + 1)), z1_1, H', ⟨(by have := HK1.out; have := HK2.out; omega)⟩, ⟨(xR a3.out)⟩, ⟨z1_0⟩⟩
    obtain rfl := Option.some.inj H
    go_wp2
    go_ret
    exact ⟨_, (by first | rfl | (simp [errW_none, errW_some] <;> rfl) | (simp [*, errW_none, errW_some] <;> rfl)), (xR a3.out), z1_0⟩
 obtain rfl := Option.some.inj H
 go_enter Try.func21, Try.ntmps21
 go_wp2_with (first | ((with_reducible refine gate_callee (f := 69) rfl ?_); refine gl_ (some 11) Try.func69 #[.slice A0 l0.length c0] ?_; (with_reducible refine (impl_LeastOf.calls k _ _ l0 a4 false _ (y4 HR0.out) d0.out A2.out).mono ?_); rintro e w' ⟨rfl, ⟨nd, rfl⟩⟩; refine ⟨_, rfl, ?_⟩))
 go_ret
 exact ⟨_, (by first | rfl | (simp [errW_none, errW_some] <;> rfl) | (simp [*, errW_none, errW_some] <;> rfl)), (by first | exact Kd.R_nil _ _ _ _ _ | exact Kd.N_nil _ _ _ _ _ | exact Kd.V_nil _ _ _ _ _ | exact Kd.Q_nil _ _ _ _ _ | exact Kd.S_nil _ _ _ _ _), z1_0⟩

end Go.Proofs.Ytacifhahfamipaa.P

namespace Go.Proofs.Ytacifhahfamipaa.P
open Go.RowKit Go.Proofs.YtacifhahfamipaaW.PrintWords Go.Proofs.YtacifhahfamipaaW.PrintLast Go.Proofs.YtacifhahfamipaaW.PrintMore
attribute [local go_sem] max2_int min2_int max_two min_two max_three min_three max_four min_four
set_option linter.unusedVariables false
set_option linter.unusedSimpArgs false
theorem z8_0 {p : Prop} (h : p := by repeat (first | (with_reducible first | exact HB.out | apply below_alloc | apply pw_below_drewN | apply below_drew1) | exact HB.out)) : p := h
set_option maxHeartbeats 8000000 in
set_option maxRecDepth 100000 in
theorem laws_alive.calls (k : Nat)  (r : Bool) (w : World) (h : laws_alive.f k  = some r) :
 Calls Try.prog 19 #[] w fun e w' => e = .returned (.bool r) ∧ Below w.heap.size w w' := by
 have HB := ak (Below.refl w.heap.size w)
 have H : ((impl_OrderOk.f k (([(([1] : List Int))] : List (List Int)))).bind fun a4 => (if a4 = true then ((impl_OrderOk.f k (([(([0] : List Int))] : List (List Int)))).bind fun a2 => (some (!a2))) else (some false))) = some r := h
 clear h
 obtain ⟨y160, hy160⟩ : ∃ y_ : List Int, y_ = (([1] : List Int)) := ⟨_, rfl⟩
 replace H : ((impl_OrderOk.f k (([y160] : List (List Int)))).bind fun a4 => (if a4 = true then ((impl_OrderOk.f k (([(([0] : List Int))] : List (List Int)))).bind fun a2 => (some (!a2))) else (some false))) = some r := by first | (rw [hy160]; with_reducible exact H) | (have H2_ := (Option.bind_some _ _).symm.trans H; rw [hy160]; with_reducible exact H2_) | (have H2_ := (Option.bind_some _ _).symm.trans H; with_reducible exact H2_) | with_reducible exact H | (rw [hy160]; exact H) | exact H
 have Ny160 := ak hy160
 clear hy160
 obtain ⟨y163, hy163⟩ : ∃ y_ : List (List Int), y_ = (([y160] : List (List Int))) := ⟨_, rfl⟩
 replace H : ((impl_OrderOk.f k y163).bind fun a4 => (if a4 = true then ((impl_OrderOk.f k (([(([0] : List Int))] : List (List Int)))).bind fun a2 => (some (!a2))) else (some false))) = some r := by first | (rw [hy163]; with_reducible exact H) | (have H2_ := (Option.bind_some _ _).symm.trans H; rw [hy163]; with_reducible exact H2_) | (have H2_ := (Option.bind_some _ _).symm.trans H; with_reducible exact H2_) | with_reducible exact H | (rw [hy163]; exact H) | exact H
 have Ny163 := ak hy163
 clear hy163
 replace H := bd_ H
 obtain ⟨a4, A1, H⟩ := H
 try dsimp only at H
 replace H := ox_ H
 rcases H with ⟨rfl, H⟩ | ⟨rfl, H⟩
 ·
  obtain ⟨y167, hy167⟩ : ∃ y_ : List Int, y_ = (([0] : List Int)) := ⟨_, rfl⟩
  replace H : ((impl_OrderOk.f k (([y167] : List (List Int)))).bind fun a2 => (some (!a2))) = some r := by first | (rw [hy167]; with_reducible exact H) | (have H2_ := (Option.bind_some _ _).symm.trans H; rw [hy167]; with_reducible exact H2_) | (have H2_ := (Option.bind_some _ _).symm.trans H; with_reducible exact H2_) | with_reducible exact H | (rw [hy167]; exact H) | exact H
  have Ny167 := ak hy167
  clear hy167
  obtain ⟨y170, hy170⟩ : ∃ y_ : List (List Int), y_ = (([y167] : List (List Int))) := ⟨_, rfl⟩
  replace H : ((impl_OrderOk.f k y170).bind fun a2 => (some (!a2))) = some r := by first | (rw [hy170]; with_reducible exact H) | (have H2_ := (Option.bind_some _ _).symm.trans H; rw [hy170]; with_reducible exact H2_) | (have H2_ := (Option.bind_some _ _).symm.trans H; with_reducible exact H2_) | with_reducible exact H | (rw [hy170]; exact H) | exact H
  have Ny170 := ak hy170
  clear hy170
  replace H := bd_ H
  obtain ⟨a2, A3, H⟩ := H
  try dsimp only at H
  obtain rfl := Option.some.inj H
  go_enter Try.func19, Try.ntmps19
  go_wp2_with (first | ((with_reducible refine gate_dst (N := 1) rfl ?_); (try (refine gate_guard (by rfl) ?_; dsimp only)); refine Kd.R_lit (Kd.int .i64) _ 3 ?hg (N := 1) ?hd (xs := ([1] : List Int)) (inner := [.int .i64 1]) (ok := fun _ => True) (okp := fun _ => True) ?hr ?hp (fun _ hk => hk) trivial (Below.refl _ _) (Nat.le_refl _) (by simp) ?_; (case hd => rfl); (case hg => rfl); (case hr => first | (go_simp; done) | (go_simp; rfl)); (case hp => exact (Reps.one (show Kd.M (Kd.int .i64) _ _ _ 1 [.int .i64 1] from rfl) (Reps.none _ _))); intro b2 w4 ho5 hb hg_ hnew_; clear hg_ hnew_; (first | rw [← Ny160.out] at ho5 | (simp only [Int.reduceToNat] at ho5; rw [← Ny160.out] at ho5)); have a1 := ak (Kd.R_lower ho5 (below_size z8_0)); replace HB := ak (below_step z8_0 hb); clear hb ho5; obtain ⟨d0, d1, d2⟩ := Kd.R_slice a1.out; subst d2) | ((with_reducible refine gate_dst (N := 2) rfl ?_); (try (refine gate_guard (by rfl) ?_; dsimp only)); refine Kd.N_lit (Kd.slice 3 (Kd.int .i64)) _ 25 ?hg (N' := 2) ?hd (xs := ([y160] : List (List Int))) (inner := [.slice d0 y160.length d1]) (ok := (fun _ => True)) (okp := (fun _ => True)) ?hr ?hp (fun _ hk => hk) ((show ∀ k_, w4.heap.size ≤ k_ → (fun _ => True) k_ from fun k_ hk => trivial) _ (Nat.le_refl _)) (Below.refl _ _) (Nat.le_refl _) (by simp) ?_; (case hd => rfl); (case hg => rfl); (case hr => first | (go_simp; done) | (go_simp; rfl)); (case hp => exact (Reps.one (show Kd.FK (Kd.slice 3 (Kd.int .i64)) _ _ y160 [.slice d0 y160.length d1] from (Kd.FK_slice_mk (Kd.R_reads' (Kd.R_mono (ok' := (fun _ => True)) (a1.out) (fun k_ hk => trivial))).2.1 (Kd.R_F (Kd.R_mono (ok' := (fun _ => True)) (a1.out) (fun k_ hk => trivial))))) (Reps.none _ _))); intro b3 w7 ho8 hb hg_ hnew_; clear hg_ hnew_; (first | rw [← Ny163.out] at ho8 | (simp only [Int.reduceToNat] at ho8; rw [← Ny163.out] at ho8)); have a0 := ak (Kd.N_lower ho8 (below_size z8_0)); replace HB := ak (below_step z8_0 hb); clear a1; clear hb ho8; obtain ⟨a6, a7, d3⟩ := Kd.N_slice a0.out; subst d3) | ((with_reducible refine gate_callee (f := 67) rfl ?_); refine gl_ (some 3) Try.func67 #[.slice a6 y163.length a7] ?_; (with_reducible refine (impl_OrderOk.calls k _ _ y163 true _ (y1 a0.out) (y2 a0.out) A1.out).mono ?_); rintro e w' ⟨rfl, ⟨nd, rfl⟩⟩; refine ⟨_, rfl, ?_⟩) | ((with_reducible refine gate_dst (N := 5) rfl ?_); (try (refine gate_guard (by rfl) ?_; dsimp only)); refine Kd.R_lit (Kd.int .i64) _ 3 ?hg (N := 5) ?hd (xs := ([0] : List Int)) (inner := [.int .i64 0]) (ok := fun _ => True) (okp := fun _ => True) ?hr ?hp (fun _ hk => hk) trivial (Below.refl _ _) (Nat.le_refl _) (by simp) ?_; (case hd => rfl); (case hg => rfl); (case hr => first | (go_simp; done) | (go_simp; rfl)); (case hp => exact (Reps.one (show Kd.M (Kd.int .i64) _ _ _ 0 [.int .i64 0] from rfl) (Reps.none _ _))); intro d4 d5 ho11 hb hg_ hnew_; clear hg_ hnew_; (first | rw [← Ny167.out] at ho11 | (simp only [Int.reduceToNat] at ho11; rw [← Ny167.out] at ho11)); replace a0 := ak (Kd.N_elder' (xN a0.out) (Kd.R_base ho11) hb); have a3 := ak (Kd.R_lower ho11 (below_size z8_0)); replace HB := ak (below_step z8_0 hb); clear hb ho11; obtain ⟨a8, a9, b4⟩ := Kd.R_slice a3.out; subst b4) | ((with_reducible refine gate_dst (N := 6) rfl ?_); (try (refine gate_guard (by rfl) ?_; dsimp only)); refine Kd.N_lit (Kd.slice 3 (Kd.int .i64)) _ 25 ?hg (N' := 6) ?hd (xs := ([y167] : List (List Int))) (inner := [.slice a8 y167.length a9]) (ok := (fun k_ => some k_ ≠ (.slice a6 y163.length a7 : Value).ownBlock)) (okp := (fun k_ => some k_ ≠ (.slice a6 y163.length a7 : Value).ownBlock)) ?hr ?hp (fun _ hk => hk) ((show ∀ k_, d5.heap.size ≤ k_ → (fun k_ => some k_ ≠ (.slice a6 y163.length a7 : Value).ownBlock) k_ from fun k_ hk => Kd.fresh' (Kd.N_lt (xN a0.out)) k_ hk) _ (Nat.le_refl _)) (Below.refl _ _) (Nat.le_refl _) (by simp) ?_; (case hd => rfl); (case hg => rfl); (case hr => first | (go_simp; done) | (go_simp; rfl)); (case hp => exact (Reps.one (show Kd.FK (Kd.slice 3 (Kd.int .i64)) _ _ y167 [.slice a8 y167.length a9] from (Kd.FK_slice_mk (Kd.R_reads' (Kd.R_mono (ok' := (fun k_ => some k_ ≠ (.slice a6 y163.length a7 : Value).ownBlock)) (Kd.R_apart' (a3.out) (Kd.N_typed a0.out) (by decide)) (fun k_ hk => hk.2))).2.1 (Kd.R_F (Kd.R_mono (ok' := (fun k_ => some k_ ≠ (.slice a6 y163.length a7 : Value).ownBlock)) (Kd.R_apart' (a3.out) (Kd.N_typed a0.out) (by decide)) (fun k_ hk => hk.2))))) (Reps.none _ _))); intro d6 e0 ho14 hb hg_ hnew_; clear hg_ hnew_; (first | rw [← Ny170.out] at ho14 | (simp only [Int.reduceToNat] at ho14; rw [← Ny170.out] at ho14)); replace a0 := ak (Kd.N_elder' (xN a0.out) (Kd.N_base ho14) hb); have a5 := ak (Kd.N_lower ho14 (below_size z8_0)); replace HB := ak (below_step z8_0 hb); clear a3; clear hb ho14; obtain ⟨d7, d8, b5⟩ := Kd.N_slice a5.out; subst b5) | (go_at_call 67; (with_reducible refine (impl_OrderOk.calls k _ _ y170 a2 _ (y1 a5.out) (y2 a5.out) A3.out).mono ?_); rintro e w' ⟨rfl, ⟨nd, rfl⟩⟩))
  go_ret
  exact ⟨(by first | rfl | (simp [errW_none, errW_some] <;> rfl) | (simp [*, errW_none, errW_some] <;> rfl)), z8_0⟩
 obtain rfl := Option.some.inj H
 go_enter Try.func19, Try.ntmps19
 go_wp2_with (first | ((with_reducible refine gate_dst (N := 1) rfl ?_); (try (refine gate_guard (by rfl) ?_; dsimp only)); refine Kd.R_lit (Kd.int .i64) _ 3 ?hg (N := 1) ?hd (xs := ([1] : List Int)) (inner := [.int .i64 1]) (ok := fun _ => True) (okp := fun _ => True) ?hr ?hp (fun _ hk => hk) trivial (Below.refl _ _) (Nat.le_refl _) (by simp) ?_; (case hd => rfl); (case hg => rfl); (case hr => first | (go_simp; done) | (go_simp; rfl)); (case hp => exact (Reps.one (show Kd.M (Kd.int .i64) _ _ _ 1 [.int .i64 1] from rfl) (Reps.none _ _))); intro b2 d9 ho17 hb hg_ hnew_; clear hg_ hnew_; (first | rw [← Ny160.out] at ho17 | (simp only [Int.reduceToNat] at ho17; rw [← Ny160.out] at ho17)); have a1 := ak (Kd.R_lower ho17 (below_size z8_0)); replace HB := ak (below_step z8_0 hb); clear hb ho17; obtain ⟨b0, b1, b6⟩ := Kd.R_slice a1.out; subst b6) | ((with_reducible refine gate_dst (N := 2) rfl ?_); (try (refine gate_guard (by rfl) ?_; dsimp only)); refine Kd.N_lit (Kd.slice 3 (Kd.int .i64)) _ 25 ?hg (N' := 2) ?hd (xs := ([y160] : List (List Int))) (inner := [.slice b0 y160.length b1]) (ok := (fun _ => True)) (okp := (fun _ => True)) ?hr ?hp (fun _ hk => hk) ((show ∀ k_, d9.heap.size ≤ k_ → (fun _ => True) k_ from fun k_ hk => trivial) _ (Nat.le_refl _)) (Below.refl _ _) (Nat.le_refl _) (by simp) ?_; (case hd => rfl); (case hg => rfl); (case hr => first | (go_simp; done) | (go_simp; rfl)); (case hp => exact (Reps.one (show Kd.FK (Kd.slice 3 (Kd.int .i64)) _ _ y160 [.slice b0 y160.length b1] from (Kd.FK_slice_mk (Kd.R_reads' (Kd.R_mono (ok' := (fun _ => True)) (a1.out) (fun k_ hk => trivial))).2.1 (Kd.R_F (Kd.R_mono (ok' := (fun _ => True)) (a1.out) (fun k_ hk => trivial))))) (Reps.none _ _))); intro b3 e1 ho20 hb hg_ hnew_; clear hg_ hnew_; (first | rw [← Ny163.out] at ho20 | (simp only [Int.reduceToNat] at ho20; rw [← Ny163.out] at ho20)); have a0 := ak (Kd.N_lower ho20 (below_size z8_0)); replace HB := ak (below_step z8_0 hb); clear a1; clear hb ho20; obtain ⟨b7, b8, b9⟩ := Kd.N_slice a0.out; subst b9) | ((with_reducible refine gate_callee (f := 67) rfl ?_); refine gl_ (some 3) Try.func67 #[.slice b7 y163.length b8] ?_; (with_reducible refine (impl_OrderOk.calls k _ _ y163 false _ (y1 a0.out) (y2 a0.out) A1.out).mono ?_); rintro e w' ⟨rfl, ⟨nd, rfl⟩⟩; refine ⟨_, rfl, ?_⟩))
 go_ret
 exact ⟨(by first | rfl | (simp [errW_none, errW_some] <;> rfl) | (simp [*, errW_none, errW_some] <;> rfl)), z8_0⟩

end Go.Proofs.Ytacifhahfamipaa.P

namespace Go.Proofs.Ytacifhahfamipaa.P
open Go.RowKit Go.Proofs.YtacifhahfamipaaW.PrintWords Go.Proofs.YtacifhahfamipaaW.PrintLast Go.Proofs.YtacifhahfamipaaW.PrintMore
attribute [local go_sem] max2_int min2_int max_two min_two max_three min_three max_four min_four
set_option linter.unusedVariables false
set_option linter.unusedSimpArgs false
theorem zm_1 {p : Prop} (h : p := by first | rfl | (simp; done) | (simp [*]; done)) : p := h
theorem zm_0 {p : Prop} (h : p := by repeat (first | exact Drawn0.refl _ | apply Drawn0.step)) : p := h
set_option maxHeartbeats 8000000 in
set_option maxRecDepth 100000 in
theorem laws_sameInts.calls (k : Nat) (A0 : Option Addr) (c0 : Nat) (l0 : List Int) (A1 : Option Addr) (c1 : Nat) (l1 : List Int) (r : Bool) (w : World) (hr0 : Kd.C (Kd.int .i64) w A0 l0.length l0) (hc0 : l0.length ≤ c0) (hr1 : Kd.C (Kd.int .i64) w A1 l1.length l1) (hc1 : l1.length ≤ c1) (h : laws_sameInts.f k l0 l1 = some r) :
 Calls Try.prog 58 #[.slice A0 l0.length c0, .slice A1 l1.length c1] w fun e w' => e = .returned (.bool r) ∧ Drawn0 w w' := by
 have HR0 := ak hr0
 have b1 := ak hc0
 clear hr0 hc0
 have HR1 := ak hr1
 have b2 := ak hc1
 clear hr1 hc1
 have H : (if (l0.length : Int) = (l1.length : Int) then (laws_sameInts.l0 k l0 l1 0) else (some false)) = some r := h
 clear h
 replace H := oe2 H
 rcases H with ⟨⟨c3, a1, a2⟩, H⟩ | ⟨⟨c3, a1, a2⟩, H⟩
 ·
  have a3 : (l0.length == l1.length) = true := by first | simpa using c3 | (simp at c3 ⊢; omega)
  clear c3
  have H' := ak H
  clear H
  go_enter Try.func58, Try.ntmps58
  go_wp2
  repeat (go_quiet (fail); try go_wp2)
  go_loopg [5] k (fun kq v5 w' => ∃ (a0 : Int), v5 = .int .i64 a0 ∧ Aside0 (laws_sameInts.l0 kq l0 l1 a0 = some r) ∧ Aside0 (kq ≤ k) ∧ Drawn0 w w')
  case atStart => exact ⟨(0), zm_1, H', ⟨Nat.le_refl _⟩, zm_0⟩
  case round =>
   clear H'
   try clear c1
   try clear c3
   try clear a1
   try clear a2
   try clear a3
   obtain ⟨a0, rfl, HA, HK1, ⟨m1, rfl⟩⟩ := hrel
   cases gk with
   | zero => exact absurd HA.out (by simp [laws_sameInts.l0])
   | succ k1 =>
    have H := HA.out
    clear HA
    simp only [laws_sameInts.l0] at H
    replace H := os_ H
    rcases H with ⟨a4, H⟩ | ⟨a4, H⟩
    ·
     replace H := od2 H
     obtain ⟨a9, b0, H⟩ := H
     replace H := oe2 H
     rcases H with ⟨⟨-, a5, a6⟩, H⟩ | ⟨⟨c7, a5, a6⟩, H⟩
     ·
      have H' := ak H
      clear H
      obtain ⟨ad137, e137, hx137_0, a7, q137⟩ := ai_ HR0.out a0
      cases e137
      obtain ⟨ad138, e138, hx138_0, a8, q138⟩ := ai_ HR1.out a0
      cases e138
      go_wp2
      repeat (go_quiet (fail); try go_wp2)
      go_roundg k1
      case measure => have := HK1.out; omega
      case rel => exact ⟨(wrap64 (a0 + 1)), zm_1, H', ⟨(by have := HK1.out; omega)⟩, zm_0⟩
     obtain rfl := Option.some.inj H
     obtain ⟨ad137, e137, hx137_0, a7, q137⟩ := ai_ HR0.out a0
     cases e137
     obtain ⟨ad138, e138, hx138_0, a8, q138⟩ := ai_ HR1.out a0
     cases e138
     go_wp2
     repeat (go_quiet (fail); try go_wp2)
     go_ret
     exact ⟨zm_1, zm_0⟩
    obtain rfl := Option.some.inj H
    go_wp2
    repeat (go_quiet (fail); try go_wp2)
    go_ret
    exact ⟨zm_1, zm_0⟩
 have a3 : (l0.length == l1.length) = false := by first | simpa using c3 | (simp at c3 ⊢; omega)
 obtain rfl := Option.some.inj H
 go_enter Try.func58, Try.ntmps58
 go_wp2
 repeat (go_quiet (fail); try go_wp2)
 go_ret
 exact ⟨zm_1, zm_0⟩

end Go.Proofs.Ytacifhahfamipaa.P

namespace Go.Proofs.Ytacifhahfamipaa.P
open Go.RowKit Go.Proofs.YtacifhahfamipaaW.PrintWords Go.Proofs.YtacifhahfamipaaW.PrintLast Go.Proofs.YtacifhahfamipaaW.PrintMore
attribute [local go_sem] max2_int min2_int max_two min_two max_three min_three max_four min_four
set_option linter.unusedVariables false
set_option linter.unusedSimpArgs false
theorem zo_1 {p : Prop} (h : p := by first | rfl | (simp; done) | (simp [*]; done)) : p := h
theorem zo_0 {p : Prop} (h : p := by repeat (first | exact Drawn0.refl _ | apply Drawn0.step)) : p := h
set_option maxHeartbeats 8000000 in
set_option maxRecDepth 100000 in
theorem laws_sameRows.calls (k : Nat) (A0 : Option Addr) (c0 : Nat) (l0 : List (List Int)) (A1 : Option Addr) (c1 : Nat) (l1 : List (List Int)) (r : Bool) (w : World) (hr0 : Kd.C (Kd.slice 3 (Kd.int .i64)) w A0 l0.length l0) (hc0 : l0.length ≤ c0) (hr1 : Kd.C (Kd.slice 3 (Kd.int .i64)) w A1 l1.length l1) (hc1 : l1.length ≤ c1) (h : laws_sameRows.f k l0 l1 = some r) :
 Calls Try.prog 66 #[.slice A0 l0.length c0, .slice A1 l1.length c1] w fun e w' => e = .returned (.bool r) ∧ Drawn0 w w' := by
 have HR0 := ak hr0
 have b6 := ak hc0
 clear hr0 hc0
 have HR1 := ak hr1
 have b7 := ak hc1
 clear hr1 hc1
 have H : (if (l0.length : Int) = (l1.length : Int) then (laws_sameRows.l0 k l0 l1 0) else (some false)) = some r := h
 clear h
 replace H := oe2 H
 rcases H with ⟨⟨c3, a7, a8⟩, H⟩ | ⟨⟨c3, a7, a8⟩, H⟩
 ·
  have a9 : (l0.length == l1.length) = true := by first | simpa using c3 | (simp at c3 ⊢; omega)
  clear c3
  have H' := ak H
  clear H
  go_enter Try.func66, Try.ntmps66
  go_wp2
  repeat (go_quiet (fail); try go_wp2)
  go_loopg [5] k (fun kq v5 w' => ∃ (a0 : Int), v5 = .int .i64 a0 ∧ Aside0 (laws_sameRows.l0 kq l0 l1 a0 = some r) ∧ Aside0 (kq ≤ k) ∧ Drawn0 w w')
  case atStart => exact ⟨(0), zo_1, H', ⟨Nat.le_refl _⟩, zo_0⟩
  case round =>
   clear H'
   try clear c1
   try clear c3
   try clear a7
   try clear a8
   try clear a9
   obtain ⟨a0, rfl, HA, HK1, ⟨m1, rfl⟩⟩ := hrel
   cases gk with
   | zero => exact absurd HA.out (by simp [laws_sameRows.l0])
   | succ k1 =>
    have H := HA.out
    clear HA
    simp only [laws_sameRows.l0] at H
    replace H := os_ H
    rcases H with ⟨b0, H⟩ | ⟨b0, H⟩
    ·
     replace H := od2 H
     obtain ⟨b3, b4, H⟩ := H
     replace H := bd_ H
     obtain ⟨b5, A7, H⟩ := H
     try dsimp only at H
     replace H := ox_ H
     rcases H with ⟨rfl, H⟩ | ⟨rfl, H⟩
     ·
      have H' := ak H
      clear H
      obtain ⟨ad139, a3, a4, e139, hx139_0, a1, HR139_0, b1, q139⟩ := al_ HR0.out a0
      cases e139
      obtain ⟨ad140, a5, a6, e140, hx140_0, a2, HR140_0, b2, q140⟩ := al_ HR1.out a0
      cases e140
      go_wp2_with (first | (go_at_call 58; (with_reducible refine (laws_sameInts.calls k1 _ _ (rd_L1 l0 a0) _ _ (rd_L1 l1 a0) true _ (y4 HR139_0.out) a1.out (y4 HR140_0.out) a2.out A7.out).mono ?_); rintro e w' ⟨rfl, ⟨nd, rfl⟩⟩; (try first | exact ⟨rfl, _, World.drewN_drewN _ _ _⟩ | exact ⟨rfl, _, Eq.trans (World.drewN_drewN _ _ _) (congrArg (World.drewN _) (Nat.add_assoc _ _ _))⟩)))
      repeat (go_quiet (first | (go_at_call 58; (with_reducible refine (laws_sameInts.calls k1 _ _ (rd_L1 l0 a0) _ _ (rd_L1 l1 a0) true _ (y4 HR139_0.out) a1.out (y4 HR140_0.out) a2.out A7.out).mono ?_); rintro e w' ⟨rfl, ⟨nd, rfl⟩⟩; (try first | exact ⟨rfl, _, World.drewN_drewN _ _ _⟩ | exact ⟨rfl, _, Eq.trans (World.drewN_drewN _ _ _) (congrArg (World.drewN _) (Nat.add_assoc _ _ _))⟩))); try go_wp2_with (first | (go_at_call 58; (with_reducible refine (laws_sameInts.calls k1 _ _ (rd_L1 l0 a0) _ _ (rd_L1 l1 a0) true _ (y4 HR139_0.out) a1.out (y4 HR140_0.out) a2.out A7.out).mono ?_); rintro e w' ⟨rfl, ⟨nd, rfl⟩⟩; (try first | exact ⟨rfl, _, World.drewN_drewN _ _ _⟩ | exact ⟨rfl, _, Eq.trans (World.drewN_drewN _ _ _) (congrArg (World.drewN _) (Nat.add_assoc _ _ _))⟩))))
      go_roundg k1
      case measure => have := HK1.out; omega
      case rel => exact ⟨(wrap64 (a0 + 1)), zo_1, H', ⟨(by have := HK1.out; omega)⟩, zo_0⟩
     obtain rfl := Option.some.inj H
     obtain ⟨ad139, a3, a4, e139, hx139_0, a1, HR139_0, b1, q139⟩ := al_ HR0.out a0
     cases e139
     obtain ⟨ad140, a5, a6, e140, hx140_0, a2, HR140_0, b2, q140⟩ := al_ HR1.out a0
     cases e140
     go_wp2_with (first | (go_at_call 58; (with_reducible refine (laws_sameInts.calls k1 _ _ (rd_L1 l0 a0) _ _ (rd_L1 l1 a0) false _ (y4 HR139_0.out) a1.out (y4 HR140_0.out) a2.out A7.out).mono ?_); rintro e w' ⟨rfl, ⟨nd, rfl⟩⟩; (try first | exact ⟨rfl, _, World.drewN_drewN _ _ _⟩ | exact ⟨rfl, _, Eq.trans (World.drewN_drewN _ _ _) (congrArg (World.drewN _) (Nat.add_assoc _ _ _))⟩)))
     repeat (go_quiet (first | (go_at_call 58; (with_reducible refine (laws_sameInts.calls k1 _ _ (rd_L1 l0 a0) _ _ (rd_L1 l1 a0) false _ (y4 HR139_0.out) a1.out (y4 HR140_0.out) a2.out A7.out).mono ?_); rintro e w' ⟨rfl, ⟨nd, rfl⟩⟩; (try first | exact ⟨rfl, _, World.drewN_drewN _ _ _⟩ | exact ⟨rfl, _, Eq.trans (World.drewN_drewN _ _ _) (congrArg (World.drewN _) (Nat.add_assoc _ _ _))⟩))); try go_wp2_with (first | (go_at_call 58; (with_reducible refine (laws_sameInts.calls k1 _ _ (rd_L1 l0 a0) _ _ (rd_L1 l1 a0) false _ (y4 HR139_0.out) a1.out (y4 HR140_0.out) a2.out A7.out).mono ?_); rintro e w' ⟨rfl, ⟨nd, rfl⟩⟩; (try first | exact ⟨rfl, _, World.drewN_drewN _ _ _⟩ | exact ⟨rfl, _, Eq.trans (World.drewN_drewN _ _ _) (congrArg (World.drewN _) (Nat.add_assoc _ _ _))⟩))))
     go_ret
     exact ⟨zo_1, zo_0⟩
    obtain rfl := Option.some.inj H
    go_wp2
    repeat (go_quiet (fail); try go_wp2)
    go_ret
    exact ⟨zo_1, zo_0⟩
 have a9 : (l0.length == l1.length) = false := by first | simpa using c3 | (simp at c3 ⊢; omega)
 obtain rfl := Option.some.inj H
 go_enter Try.func66, Try.ntmps66
 go_wp2
 repeat (go_quiet (fail); try go_wp2)
 go_ret
 exact ⟨zo_1, zo_0⟩

end Go.Proofs.Ytacifhahfamipaa.P

namespace Go.Proofs.Ytacifhahfamipaa.P
open Go.RowKit Go.Proofs.YtacifhahfamipaaW.PrintWords Go.Proofs.YtacifhahfamipaaW.PrintLast Go.Proofs.YtacifhahfamipaaW.PrintMore
attribute [local go_sem] max2_int min2_int max_two min_two max_three min_three max_four min_four
set_option linter.unusedVariables false
set_option linter.unusedSimpArgs false
theorem zn_2 {p : Prop} (h : p := by repeat (first | (with_reducible first | exact HB.out | apply below_alloc | apply pw_below_drewN | apply below_drew1 | refine below_set ?_ a6.out | refine below_set ?_ b1.out) | exact HB.out)) : p := h
theorem zn_1 {p : Prop} (h : p := by repeat (first | (with_reducible first | exact HB.out | apply below_alloc | apply pw_below_drewN | apply below_drew1) | exact HB.out)) : p := h
theorem zn_0 {p : Prop} (h : p := by repeat (first | (with_reducible first | exact HB.out | apply below_alloc | apply pw_below_drewN | apply below_drew1 | refine below_set ?_ a6.out) | exact HB.out)) : p := h
set_option maxHeartbeats 8000000 in
set_option maxRecDepth 100000 in
theorem laws_sameLogic.calls (k : Nat) (A0_0 : Option Addr) (c0_0 : Nat) (l0_0 : List (List Int)) (A0_1 : Option Addr) (c0_1 : Nat) (l0_1 : List Int) (A1_0 : Option Addr) (c1_0 : Nat) (l1_0 : List (List Int)) (A1_1 : Option Addr) (c1_1 : Nat) (l1_1 : List Int) (r : Bool) (w : World) (hr0_0 : Kd.C (Kd.slice 3 (Kd.int .i64)) w A0_0 l0_0.length l0_0) (hc0_0 : l0_0.length ≤ c0_0) (hr0_1 : Kd.C (Kd.int .i64) w A0_1 l0_1.length l0_1) (hc0_1 : l0_1.length ≤ c0_1) (hr1_0 : Kd.C (Kd.slice 3 (Kd.int .i64)) w A1_0 l1_0.length l1_0) (hc1_0 : l1_0.length ≤ c1_0) (hr1_1 : Kd.C (Kd.int .i64) w A1_1 l1_1.length l1_1) (hc1_1 : l1_1.length ≤ c1_1) (h : laws_sameLogic.f k l0_0 l0_1 l1_0 l1_1 = some r) :
 Calls Try.prog 17 #[.agg #[.slice A0_0 l0_0.length c0_0, .slice A0_1 l0_1.length c0_1], .agg #[.slice A1_0 l1_0.length c1_0, .slice A1_1 l1_1.length c1_1]] w fun e w' => e = .returned (.bool r) ∧ Below w.heap.size w w' := by
 have hu27 := Try.underlying27
 have HR0_0 := ak hr0_0
 have b2 := ak hc0_0
 clear hr0_0 hc0_0
 have HR0_1 := ak hr0_1
 have b5 := ak hc0_1
 clear hr0_1 hc0_1
 have HR1_0 := ak hr1_0
 have b3 := ak hc1_0
 clear hr1_0 hc1_0
 have HR1_1 := ak hr1_1
 have b6 := ak hc1_1
 clear hr1_1 hc1_1
 have HB := ak (Below.refl w.heap.size w)
 have H : ((laws_sameRows.f k l0_0 l1_0).bind fun b7 => (if b7 = true then ((laws_sameInts.f k l0_1 l1_1).bind fun b4 => (some b4)) else (some false))) = some r := h
 clear h
 replace H := bd_ H
 obtain ⟨b7, A3, H⟩ := H
 try dsimp only at H
 replace H := ox_ H
 rcases H with ⟨rfl, H⟩ | ⟨rfl, H⟩
 ·
  replace H := bd_ H
  obtain ⟨b4, A5, H⟩ := H
  try dsimp only at H
  obtain rfl := Option.some.inj H
  go_enter Try.func17, Try.ntmps17
  go_wp2_with (first | ((with_reducible refine gate_dst (N := 2) rfl ?_); refine bx_ (N := 2) (cs := #[.slice A0_0 l0_0.length c0_0, .slice A0_1 l0_1.length c0_1]) (t := 27) ?_; intro a1 hg w6 hbox hb; have a0 := ak (hbox); have b8 := ak ((by rw [hg]; exact (below_size zn_1) : w.heap.size ≤ a1)); have a6 := ak ((by rw [hg]; exact (below_size zn_1) : w.heap.size ≤ a1)); replace HB := ak (below_step zn_1 hb); clear hb hbox hg) | ((with_reducible refine gate_dst (N := 3) rfl ?_); refine bx_ (N := 3) (cs := #[.slice A1_0 l1_0.length c1_0, .slice A1_1 l1_1.length c1_1]) (t := 27) ?_; intro a2 hg w7 hbox hb; have a3 := ak (hbox); have b9 := ak ((by rw [hg]; exact (below_size zn_0) : w.heap.size ≤ a2)); have b1 := ak ((by rw [hg]; exact (below_size zn_0) : w.heap.size ≤ a2)); replace HB := ak (below_step zn_0 hb); have a4 := ak ((by rw [hg]; exact Nat.ne_of_lt (blk_lt (g := a1) (o := .cells #[.slice A0_0 l0_0.length c0_0, .slice A0_1 l0_1.length c0_1] 27 (0, 0)) (xb a0.out)) : a1 ≠ a2)); have a5 := ak ((by rw [hg]; exact Nat.ne_of_gt (blk_lt (g := a1) (o := .cells #[.slice A0_0 l0_0.length c0_0, .slice A0_1 l0_1.length c0_1] 27 (0, 0)) (xb a0.out)) : a2 ≠ a1)); replace a0 := ak (blk_below (g := a1) (o := .cells #[.slice A0_0 l0_0.length c0_0, .slice A0_1 l0_1.length c0_1] 27 (0, 0)) (xb a0.out) hb); clear hb hbox hg; have d2 := a4.out; have d3 := a5.out; have a7 := cz20 a0.out; have a8 := cz21 a0.out; have a9 := blk_frozen a0.out 0; have b0 := blk_frozen a0.out 1; have a7 := cz20 a3.out; have a8 := cz21 a3.out; have a9 := blk_frozen a3.out 0; have b0 := blk_frozen a3.out 1) | ((with_reducible refine gate_callee (f := 66) rfl ?_); refine gl_ (some 9) Try.func66 #[.slice A0_0 l0_0.length c0_0, .slice A1_0 l1_0.length c1_0] ?_; (with_reducible refine (laws_sameRows.calls k _ _ l0_0 _ _ l1_0 true _ (y3 HR0_0.out HB.out) b2.out (y3 HR1_0.out HB.out) b3.out A3.out).mono ?_); rintro e w' ⟨rfl, ⟨nd, rfl⟩⟩; refine ⟨_, rfl, ?_⟩) | (go_at_call 58; (with_reducible refine (laws_sameInts.calls k _ _ l0_1 _ _ l1_1 b4 _ (by repeat (first | exact (Kd.C_below HR0_1.out zn_2) | (with_reducible refine Kd.C_alloc ?_ _) | (with_reducible refine Kd.C_drewN ?_ _) | (with_reducible refine Kd.C_drew ?_))) b5.out (by repeat (first | exact (Kd.C_below HR1_1.out zn_2) | (with_reducible refine Kd.C_alloc ?_ _) | (with_reducible refine Kd.C_drewN ?_ _) | (with_reducible refine Kd.C_drew ?_))) b6.out A5.out).mono ?_); rintro e w' ⟨rfl, ⟨nd, rfl⟩⟩))
  go_ret
  exact ⟨(by first | rfl | (simp [errW_none, errW_some] <;> rfl) | (simp [*, errW_none, errW_some] <;> rfl)), zn_2⟩
 obtain rfl := Option.some.inj H
 go_enter Try.func17, Try.ntmps17
 go_wp2_with (first | ((with_reducible refine gate_dst (N := 2) rfl ?_); refine bx_ (N := 2) (cs := #[.slice A0_0 l0_0.length c0_0, .slice A0_1 l0_1.length c0_1]) (t := 27) ?_; intro a1 hg d4 hbox hb; have a0 := ak (hbox); have b8 := ak ((by rw [hg]; exact (below_size zn_1) : w.heap.size ≤ a1)); have a6 := ak ((by rw [hg]; exact (below_size zn_1) : w.heap.size ≤ a1)); replace HB := ak (below_step zn_1 hb); clear hb hbox hg) | ((with_reducible refine gate_dst (N := 3) rfl ?_); refine bx_ (N := 3) (cs := #[.slice A1_0 l1_0.length c1_0, .slice A1_1 l1_1.length c1_1]) (t := 27) ?_; intro a2 hg d5 hbox hb; have a3 := ak (hbox); have b9 := ak ((by rw [hg]; exact (below_size zn_0) : w.heap.size ≤ a2)); have b1 := ak ((by rw [hg]; exact (below_size zn_0) : w.heap.size ≤ a2)); replace HB := ak (below_step zn_0 hb); have a4 := ak ((by rw [hg]; exact Nat.ne_of_lt (blk_lt (g := a1) (o := .cells #[.slice A0_0 l0_0.length c0_0, .slice A0_1 l0_1.length c0_1] 27 (0, 0)) (xb a0.out)) : a1 ≠ a2)); have a5 := ak ((by rw [hg]; exact Nat.ne_of_gt (blk_lt (g := a1) (o := .cells #[.slice A0_0 l0_0.length c0_0, .slice A0_1 l0_1.length c0_1] 27 (0, 0)) (xb a0.out)) : a2 ≠ a1)); replace a0 := ak (blk_below (g := a1) (o := .cells #[.slice A0_0 l0_0.length c0_0, .slice A0_1 l0_1.length c0_1] 27 (0, 0)) (xb a0.out) hb); clear hb hbox hg; have d0 := a4.out; have d1 := a5.out; have a7 := cz20 a0.out; have a8 := cz21 a0.out; have a9 := blk_frozen a0.out 0; have b0 := blk_frozen a0.out 1; have a7 := cz20 a3.out; have a8 := cz21 a3.out; have a9 := blk_frozen a3.out 0; have b0 := blk_frozen a3.out 1) | ((with_reducible refine gate_callee (f := 66) rfl ?_); refine gl_ (some 9) Try.func66 #[.slice A0_0 l0_0.length c0_0, .slice A1_0 l1_0.length c1_0] ?_; (with_reducible refine (laws_sameRows.calls k _ _ l0_0 _ _ l1_0 false _ (y3 HR0_0.out HB.out) b2.out (y3 HR1_0.out HB.out) b3.out A3.out).mono ?_); rintro e w' ⟨rfl, ⟨nd, rfl⟩⟩; refine ⟨_, rfl, ?_⟩))
 go_ret
 exact ⟨(by first | rfl | (simp [errW_none, errW_some] <;> rfl) | (simp [*, errW_none, errW_some] <;> rfl)), zn_2⟩

end Go.Proofs.Ytacifhahfamipaa.P

namespace Go.Proofs.Ytacifhahfamipaa.P
open Go.RowKit Go.Proofs.YtacifhahfamipaaW.PrintWords Go.Proofs.YtacifhahfamipaaW.PrintLast Go.Proofs.YtacifhahfamipaaW.PrintMore
attribute [local go_sem] max2_int min2_int max_two min_two max_three min_three max_four min_four
set_option linter.unusedVariables false
set_option linter.unusedSimpArgs false
theorem z17_1 {p : Prop} (h : p := by repeat (first | exact Drawn0.refl _ | apply Drawn0.step)) : p := h
theorem z17_0 {p : Prop} (h : p := by first | rfl | (simp; done) | (simp [*]; done)) : p := h
set_option maxHeartbeats 8000000 in
set_option maxRecDepth 100000 in
theorem spec_l1Meet.calls (k : Nat) (A0 : Option Addr) (c0 : Nat) (l0 : List (List Int)) (a1 : Int) (a2 : Int) (r : Int) (w : World) (hr0 : Kd.C (Kd.slice 3 (Kd.int .i64)) w A0 l0.length l0) (hc0 : l0.length ≤ c0) (h : spec_l1Meet.f k l0 a1 a2 = some r) :
 Calls Try.prog 77 #[.slice A0 l0.length c0, .int .i64 a1, .int .i64 a2] w fun e w' => e = .returned (.int .i64 r) ∧ Drawn0 w w' := by
 have HR0 := ak hr0
 have h5 := ak hc0
 clear hr0 hc0
 have H : (spec_l1Meet.l0 k l0 a1 a2 (-1) 0) = some r := h
 clear h
 have H' := ak H
 clear H
 go_enter Try.func77, Try.ntmps77
 go_wp2
 go_loopg [7, 8] k (fun kq v7 v8 w' => ∃ (a5 : Int) (a0 : Int), v7 = .int .i64 a5 ∧ v8 = .int .i64 a0 ∧ Aside0 (spec_l1Meet.l0 kq l0 a1 a2 a5 a0 = some r) ∧ Aside0 (kq ≤ k) ∧ Drawn0 w w')
 case atStart => exact ⟨((-1)), (0), z17_0, z17_0, H', ⟨Nat.le_refl _⟩, z17_1⟩
 case round =>
  clear H'
  obtain ⟨a5, a0, rfl, rfl, HA, HK1, ⟨m1, rfl⟩⟩ := hrel
  cases gk with
  | zero => exact absurd HA.out (by simp [spec_l1Meet.l0])
  | succ k1 =>
   have H := HA.out
   clear HA
   simp only [spec_l1Meet.l0] at H
   replace H := os_ H
   rcases H with ⟨d9, H⟩ | ⟨d9, H⟩
   ·
    replace H := od3 H
    obtain ⟨h1, h2, h3, H⟩ := H
    replace H := oe2 H
    rcases H with ⟨⟨-, f4, f5⟩, H⟩ | ⟨⟨c8, f4, f5⟩, H⟩
    ·
     replace H := od2 H
     obtain ⟨h4, g0, H⟩ := H
     replace H := oe2 H
     rcases H with ⟨⟨-, e0, e1⟩, H⟩ | ⟨⟨h6, e0, e1⟩, H⟩
     ·
      replace H := os_ H
      rcases H with ⟨e2, H⟩ | ⟨e2, H⟩
      ·
       have H' := ak H
       clear H
       obtain ⟨ad579, a6, a7, e579, hx579_0, a4, HR579_0, b7, q579⟩ := al_ HR0.out a0
       cases e579
       obtain ⟨ad580, e580, hx580_0, b8, q580⟩ := ai_ HR579_0.out a1
       cases e580
       obtain ⟨ad581, b0, b1, e581, hx581_0, a8, HR581_0, d1, q581⟩ := al_ HR0.out a0
       obtain rfl := ij_ e581
       obtain ⟨rfl, rfl⟩ := is_ hx579_0 hx581_0
       obtain ⟨ad582, e582, hx582_0, d2, q582⟩ := ai_ HR581_0.out a2
       cases e582
       go_wp2
       go_roundg k1
       case measure => have := HK1.out; omega
       case rel => exact ⟨(a0), (wrap64 (a0 + 1)), z17_0, z17_0, H', ⟨(by have := HK1.out; omega)⟩, z17_1⟩
      replace H := od3 H
      obtain ⟨g1, g2, g3, H⟩ := H
      replace H := oe2 H
      rcases H with ⟨⟨-, e3, e4⟩, H⟩ | ⟨⟨h7, e3, e4⟩, H⟩
      ·
       have H' := ak H
       clear H
       obtain ⟨ad579, a6, a7, e579, hx579_0, a4, HR579_0, b7, q579⟩ := al_ HR0.out a0
       cases e579
       obtain ⟨ad580, e580, hx580_0, b8, q580⟩ := ai_ HR579_0.out a1
       cases e580
       obtain ⟨ad581, b0, b1, e581, hx581_0, a8, HR581_0, d1, q581⟩ := al_ HR0.out a0
       obtain rfl := ij_ e581
       obtain ⟨rfl, rfl⟩ := is_ hx579_0 hx581_0
       obtain ⟨ad582, e582, hx582_0, d2, q582⟩ := ai_ HR581_0.out a2
       cases e582
       obtain ⟨ad583, d3, d4, e583, hx583_0, b9, HR583_0, f6, q583⟩ := al_ HR0.out a5
       obtain rfl := ij_ e583
       obtain ⟨ad584, e584, hx584_0, f7, q584⟩ := ai_ HR583_0.out a0
       cases e584
       go_wp2
       go_roundg k1
       case measure => have := HK1.out; omega
       case rel => exact ⟨(a0), (wrap64 (a0 + 1)), z17_0, z17_0, H', ⟨(by have := HK1.out; omega)⟩, z17_1⟩
      have H' := ak H
      clear H
      obtain ⟨ad579, a6, a7, e579, hx579_0, a4, HR579_0, b7, q579⟩ := al_ HR0.out a0
      cases e579
      obtain ⟨ad580, e580, hx580_0, b8, q580⟩ := ai_ HR579_0.out a1
      cases e580
      obtain ⟨ad581, b0, b1, e581, hx581_0, a8, HR581_0, d1, q581⟩ := al_ HR0.out a0
      obtain rfl := ij_ e581
      obtain ⟨rfl, rfl⟩ := is_ hx579_0 hx581_0
      obtain ⟨ad582, e582, hx582_0, d2, q582⟩ := ai_ HR581_0.out a2
      cases e582
      obtain ⟨ad583, d3, d4, e583, hx583_0, b9, HR583_0, f6, q583⟩ := al_ HR0.out a5
      obtain rfl := ij_ e583
      obtain ⟨ad584, e584, hx584_0, f7, q584⟩ := ai_ HR583_0.out a0
      cases e584
      go_wp2
      go_roundg k1
      case measure => have := HK1.out; omega
      case rel => exact ⟨(a5), (wrap64 (a0 + 1)), z17_0, z17_0, H', ⟨(by have := HK1.out; omega)⟩, z17_1⟩
     have H' := ak H
     clear H
     obtain ⟨ad579, a6, a7, e579, hx579_0, a4, HR579_0, b7, q579⟩ := al_ HR0.out a0
     cases e579
     obtain ⟨ad580, e580, hx580_0, b8, q580⟩ := ai_ HR579_0.out a1
     cases e580
     obtain ⟨ad581, b0, b1, e581, hx581_0, a8, HR581_0, d1, q581⟩ := al_ HR0.out a0
     obtain rfl := ij_ e581
     obtain ⟨rfl, rfl⟩ := is_ hx579_0 hx581_0
     obtain ⟨ad582, e582, hx582_0, d2, q582⟩ := ai_ HR581_0.out a2
     cases e582
     go_wp2
     go_roundg k1
     case measure => have := HK1.out; omega
     case rel => exact ⟨(a5), (wrap64 (a0 + 1)), z17_0, z17_0, H', ⟨(by have := HK1.out; omega)⟩, z17_1⟩
    have H' := ak H
    clear H
    obtain ⟨ad579, a6, a7, e579, hx579_0, a4, HR579_0, b7, q579⟩ := al_ HR0.out a0
    cases e579
    obtain ⟨ad580, e580, hx580_0, b8, q580⟩ := ai_ HR579_0.out a1
    cases e580
    go_wp2
    go_roundg k1
    case measure => have := HK1.out; omega
    case rel => exact ⟨(a5), (wrap64 (a0 + 1)), z17_0, z17_0, H', ⟨(by have := HK1.out; omega)⟩, z17_1⟩
   have H' := ak H
   clear H
   go_wp2
   go_loopg [9] k1 (fun kq v9 w' => ∃ (a3 : Int), v9 = .int .i64 a3 ∧ Aside0 (spec_l1Meet.l1 kq l0 a1 a2 a5 a3 = some r) ∧ Aside0 (kq ≤ k1) ∧ Drawn0 w w')
   case atStart => exact ⟨(0), z17_0, H', ⟨Nat.le_refl _⟩, z17_1⟩
   case round =>
    clear H'
    try clear c4
    try clear d9
    obtain ⟨a3, rfl, HA, HK2, ⟨m2, rfl⟩⟩ := hrel
    cases gk with
    | zero => exact absurd HA.out (by simp [spec_l1Meet.l1])
    | succ k2 =>
     have H := HA.out
     clear HA
     simp only [spec_l1Meet.l1] at H
     replace H := os_ H
     rcases H with ⟨e5, H⟩ | ⟨e5, H⟩
     ·
      replace H := od3 H
      obtain ⟨g4, g5, g6, H⟩ := H
      replace H := oe2 H
      rcases H with ⟨⟨-, e6, e7⟩, H⟩ | ⟨⟨h8, e6, e7⟩, H⟩
      ·
       replace H := od2 H
       obtain ⟨g7, g8, H⟩ := H
       replace H := oe2 H
       rcases H with ⟨⟨-, e8, e9⟩, H⟩ | ⟨⟨h9, e8, e9⟩, H⟩
       ·
        replace H := od2 H
        obtain ⟨g9, h0, H⟩ := H
        replace H := oe2 H
        rcases H with ⟨⟨-, f0, f1⟩, H⟩ | ⟨⟨i0, f0, f1⟩, H⟩
        ·
         obtain rfl := Option.some.inj H
         obtain ⟨ad585, b2, b3, e585, hx585_0, a9, HR585_0, d5, q585⟩ := al_ HR0.out a3
         cases e585
         obtain ⟨ad586, e586, hx586_0, d6, q586⟩ := ai_ HR585_0.out a1
         cases e586
         obtain ⟨ad587, b5, b6, e587, hx587_0, b4, HR587_0, f2, q587⟩ := al_ HR0.out a3
         obtain rfl := ij_ e587
         obtain ⟨rfl, rfl⟩ := is_ hx585_0 hx587_0
         obtain ⟨ad588, e588, hx588_0, f3, q588⟩ := ai_ HR587_0.out a2
         cases e588
         obtain ⟨ad589, d7, d8, e589, hx589_0, d0, HR589_0, f8, q589⟩ := al_ HR0.out a3
         obtain rfl := ij_ e589
         obtain ⟨rfl, rfl⟩ := is_ hx585_0 hx589_0
         obtain ⟨ad590, e590, hx590_0, f9, q590⟩ := ai_ HR589_0.out a5
         cases e590
         go_wp2
         go_ret
         exact ⟨z17_0, z17_1⟩
        have H' := ak H
        clear H
        obtain ⟨ad585, b2, b3, e585, hx585_0, a9, HR585_0, d5, q585⟩ := al_ HR0.out a3
        cases e585
        obtain ⟨ad586, e586, hx586_0, d6, q586⟩ := ai_ HR585_0.out a1
        cases e586
        obtain ⟨ad587, b5, b6, e587, hx587_0, b4, HR587_0, f2, q587⟩ := al_ HR0.out a3
        obtain rfl := ij_ e587
        obtain ⟨rfl, rfl⟩ := is_ hx585_0 hx587_0
        obtain ⟨ad588, e588, hx588_0, f3, q588⟩ := ai_ HR587_0.out a2
        cases e588
        obtain ⟨ad589, d7, d8, e589, hx589_0, d0, HR589_0, f8, q589⟩ := al_ HR0.out a3
        obtain rfl := ij_ e589
        obtain ⟨rfl, rfl⟩ := is_ hx585_0 hx589_0
        obtain ⟨ad590, e590, hx590_0, f9, q590⟩ := ai_ HR589_0.out a5
        cases e590
        go_wp2
        go_roundg k2
        case measure => have := HK1.out; have := HK2.out; omega
        case rel => exact ⟨(wrap64 (a3 + 1)), z17_0, H', ⟨(by have := HK1.out; have := HK2.out; omega)⟩, z17_1⟩
       have H' := ak H
       clear H
       obtain ⟨ad585, b2, b3, e585, hx585_0, a9, HR585_0, d5, q585⟩ := al_ HR0.out a3
       cases e585
       obtain ⟨ad586, e586, hx586_0, d6, q586⟩ := ai_ HR585_0.out a1
       cases e586
       obtain ⟨ad587, b5, b6, e587, hx587_0, b4, HR587_0, f2, q587⟩ := al_ HR0.out a3
       obtain rfl := ij_ e587
       obtain ⟨rfl, rfl⟩ := is_ hx585_0 hx587_0
       obtain ⟨ad588, e588, hx588_0, f3, q588⟩ := ai_ HR587_0.out a2
       cases e588
       go_wp2
       go_roundg k2
       case measure => have := HK1.out; have := HK2.out; omega
       case rel => exact ⟨(wrap64 (a3 + 1)), z17_0, H', ⟨(by have := HK1.out; have := HK2.out; omega)⟩, z17_1⟩
      have H' := ak H
      clear H
      obtain ⟨ad585, b2, b3, e585, hx585_0, a9, HR585_0, d5, q585⟩ := al_ HR0.out a3
      cases e585
      obtain ⟨ad586, e586, hx586_0, d6, q586⟩ := ai_ HR585_0.out a1
      cases e586
      go_wp2
      go_roundg k2
      case measure => have := HK1.out; have := HK2.out; omega
      case rel => exact ⟨(wrap64 (a3 + 1)), z17_0, H', ⟨(by have := HK1.out; have := HK2.out; omega)⟩, z17_1⟩
     obtain rfl := Option.some.inj H
     go_wp2
     go_ret
     exact ⟨z17_0, z17_1⟩

end Go.Proofs.Ytacifhahfamipaa.P

namespace Go.Proofs.Ytacifhahfamipaa.P
open Go.RowKit Go.Proofs.YtacifhahfamipaaW.PrintWords Go.Proofs.YtacifhahfamipaaW.PrintLast Go.Proofs.YtacifhahfamipaaW.PrintMore
attribute [local go_sem] max2_int min2_int max_two min_two max_three min_three max_four min_four
set_option linter.unusedVariables false
set_option linter.unusedSimpArgs false
set_option maxHeartbeats 8000000 in
set_option maxRecDepth 100000 in
theorem spec_l1In.calls (a0 : Int) (a1 : Int) (a2 : Int) (r : Bool) (w : World) (h : spec_l1In.f a0 a1 a2 = some r) :
 Calls Try.prog 72 #[.int .i64 a0, .int .i64 a1, .int .i64 a2] w fun e w' => e = .returned (.bool r) ∧ Drawn0 w w' := by
 have H : (if a0 ≥ a1 then (some (decide (a0 ≤ a2))) else (some false)) = some r := h
 clear h
 replace H := op_ H
 rcases H with ⟨c4, H⟩ | ⟨c4, H⟩
 ·
  have a3 : decide (a1 ≤ a0) = true := dT_ c4
  clear c4
  obtain rfl := Option.some.inj H
  go_enter Try.func72, Try.ntmps72
  go_wp2
  go_ret
  exact ⟨(by first | rfl | (simp; done) | (simp [*]; done)), (by repeat (first | exact Drawn0.refl _ | apply Drawn0.step))⟩
 have a3 : decide (a1 ≤ a0) = false := dF_ c4
 clear c4
 obtain rfl := Option.some.inj H
 go_enter Try.func72, Try.ntmps72
 go_wp2
 go_ret
 exact ⟨(by first | rfl | (simp; done) | (simp [*]; done)), (by repeat (first | exact Drawn0.refl _ | apply Drawn0.step))⟩

end Go.Proofs.Ytacifhahfamipaa.P

namespace Go.Proofs.Ytacifhahfamipaa.P
open Go.RowKit Go.Proofs.YtacifhahfamipaaW.PrintWords Go.Proofs.YtacifhahfamipaaW.PrintLast Go.Proofs.YtacifhahfamipaaW.PrintMore
attribute [local go_sem] max2_int min2_int max_two min_two max_three min_three max_four min_four
set_option linter.unusedVariables false
set_option linter.unusedSimpArgs false
theorem z16_1 {p : Prop} (h : p := by repeat (first | exact Drawn0.refl _ | apply Drawn0.step)) : p := h
theorem z16_0 {p : Prop} (h : p := by first | rfl | (simp; done) | (simp [*]; done)) : p := h
set_option maxHeartbeats 8000000 in
set_option maxRecDepth 100000 in
theorem spec_l1Join.calls (k : Nat) (A0 : Option Addr) (c0 : Nat) (l0 : List (List Int)) (a1 : Int) (a2 : Int) (r : Int) (w : World) (hr0 : Kd.C (Kd.slice 3 (Kd.int .i64)) w A0 l0.length l0) (hc0 : l0.length ≤ c0) (h : spec_l1Join.f k l0 a1 a2 = some r) :
 Calls Try.prog 76 #[.slice A0 l0.length c0, .int .i64 a1, .int .i64 a2] w fun e w' => e = .returned (.int .i64 r) ∧ Drawn0 w w' := by
 have HR0 := ak hr0
 have h9 := ak hc0
 clear hr0 hc0
 have H : (spec_l1Join.l0 k l0 a1 a2 (-1) 0) = some r := h
 clear h
 have H' := ak H
 clear H
 go_enter Try.func76, Try.ntmps76
 go_wp2
 go_loopg [7, 8] k (fun kq v7 v8 w' => ∃ (a5 : Int) (a0 : Int), v7 = .int .i64 a5 ∧ v8 = .int .i64 a0 ∧ Aside0 (spec_l1Join.l0 kq l0 a1 a2 a5 a0 = some r) ∧ Aside0 (kq ≤ k) ∧ Drawn0 w w')
 case atStart => exact ⟨((-1)), (0), z16_0, z16_0, H', ⟨Nat.le_refl _⟩, z16_1⟩
 case round =>
  clear H'
  obtain ⟨a5, a0, rfl, rfl, HA, HK1, ⟨m1, rfl⟩⟩ := hrel
  cases gk with
  | zero => exact absurd HA.out (by simp [spec_l1Join.l0])
  | succ k1 =>
   have H := HA.out
   clear HA
   simp only [spec_l1Join.l0] at H
   replace H := os_ H
   rcases H with ⟨d9, H⟩ | ⟨d9, H⟩
   ·
    replace H := od4 H
    obtain ⟨h5, h6, h7, h8, H⟩ := H
    replace H := oe2 H
    rcases H with ⟨⟨-, f4, f5⟩, H⟩ | ⟨⟨c9, f4, f5⟩, H⟩
    ·
     replace H := od3 H
     obtain ⟨g0, g1, g2, H⟩ := H
     replace H := oe2 H
     rcases H with ⟨⟨-, e0, e1⟩, H⟩ | ⟨⟨i0, e0, e1⟩, H⟩
     ·
      replace H := os_ H
      rcases H with ⟨e2, H⟩ | ⟨e2, H⟩
      ·
       have H' := ak H
       clear H
       obtain ⟨ad591, a6, a7, e591, hx591_0, a4, HR591_0, b7, q591⟩ := al_ HR0.out a1
       cases e591
       obtain ⟨ad592, e592, hx592_0, b8, q592⟩ := ai_ HR591_0.out a0
       cases e592
       obtain ⟨ad593, b0, b1, e593, hx593_0, a8, HR593_0, d1, q593⟩ := al_ HR0.out a2
       obtain rfl := ij_ e593
       obtain ⟨ad594, e594, hx594_0, d2, q594⟩ := ai_ HR593_0.out a0
       cases e594
       go_wp2
       go_roundg k1
       case measure => have := HK1.out; omega
       case rel => exact ⟨(a0), (wrap64 (a0 + 1)), z16_0, z16_0, H', ⟨(by have := HK1.out; omega)⟩, z16_1⟩
      replace H := od2 H
      obtain ⟨g3, g4, H⟩ := H
      replace H := oe2 H
      rcases H with ⟨⟨-, e3, e4⟩, H⟩ | ⟨⟨i1, e3, e4⟩, H⟩
      ·
       have H' := ak H
       clear H
       obtain ⟨ad591, a6, a7, e591, hx591_0, a4, HR591_0, b7, q591⟩ := al_ HR0.out a1
       cases e591
       obtain ⟨ad592, e592, hx592_0, b8, q592⟩ := ai_ HR591_0.out a0
       cases e592
       obtain ⟨ad593, b0, b1, e593, hx593_0, a8, HR593_0, d1, q593⟩ := al_ HR0.out a2
       obtain rfl := ij_ e593
       obtain ⟨ad594, e594, hx594_0, d2, q594⟩ := ai_ HR593_0.out a0
       cases e594
       obtain ⟨ad595, d3, d4, e595, hx595_0, b9, HR595_0, f6, q595⟩ := al_ HR0.out a0
       obtain rfl := ij_ e595
       obtain ⟨ad596, e596, hx596_0, f7, q596⟩ := ai_ HR595_0.out a5
       cases e596
       go_wp2
       go_roundg k1
       case measure => have := HK1.out; omega
       case rel => exact ⟨(a0), (wrap64 (a0 + 1)), z16_0, z16_0, H', ⟨(by have := HK1.out; omega)⟩, z16_1⟩
      have H' := ak H
      clear H
      obtain ⟨ad591, a6, a7, e591, hx591_0, a4, HR591_0, b7, q591⟩ := al_ HR0.out a1
      cases e591
      obtain ⟨ad592, e592, hx592_0, b8, q592⟩ := ai_ HR591_0.out a0
      cases e592
      obtain ⟨ad593, b0, b1, e593, hx593_0, a8, HR593_0, d1, q593⟩ := al_ HR0.out a2
      obtain rfl := ij_ e593
      obtain ⟨ad594, e594, hx594_0, d2, q594⟩ := ai_ HR593_0.out a0
      cases e594
      obtain ⟨ad595, d3, d4, e595, hx595_0, b9, HR595_0, f6, q595⟩ := al_ HR0.out a0
      obtain rfl := ij_ e595
      obtain ⟨ad596, e596, hx596_0, f7, q596⟩ := ai_ HR595_0.out a5
      cases e596
      go_wp2
      go_roundg k1
      case measure => have := HK1.out; omega
      case rel => exact ⟨(a5), (wrap64 (a0 + 1)), z16_0, z16_0, H', ⟨(by have := HK1.out; omega)⟩, z16_1⟩
     have H' := ak H
     clear H
     obtain ⟨ad591, a6, a7, e591, hx591_0, a4, HR591_0, b7, q591⟩ := al_ HR0.out a1
     cases e591
     obtain ⟨ad592, e592, hx592_0, b8, q592⟩ := ai_ HR591_0.out a0
     cases e592
     obtain ⟨ad593, b0, b1, e593, hx593_0, a8, HR593_0, d1, q593⟩ := al_ HR0.out a2
     obtain rfl := ij_ e593
     obtain ⟨ad594, e594, hx594_0, d2, q594⟩ := ai_ HR593_0.out a0
     cases e594
     go_wp2
     go_roundg k1
     case measure => have := HK1.out; omega
     case rel => exact ⟨(a5), (wrap64 (a0 + 1)), z16_0, z16_0, H', ⟨(by have := HK1.out; omega)⟩, z16_1⟩
    have H' := ak H
    clear H
    obtain ⟨ad591, a6, a7, e591, hx591_0, a4, HR591_0, b7, q591⟩ := al_ HR0.out a1
    cases e591
    obtain ⟨ad592, e592, hx592_0, b8, q592⟩ := ai_ HR591_0.out a0
    cases e592
    go_wp2
    go_roundg k1
    case measure => have := HK1.out; omega
    case rel => exact ⟨(a5), (wrap64 (a0 + 1)), z16_0, z16_0, H', ⟨(by have := HK1.out; omega)⟩, z16_1⟩
   have H' := ak H
   clear H
   go_wp2
   go_loopg [9] k1 (fun kq v9 w' => ∃ (a3 : Int), v9 = .int .i64 a3 ∧ Aside0 (spec_l1Join.l1 kq l0 a1 a2 a5 a3 = some r) ∧ Aside0 (kq ≤ k1) ∧ Drawn0 w w')
   case atStart => exact ⟨(0), z16_0, H', ⟨Nat.le_refl _⟩, z16_1⟩
   case round =>
    clear H'
    try clear c4
    try clear d9
    obtain ⟨a3, rfl, HA, HK2, ⟨m2, rfl⟩⟩ := hrel
    cases gk with
    | zero => exact absurd HA.out (by simp [spec_l1Join.l1])
    | succ k2 =>
     have H := HA.out
     clear HA
     simp only [spec_l1Join.l1] at H
     replace H := os_ H
     rcases H with ⟨e5, H⟩ | ⟨e5, H⟩
     ·
      replace H := od4 H
      obtain ⟨g5, g6, g7, g8, H⟩ := H
      replace H := oe2 H
      rcases H with ⟨⟨-, e6, e7⟩, H⟩ | ⟨⟨i2, e6, e7⟩, H⟩
      ·
       replace H := od3 H
       obtain ⟨g9, h0, h1, H⟩ := H
       replace H := oe2 H
       rcases H with ⟨⟨-, e8, e9⟩, H⟩ | ⟨⟨i3, e8, e9⟩, H⟩
       ·
        replace H := od3 H
        obtain ⟨h2, h3, h4, H⟩ := H
        replace H := oe2 H
        rcases H with ⟨⟨-, f0, f1⟩, H⟩ | ⟨⟨i4, f0, f1⟩, H⟩
        ·
         obtain rfl := Option.some.inj H
         obtain ⟨ad597, b2, b3, e597, hx597_0, a9, HR597_0, d5, q597⟩ := al_ HR0.out a1
         cases e597
         obtain ⟨ad598, e598, hx598_0, d6, q598⟩ := ai_ HR597_0.out a3
         cases e598
         obtain ⟨ad599, b5, b6, e599, hx599_0, b4, HR599_0, f2, q599⟩ := al_ HR0.out a2
         obtain rfl := ij_ e599
         obtain ⟨ad600, e600, hx600_0, f3, q600⟩ := ai_ HR599_0.out a3
         cases e600
         obtain ⟨ad601, d7, d8, e601, hx601_0, d0, HR601_0, f8, q601⟩ := al_ HR0.out a5
         obtain rfl := ij_ e601
         obtain ⟨ad602, e602, hx602_0, f9, q602⟩ := ai_ HR601_0.out a3
         cases e602
         go_wp2
         go_ret
         exact ⟨z16_0, z16_1⟩
        have H' := ak H
        clear H
        obtain ⟨ad597, b2, b3, e597, hx597_0, a9, HR597_0, d5, q597⟩ := al_ HR0.out a1
        cases e597
        obtain ⟨ad598, e598, hx598_0, d6, q598⟩ := ai_ HR597_0.out a3
        cases e598
        obtain ⟨ad599, b5, b6, e599, hx599_0, b4, HR599_0, f2, q599⟩ := al_ HR0.out a2
        obtain rfl := ij_ e599
        obtain ⟨ad600, e600, hx600_0, f3, q600⟩ := ai_ HR599_0.out a3
        cases e600
        obtain ⟨ad601, d7, d8, e601, hx601_0, d0, HR601_0, f8, q601⟩ := al_ HR0.out a5
        obtain rfl := ij_ e601
        obtain ⟨ad602, e602, hx602_0, f9, q602⟩ := ai_ HR601_0.out a3
        cases e602
        go_wp2
        go_roundg k2
        case measure => have := HK1.out; have := HK2.out; omega
        case rel => exact ⟨(wrap64 (a3 + 1)), z16_0, H', ⟨(by have := HK1.out; have := HK2.out; omega)⟩, z16_1⟩
       have H' := ak H
       clear H
       obtain ⟨ad597, b2, b3, e597, hx597_0, a9, HR597_0, d5, q597⟩ := al_ HR0.out a1
       cases e597
       obtain ⟨ad598, e598, hx598_0, d6, q598⟩ := ai_ HR597_0.out a3
       cases e598
       obtain ⟨ad599, b5, b6, e599, hx599_0, b4, HR599_0, f2, q599⟩ := al_ HR0.out a2
       obtain rfl := ij_ e599
       obtain ⟨ad600, e600, hx600_0, f3, q600⟩ := ai_ HR599_0.out a3
       cases e600
       go_wp2
       go_roundg k2
       case measure => have := HK1.out; have := HK2.out; omega
       case rel => exact ⟨(wrap64 (a3 + 1)), z16_0, H', ⟨(by have := HK1.out; have := HK2.out; omega)⟩, z16_1⟩
      have H' := ak H
      clear H
      obtain ⟨ad597, b2, b3, e597, hx597_0, a9, HR597_0, d5, q597⟩ := al_ HR0.out a1
      cases e597
      obtain ⟨ad598, e598, hx598_0, d6, q598⟩ := ai_ HR597_0.out a3
      cases e598
      go_wp2
      go_roundg k2
      case measure => have := HK1.out; have := HK2.out; omega
      case rel => exact ⟨(wrap64 (a3 + 1)), z16_0, H', ⟨(by have := HK1.out; have := HK2.out; omega)⟩, z16_1⟩
     obtain rfl := Option.some.inj H
     go_wp2
     go_ret
     exact ⟨z16_0, z16_1⟩

end Go.Proofs.Ytacifhahfamipaa.P

namespace Go.Proofs.Ytacifhahfamipaa.P
open Go.RowKit Go.Proofs.YtacifhahfamipaaW.PrintWords Go.Proofs.YtacifhahfamipaaW.PrintLast Go.Proofs.YtacifhahfamipaaW.PrintMore
attribute [local go_sem] max2_int min2_int max_two min_two max_three min_three max_four min_four
set_option linter.unusedVariables false
set_option linter.unusedSimpArgs false
theorem z1r_3 {p : Prop} (h : p := by have := HK1.out; have := HK2.out; have := HK3.out; first | omega | exact Nat.le_refl _) : p := h
theorem z1r_2 {p : Prop} (h : p := by have := HK1.out; have := HK2.out; have := HK3.out; have := b3.out; have := HK5.out; omega) : p := h
theorem z1r_1 {p : Prop} (h : p := by first | rfl | (simp; done) | (simp [*]; done)) : p := h
theorem z1r_0 {p : Prop} (h : p := by repeat (first | exact Drawn0.refl _ | apply Drawn0.step)) : p := h
set_option maxHeartbeats 8000000 in
set_option maxRecDepth 100000 in
theorem spec_OrderOk.calls (k : Nat) (A0 : Option Addr) (c0 : Nat) (l0 : List (List Int)) (r : Bool) (w : World) (hr0 : Kd.C (Kd.slice 3 (Kd.int .i64)) w A0 l0.length l0) (hc0 : l0.length ≤ c0) (h : spec_OrderOk.f k l0 = some r) :
 Calls Try.prog 112 #[.slice A0 l0.length c0] w fun e w' => e = .returned (.bool r) ∧ Drawn0 w w' := by
 have HR0 := ak hr0
 have l8 := ak hc0
 clear hr0 hc0
 have H : ((spec_l1In.f (l0.length : Int) 1 12).bind fun e5 => (if e5 = true then (spec_OrderOk.l0 k l0 (l0.length : Int) 0) else (some false))) = some r := h
 clear h
 obtain ⟨e5, A2, H⟩ := bd_ H
 try dsimp only at H
 replace H := ox_ H
 rcases H with ⟨rfl, H⟩ | ⟨rfl, H⟩
 ·
  have H' := ak H
  clear H
  go_enter Try.func112, Try.ntmps112
  go_wp2_with (first | ((with_reducible refine gate_callee (f := 72) rfl ?_); refine gl_ (some 12) Try.func72 #[.int .i64 (l0.length : Int), .int .i64 1, .int .i64 12] ?_; (with_reducible refine (spec_l1In.calls (l0.length : Int) 1 12 true _ A2.out).mono ?_); rintro e w' ⟨rfl, ⟨nd, rfl⟩⟩; refine ⟨_, rfl, ?_⟩))
  go_loopg [4] k (fun kq v4 w' => ∃ (a2 : Int), v4 = .int .i64 a2 ∧ Aside0 (spec_OrderOk.l0 kq l0 (l0.length : Int) a2 = some r) ∧ Aside0 (kq ≤ k) ∧ Drawn0 w w')
  case atStart => exact ⟨(0), z1r_1, H', ⟨Nat.le_refl _⟩, z1r_0⟩
  case round =>
   clear H'
   try clear c3
   obtain ⟨a2, rfl, HA, HK1, ⟨m1, rfl⟩⟩ := hrel
   cases gk with
   | zero => exact absurd HA.out (by simp [spec_OrderOk.l0])
   | succ k1 =>
    have H := HA.out
    clear HA
    simp only [spec_OrderOk.l0] at H
    replace H := os_ H
    rcases H with ⟨b2, H⟩ | ⟨b2, H⟩
    ·
     replace H := od2 H
     obtain ⟨g6, g7, H⟩ := H
     replace H := oe2 H
     rcases H with ⟨⟨c7, e6, e7⟩, H⟩ | ⟨⟨c7, e6, e7⟩, H⟩
     ·
      have e8 : ((rd_L1 l0 a2).length == l0.length) = true := by first | simpa using c7 | (simp at c7 ⊢; omega)
      clear c7
      have H' := ak H
      clear H
      obtain ⟨ad604, d2, d3, e604, hx604_0, b7, HR604_0, e9, q604⟩ := al_ HR0.out a2
      cases e604
      go_wp2
      go_loopg [5] k1 (fun kq v5 w' => ∃ (a4 : Int), v5 = .int .i64 a4 ∧ Aside0 (spec_OrderOk.l1 kq l0 (l0.length : Int) a2 a4 = some r) ∧ Aside0 (kq ≤ k1) ∧ Drawn0 w w')
      case atStart => exact ⟨(0), z1r_1, H', ⟨Nat.le_refl _⟩, z1r_0⟩
      case round =>
       clear H'
       try clear c3
       try clear c4
       try clear b2
       try clear c5
       try clear g6
       try clear c6
       try clear g7
       try clear c7
       try clear e6
       try clear e7
       try clear e8
       try clear hx604_0
       try clear e9
       try clear q604
       obtain ⟨a4, rfl, HA, HK2, ⟨m2, rfl⟩⟩ := hrel
       cases gk with
       | zero => exact absurd HA.out (by simp [spec_OrderOk.l1])
       | succ k2 =>
        have H := HA.out
        clear HA
        simp only [spec_OrderOk.l1] at H
        replace H := os_ H
        rcases H with ⟨g8, H⟩ | ⟨g8, H⟩
        ·
         replace H := od4 H
         obtain ⟨k7, h9, i0, i1, H⟩ := H
         obtain ⟨k8, i2, H⟩ := bd_ H
         try dsimp only at H
         replace H := ox_ H
         rcases H with ⟨rfl, H⟩ | ⟨rfl, H⟩
         ·
          have H' := ak H
          clear H
          obtain ⟨ad605, d4, d5, e605, hx605_0, b8, HR605_0, g9, q605⟩ := al_ HR0.out a2
          obtain rfl := ij_ e605
          obtain ⟨ad606, e606, hx606_0, h0, q606⟩ := ai_ HR605_0.out a4
          cases e606
          go_wp2_with (first | ((with_reducible refine gate_callee (f := 72) rfl ?_); refine gl_ (some 38) Try.func72 #[.int .i64 (rd (rd_L1 l0 a2) a4), .int .i64 0, .int .i64 1] ?_; (with_reducible refine (spec_l1In.calls (rd (rd_L1 l0 a2) a4) 0 1 true _ i2.out).mono ?_); rintro e w' ⟨rfl, ⟨nd, rfl⟩⟩; refine ⟨_, rfl, ?_⟩))
          go_roundg k2
          case measure => have := HK1.out; have := HK2.out; omega
          case rel => exact ⟨(wrap64 (a4 + 1)), z1r_1, H', ⟨(by have := HK1.out; have := HK2.out; omega)⟩, z1r_0⟩
         obtain rfl := Option.some.inj H
         obtain ⟨ad605, d4, d5, e605, hx605_0, b8, HR605_0, g9, q605⟩ := al_ HR0.out a2
         obtain rfl := ij_ e605
         obtain ⟨ad606, e606, hx606_0, h0, q606⟩ := ai_ HR605_0.out a4
         cases e606
         go_wp2_with (first | ((with_reducible refine gate_callee (f := 72) rfl ?_); refine gl_ (some 38) Try.func72 #[.int .i64 (rd (rd_L1 l0 a2) a4), .int .i64 0, .int .i64 1] ?_; (with_reducible refine (spec_l1In.calls (rd (rd_L1 l0 a2) a4) 0 1 false _ i2.out).mono ?_); rintro e w' ⟨rfl, ⟨nd, rfl⟩⟩; refine ⟨_, rfl, ?_⟩))
         go_ret
         exact ⟨z1r_1, z1r_0⟩
        have H' := ak H
        clear H
        go_wp2
        go_roundg k2
        case measure => have := HK1.out; have := HK2.out; omega
        case rel => exact ⟨(wrap64 (a2 + 1)), z1r_1, H', ⟨(by have := HK1.out; have := HK2.out; omega)⟩, z1r_0⟩
     have e8 : ((rd_L1 l0 a2).length == l0.length) = false := by first | simpa using c7 | (simp at c7 ⊢; omega)
     obtain rfl := Option.some.inj H
     obtain ⟨ad604, d2, d3, e604, hx604_0, b7, HR604_0, e9, q604⟩ := al_ HR0.out a2
     cases e604
     go_wp2
     go_ret
     exact ⟨z1r_1, z1r_0⟩
    have H' := ak H
    clear H
    go_wp2
    go_loopg [6] k1 (fun kq v6 w' => ∃ (a0 : Int), v6 = .int .i64 a0 ∧ Aside0 (spec_OrderOk.l2 kq l0 (l0.length : Int) a0 = some r) ∧ Aside0 (kq ≤ k1) ∧ Drawn0 w w')
    case atStart => exact ⟨(0), z1r_1, H', ⟨Nat.le_refl _⟩, z1r_0⟩
    case round =>
     clear H'
     try clear c3
     try clear c4
     try clear b2
     obtain ⟨a0, rfl, HA, HK2, ⟨m2, rfl⟩⟩ := hrel
     cases gk with
     | zero => exact absurd HA.out (by simp [spec_OrderOk.l2])
     | succ k2 =>
      have H := HA.out
      clear HA
      simp only [spec_OrderOk.l2] at H
      replace H := os_ H
      rcases H with ⟨b0, H⟩ | ⟨b0, H⟩
      ·
       have H' := ak H
       clear H
       go_wp2
       go_loopg [7] k2 (fun kq v7 w' => ∃ (a1 : Int), v7 = .int .i64 a1 ∧ Aside0 (spec_OrderOk.l3 kq l0 (l0.length : Int) a0 a1 = some r) ∧ Aside0 (kq ≤ k2) ∧ Drawn0 w w')
       case atStart => exact ⟨(0), z1r_1, H', ⟨Nat.le_refl _⟩, z1r_0⟩
       case round =>
        clear H'
        try clear c3
        try clear c4
        try clear b2
        try clear i3
        try clear b0
        obtain ⟨a1, rfl, HA, HK3, ⟨m3, rfl⟩⟩ := hrel
        cases gk with
        | zero => exact absurd HA.out (by simp [spec_OrderOk.l3])
        | succ k3 =>
         have H := HA.out
         clear HA
         simp only [spec_OrderOk.l3] at H
         replace H := os_ H
         rcases H with ⟨b4, H⟩ | ⟨b4, H⟩
         ·
          have d6 := ak H
          clear H
          go_upto_region 20 with (fail)
          go_cut [87] (fun k9 wc => ∃ (kq : Nat) (a7 : Bool), k9 = .bool a7 ∧ Aside0 (spec_OrderOk.j4 kq l0 (l0.length : Int) a0 a1 a7 = some r) ∧ Aside0 (kq ≤ k3) ∧ Drawn0 w wc)
          case first =>
           have H := d6.out
           clear d6
           replace H := oe2 H
           rcases H with ⟨⟨-, a6, f0⟩, H⟩ | ⟨⟨l9, a6, f0⟩, H⟩
           ·
            (first | rw [a6] | (simp only [i64_w, i32_w]; rw [a6]) | skip)
            replace H := od4 H
            obtain ⟨i4, i5, i6, i7, H⟩ := H
            replace H := oe2 H
            rcases H with ⟨⟨-, f1, f2⟩, H⟩ | ⟨⟨m0, f1, f2⟩, H⟩
            ·
             have H' := ak H
             clear H
             obtain ⟨ad608, d7, d8, e608, hx608_0, b9, HR608_0, h1, q608⟩ := al_ HR0.out a0
             cases e608
             obtain ⟨ad609, e609, hx609_0, h2, q609⟩ := ai_ HR608_0.out a1
             cases e609
             go_wp2
             go_meet
             case rel => exact ⟨_, (true), z1r_1, H', ⟨z1r_3⟩, z1r_0⟩
            have H' := ak H
            clear H
            obtain ⟨ad608, d7, d8, e608, hx608_0, b9, HR608_0, h1, q608⟩ := al_ HR0.out a0
            cases e608
            obtain ⟨ad609, e609, hx609_0, h2, q609⟩ := ai_ HR608_0.out a1
            cases e609
            go_wp2
            go_meet
            case rel => exact ⟨_, (false), z1r_1, H', ⟨z1r_3⟩, z1r_0⟩
           (first | rw [a6] | (simp only [i64_w, i32_w]; rw [a6]) | skip)
           replace H := od4 H
           obtain ⟨i8, i9, j0, j1, H⟩ := H
           replace H := oe2 H
           rcases H with ⟨⟨-, f3, f4⟩, H⟩ | ⟨⟨m4, f3, f4⟩, H⟩
           ·
            replace H := od2 H
            obtain ⟨j2, j3, H⟩ := H
            have H' := ak H
            clear H
            obtain ⟨ad610, d9, e0, e610, hx610_0, d0, HR610_0, h3, q610⟩ := al_ HR0.out a0
            cases e610
            obtain ⟨ad611, e611, hx611_0, h4, q611⟩ := ai_ HR610_0.out a1
            cases e611
            obtain ⟨ad612, h5, h6, e612, hx612_0, g5, HR612_0, l5, q612⟩ := al_ HR0.out a1
            obtain rfl := ij_ e612
            obtain ⟨ad613, e613, hx613_0, l6, q613⟩ := ai_ HR612_0.out a0
            cases e613
            go_wp2
            go_meet
            case rel => exact ⟨_, (((rd (rd_L1 l0 a1) a0) == 1)), z1r_1, H', ⟨z1r_3⟩, z1r_0⟩
           have H' := ak H
           clear H
           obtain ⟨ad610, d9, e0, e610, hx610_0, d0, HR610_0, h3, q610⟩ := al_ HR0.out a0
           cases e610
           obtain ⟨ad611, e611, hx611_0, h4, q611⟩ := ai_ HR610_0.out a1
           cases e611
           go_wp2
           go_meet
           case rel => exact ⟨_, (false), z1r_1, H', ⟨z1r_3⟩, z1r_0⟩
          case rest =>
           clear d6
           try clear c3
           try clear c4
           try clear b2
           try clear i3
           try clear b0
           try clear l7
           try clear b4
           obtain ⟨kq, a7, rfl, HA, b3, ⟨mc16, rfl⟩⟩ := hcut
           cases kq with
           | zero => exact absurd HA.out (by simp [spec_OrderOk.j4])
           | succ f5 =>
            have H := HA.out
            clear HA
            simp only [spec_OrderOk.j4] at H
            replace H := ox_ H
            rcases H with ⟨rfl, H⟩ | ⟨rfl, H⟩
            ·
             obtain rfl := Option.some.inj H
             go_wp2
             go_ret
             exact ⟨z1r_1, z1r_0⟩
            have H' := ak H
            clear H
            go_wp2
            go_loopg [8] f5 (fun kq v8 w' => ∃ (a3 : Int), v8 = .int .i64 a3 ∧ Aside0 (spec_OrderOk.l4 kq l0 (l0.length : Int) a0 a1 a3 = some r) ∧ Aside0 (kq ≤ f5) ∧ Drawn0 w w')
            case atStart => exact ⟨(0), z1r_1, H', ⟨Nat.le_refl _⟩, z1r_0⟩
            case round =>
             clear H'
             try clear c3
             try clear c4
             try clear b2
             try clear i3
             try clear b0
             try clear l7
             try clear b4
             try clear m6
             obtain ⟨a3, rfl, HA, HK5, ⟨m5, rfl⟩⟩ := hrel
             cases gk with
             | zero => exact absurd HA.out (by simp [spec_OrderOk.l4])
             | succ k5 =>
              have H := HA.out
              clear HA
              simp only [spec_OrderOk.l4] at H
              replace H := os_ H
              rcases H with ⟨f6, H⟩ | ⟨f6, H⟩
              ·
               replace H := od4 H
               obtain ⟨j5, j6, j7, j8, H⟩ := H
               replace H := oe2 H
               rcases H with ⟨⟨-, f7, f8⟩, H⟩ | ⟨⟨m7, f7, f8⟩, H⟩
               ·
                replace H := od3 H
                obtain ⟨j9, k0, k4, H⟩ := H
                replace H := oe2 H
                rcases H with ⟨⟨-, f9, g0⟩, H⟩ | ⟨⟨m8, f9, g0⟩, H⟩
                ·
                 replace H := od_ H
                 obtain ⟨k6, H⟩ := H
                 replace H := oe2 H
                 rcases H with ⟨⟨-, g1, g2⟩, H⟩ | ⟨⟨m9, g1, g2⟩, H⟩
                 ·
                  obtain rfl := Option.some.inj H
                  obtain ⟨ad614, a8, a9, e614, hx614_0, a5, HR614_0, e1, q614⟩ := al_ HR0.out a0
                  cases e614
                  obtain ⟨ad615, e615, hx615_0, e2, q615⟩ := ai_ HR614_0.out a1
                  cases e615
                  obtain ⟨ad616, b5, b6, e616, hx616_0, b1, HR616_0, g3, q616⟩ := al_ HR0.out a1
                  obtain rfl := ij_ e616
                  obtain ⟨ad617, e617, hx617_0, g4, q617⟩ := ai_ HR616_0.out a3
                  cases e617
                  obtain ⟨ad618, e3, e4, e618, hx618_0, d1, HR618_0, h7, q618⟩ := al_ HR0.out a0
                  obtain rfl := ij_ e618
                  obtain ⟨rfl, rfl⟩ := is_ hx614_0 hx618_0
                  obtain ⟨ad619, e619, hx619_0, h8, q619⟩ := ai_ HR618_0.out a3
                  cases e619
                  go_wp2
                  go_ret
                  exact ⟨z1r_1, z1r_0⟩
                 have H' := ak H
                 clear H
                 obtain ⟨ad614, a8, a9, e614, hx614_0, a5, HR614_0, e1, q614⟩ := al_ HR0.out a0
                 cases e614
                 obtain ⟨ad615, e615, hx615_0, e2, q615⟩ := ai_ HR614_0.out a1
                 cases e615
                 obtain ⟨ad616, b5, b6, e616, hx616_0, b1, HR616_0, g3, q616⟩ := al_ HR0.out a1
                 obtain rfl := ij_ e616
                 obtain ⟨ad617, e617, hx617_0, g4, q617⟩ := ai_ HR616_0.out a3
                 cases e617
                 obtain ⟨ad618, e3, e4, e618, hx618_0, d1, HR618_0, h7, q618⟩ := al_ HR0.out a0
                 obtain rfl := ij_ e618
                 obtain ⟨rfl, rfl⟩ := is_ hx614_0 hx618_0
                 obtain ⟨ad619, e619, hx619_0, h8, q619⟩ := ai_ HR618_0.out a3
                 cases e619
                 go_wp2
                 go_roundg k5
                 case measure => have := HK1.out; have := HK2.out; have := HK3.out; have := b3.out; have := HK5.out; omega
                 case rel => exact ⟨(wrap64 (a3 + 1)), z1r_1, H', ⟨z1r_2⟩, z1r_0⟩
                have H' := ak H
                clear H
                obtain ⟨ad614, a8, a9, e614, hx614_0, a5, HR614_0, e1, q614⟩ := al_ HR0.out a0
                cases e614
                obtain ⟨ad615, e615, hx615_0, e2, q615⟩ := ai_ HR614_0.out a1
                cases e615
                obtain ⟨ad616, b5, b6, e616, hx616_0, b1, HR616_0, g3, q616⟩ := al_ HR0.out a1
                obtain rfl := ij_ e616
                obtain ⟨ad617, e617, hx617_0, g4, q617⟩ := ai_ HR616_0.out a3
                cases e617
                go_wp2
                go_roundg k5
                case measure => have := HK1.out; have := HK2.out; have := HK3.out; have := b3.out; have := HK5.out; omega
                case rel => exact ⟨(wrap64 (a3 + 1)), z1r_1, H', ⟨z1r_2⟩, z1r_0⟩
               have H' := ak H
               clear H
               obtain ⟨ad614, a8, a9, e614, hx614_0, a5, HR614_0, e1, q614⟩ := al_ HR0.out a0
               cases e614
               obtain ⟨ad615, e615, hx615_0, e2, q615⟩ := ai_ HR614_0.out a1
               cases e615
               go_wp2
               go_roundg k5
               case measure => have := HK1.out; have := HK2.out; have := HK3.out; have := b3.out; have := HK5.out; omega
               case rel => exact ⟨(wrap64 (a3 + 1)), z1r_1, H', ⟨z1r_2⟩, z1r_0⟩
              have H' := ak H
              clear H
              go_wp2
              go_roundg k5
              case measure => have := HK1.out; have := HK2.out; have := HK3.out; have := b3.out; have := HK5.out; omega
              case rel => exact ⟨(wrap64 (a1 + 1)), z1r_1, H', ⟨z1r_2⟩, z1r_0⟩
         have H' := ak H
         clear H
         go_wp2
         go_roundg k3
         case measure => have := HK1.out; have := HK2.out; have := HK3.out; omega
         case rel => exact ⟨(wrap64 (a0 + 1)), z1r_1, H', ⟨(by have := HK1.out; have := HK2.out; have := HK3.out; omega)⟩, z1r_0⟩
      obtain rfl := Option.some.inj H
      go_wp2
      go_ret
      exact ⟨z1r_1, z1r_0⟩
 obtain rfl := Option.some.inj H
 go_enter Try.func112, Try.ntmps112
 go_wp2_with (first | ((with_reducible refine gate_callee (f := 72) rfl ?_); refine gl_ (some 12) Try.func72 #[.int .i64 (l0.length : Int), .int .i64 1, .int .i64 12] ?_; (with_reducible refine (spec_l1In.calls (l0.length : Int) 1 12 false _ A2.out).mono ?_); rintro e w' ⟨rfl, ⟨nd, rfl⟩⟩; refine ⟨_, rfl, ?_⟩))
 go_ret
 exact ⟨z1r_1, z1r_0⟩

end Go.Proofs.Ytacifhahfamipaa.P

namespace Go.Proofs.Ytacifhahfamipaa.P
open Go.RowKit Go.Proofs.YtacifhahfamipaaW.PrintWords Go.Proofs.YtacifhahfamipaaW.PrintLast Go.Proofs.YtacifhahfamipaaW.PrintMore
attribute [local go_sem] max2_int min2_int max_two min_two max_three min_three max_four min_four
set_option linter.unusedVariables false
set_option linter.unusedSimpArgs false
theorem z1l_1 {p : Prop} (h : p := by first | rfl | (simp; done) | (simp [*]; done)) : p := h
theorem z1l_0 {p : Prop} (h : p := by repeat (first | exact Drawn0.refl _ | apply Drawn0.step)) : p := h
set_option maxHeartbeats 8000000 in
set_option maxRecDepth 100000 in
theorem spec_LatticeOk.calls (k : Nat) (A0 : Option Addr) (c0 : Nat) (l0 : List (List Int)) (r : Bool) (w : World) (hr0 : Kd.C (Kd.slice 3 (Kd.int .i64)) w A0 l0.length l0) (hc0 : l0.length ≤ c0) (h : spec_LatticeOk.f k l0 = some r) :
 Calls Try.prog 80 #[.slice A0 l0.length c0] w fun e w' => e = .returned (.bool r) ∧ Drawn0 w w' := by
 have HR0 := ak hr0
 have a4 := ak hc0
 clear hr0 hc0
 have H : (spec_LatticeOk.l0 k l0 0) = some r := h
 clear h
 have H' := ak H
 clear H
 go_enter Try.func80, Try.ntmps80
 go_wp2
 go_loopg [3] k (fun kq v3 w' => ∃ (a0 : Int), v3 = .int .i64 a0 ∧ Aside0 (spec_LatticeOk.l0 kq l0 a0 = some r) ∧ Aside0 (kq ≤ k) ∧ Drawn0 w w')
 case atStart => exact ⟨(0), z1l_1, H', ⟨Nat.le_refl _⟩, z1l_0⟩
 case round =>
  clear H'
  obtain ⟨a0, rfl, HA, HK1, ⟨m1, rfl⟩⟩ := hrel
  cases gk with
  | zero => exact absurd HA.out (by simp [spec_LatticeOk.l0])
  | succ k1 =>
   have H := HA.out
   clear HA
   simp only [spec_LatticeOk.l0] at H
   have b0 := ak H
   clear H
   go_upto_region 2 with (fail)
   go_cut [12] (fun b5 wc => ∃ (kq : Nat) (a2 : Bool), b5 = .bool a2 ∧ Aside0 (spec_LatticeOk.j1 kq l0 a0 a2 = some r) ∧ Aside0 (kq ≤ k1) ∧ Drawn0 w wc)
   case first =>
    have H := b0.out
    clear b0
    replace H := os_ H
    rcases H with ⟨a3, H⟩ | ⟨a3, H⟩
    ·
     (first | rw [a3] | (simp only [i64_w, i32_w]; rw [a3]) | skip)
     obtain ⟨a6, A4, H⟩ := bd_ H
     try dsimp only at H
     have H' := ak H
     clear H
     go_wp2_with (first | (go_at_call 112; (with_reducible refine (spec_OrderOk.calls k1 _ _ l0 a6 _ (y4 HR0.out) a4.out A4.out).mono ?_); rintro e w' ⟨rfl, ⟨nd, rfl⟩⟩))
     go_meet
     case rel => exact ⟨_, (a6), z1l_1, H', ⟨(by have := HK1.out; first | omega | exact Nat.le_refl _)⟩, z1l_0⟩
    (first | rw [a3] | (simp only [i64_w, i32_w]; rw [a3]) | skip)
    have H' := ak H
    clear H
    go_wp2
    go_meet
    case rel => exact ⟨_, (false), z1l_1, H', ⟨(by have := HK1.out; first | omega | exact Nat.le_refl _)⟩, z1l_0⟩
   case rest =>
    clear b0
    obtain ⟨kq, a2, rfl, HA, a9, ⟨mc1, rfl⟩⟩ := hcut
    cases kq with
    | zero => exact absurd HA.out (by simp [spec_LatticeOk.j1])
    | succ b1 =>
     have H := HA.out
     clear HA
     simp only [spec_LatticeOk.j1] at H
     replace H := ox_ H
     rcases H with ⟨rfl, H⟩ | ⟨rfl, H⟩
     ·
      have H' := ak H
      clear H
      go_wp2
      go_loopg [4] b1 (fun kq v4 w' => ∃ (a1 : Int), v4 = .int .i64 a1 ∧ Aside0 (spec_LatticeOk.l1 kq l0 a0 a1 = some r) ∧ Aside0 (kq ≤ b1) ∧ Drawn0 w w')
      case atStart => exact ⟨(0), z1l_1, H', ⟨Nat.le_refl _⟩, z1l_0⟩
      case round =>
       clear H'
       try clear c5
       obtain ⟨a1, rfl, HA, HK3, ⟨m3, rfl⟩⟩ := hrel
       cases gk with
       | zero => exact absurd HA.out (by simp [spec_LatticeOk.l1])
       | succ k3 =>
        have H := HA.out
        clear HA
        simp only [spec_LatticeOk.l1] at H
        replace H := os_ H
        rcases H with ⟨b2, H⟩ | ⟨b2, H⟩
        ·
         obtain ⟨a5, A7, H⟩ := bd_ H
         try dsimp only at H
         replace H := os_ H
         rcases H with ⟨b3, H⟩ | ⟨b3, H⟩
         ·
          obtain rfl := Option.some.inj H
          go_wp2_with (first | ((with_reducible refine gate_callee (f := 77) rfl ?_); refine gl_ (some 23) Try.func77 #[.slice A0 l0.length c0, .int .i64 a0, .int .i64 a1] ?_; (with_reducible refine (spec_l1Meet.calls k3 _ _ l0 a0 a1 a5 _ (y4 HR0.out) a4.out A7.out).mono ?_); rintro e w' ⟨rfl, ⟨nd, rfl⟩⟩; refine ⟨_, rfl, ?_⟩))
          go_ret
          exact ⟨z1l_1, z1l_0⟩
         obtain ⟨a7, A9, H⟩ := bd_ H
         try dsimp only at H
         replace H := os_ H
         rcases H with ⟨a8, H⟩ | ⟨a8, H⟩
         ·
          obtain rfl := Option.some.inj H
          go_wp2_with (first | ((with_reducible refine gate_callee (f := 77) rfl ?_); refine gl_ (some 23) Try.func77 #[.slice A0 l0.length c0, .int .i64 a0, .int .i64 a1] ?_; (with_reducible refine (spec_l1Meet.calls k3 _ _ l0 a0 a1 a5 _ (y4 HR0.out) a4.out A7.out).mono ?_); rintro e w' ⟨rfl, ⟨nd, rfl⟩⟩; refine ⟨_, rfl, ?_⟩) | (go_at_call 76; (with_reducible refine (spec_l1Join.calls k3 _ _ l0 a0 a1 a7 _ (y4 HR0.out) a4.out A9.out).mono ?_); rintro e w' ⟨rfl, ⟨nd, rfl⟩⟩))
          go_ret
          exact ⟨z1l_1, z1l_0⟩
         have H' := ak H
         clear H
         go_wp2_with (first | ((with_reducible refine gate_callee (f := 77) rfl ?_); refine gl_ (some 23) Try.func77 #[.slice A0 l0.length c0, .int .i64 a0, .int .i64 a1] ?_; (with_reducible refine (spec_l1Meet.calls k3 _ _ l0 a0 a1 a5 _ (y4 HR0.out) a4.out A7.out).mono ?_); rintro e w' ⟨rfl, ⟨nd, rfl⟩⟩; refine ⟨_, rfl, ?_⟩) | (go_at_call 76; (with_reducible refine (spec_l1Join.calls k3 _ _ l0 a0 a1 a7 _ (y4 HR0.out) a4.out A9.out).mono ?_); rintro e w' ⟨rfl, ⟨nd, rfl⟩⟩))
         go_roundg k3
         case measure => have := HK1.out; have := a9.out; have := HK3.out; omega
         case rel => exact ⟨(wrap64 (a1 + 1)), z1l_1, H', ⟨(by have := HK1.out; have := a9.out; have := HK3.out; omega)⟩, z1l_0⟩
        have H' := ak H
        clear H
        go_wp2
        go_roundg k3
        case measure => have := HK1.out; have := a9.out; have := HK3.out; omega
        case rel => exact ⟨(wrap64 (a0 + 1)), z1l_1, H', ⟨(by have := HK1.out; have := a9.out; have := HK3.out; omega)⟩, z1l_0⟩
     obtain ⟨b4, b6, H⟩ := bd_ H
     try dsimp only at H
     obtain rfl := Option.some.inj H
     go_wp2_with (first | ((with_reducible refine gate_callee (f := 112) rfl ?_); refine gl_ (some 33) Try.func112 #[.slice A0 l0.length c0] ?_; (with_reducible refine (spec_OrderOk.calls b1 _ _ l0 b4 _ (y4 HR0.out) a4.out b6.out).mono ?_); rintro e w' ⟨rfl, ⟨nd, rfl⟩⟩; refine ⟨_, rfl, ?_⟩))
     go_ret
     exact ⟨z1l_1, z1l_0⟩

end Go.Proofs.Ytacifhahfamipaa.P

namespace Go.Proofs.Ytacifhahfamipaa.P
open Go.RowKit Go.Proofs.YtacifhahfamipaaW.PrintWords Go.Proofs.YtacifhahfamipaaW.PrintLast Go.Proofs.YtacifhahfamipaaW.PrintMore
attribute [local go_sem] max2_int min2_int max_two min_two max_three min_three max_four min_four
set_option linter.unusedVariables false
set_option linter.unusedSimpArgs false
theorem z1m_1 {p : Prop} (h : p := by repeat (first | exact Drawn0.refl _ | apply Drawn0.step)) : p := h
theorem z1m_0 {p : Prop} (h : p := by first | rfl | (simp; done) | (simp [*]; done)) : p := h
set_option maxHeartbeats 8000000 in
set_option maxRecDepth 100000 in
theorem spec_LeastOf.calls (k : Nat) (A0 : Option Addr) (c0 : Nat) (l0 : List (List Int)) (r1 : Int) (r2 : Bool) (w : World) (hr0 : Kd.C (Kd.slice 3 (Kd.int .i64)) w A0 l0.length l0) (hc0 : l0.length ≤ c0) (h : spec_LeastOf.f k l0 = some (r1, r2)) :
 Calls Try.prog 81 #[.slice A0 l0.length c0] w fun e w' => e = .returned (.tuple #[.int .i64 r1, .bool r2]) ∧ Drawn0 w w' := by
 have HR0 := ak hr0
 have b5 := ak hc0
 clear hr0 hc0
 have H : (spec_LeastOf.l0 k l0 0) = some (r1, r2) := h
 clear h
 have H' := ak H
 clear H
 go_enter Try.func81, Try.ntmps81
 go_wp2
 go_loopg [4] k (fun kq v4 w' => ∃ (a0 : Int), v4 = .int .i64 a0 ∧ Aside0 (spec_LeastOf.l0 kq l0 a0 = some (r1, r2)) ∧ Aside0 (kq ≤ k) ∧ Drawn0 w w')
 case atStart => exact ⟨(0), z1m_0, H', ⟨Nat.le_refl _⟩, z1m_1⟩
 case round =>
  clear H'
  obtain ⟨a0, rfl, HA, HK1, ⟨m1, rfl⟩⟩ := hrel
  cases gk with
  | zero => exact absurd HA.out (by simp [spec_LeastOf.l0])
  | succ k1 =>
   have H := HA.out
   clear HA
   simp only [spec_LeastOf.l0] at H
   have a8 := ak H
   clear H
   go_upto_region 2 with (fail)
   go_cut [14] (fun b6 wc => ∃ (kq : Nat) (a2 : Bool), b6 = .bool a2 ∧ Aside0 (spec_LeastOf.j1 kq l0 a0 a2 = some (r1, r2)) ∧ Aside0 (kq ≤ k1) ∧ Drawn0 w wc)
   case first =>
    have H := a8.out
    clear a8
    replace H := os_ H
    rcases H with ⟨a3, H⟩ | ⟨a3, H⟩
    ·
     (first | rw [a3] | (simp only [i64_w, i32_w]; rw [a3]) | skip)
     obtain ⟨a6, A4, H⟩ := bd_ H
     try dsimp only at H
     have H' := ak H
     clear H
     go_wp2_with (first | (go_at_call 112; (with_reducible refine (spec_OrderOk.calls k1 _ _ l0 a6 _ (y4 HR0.out) b5.out A4.out).mono ?_); rintro e w' ⟨rfl, ⟨nd, rfl⟩⟩))
     go_meet
     case rel => exact ⟨_, (a6), z1m_0, H', ⟨(by have := HK1.out; first | omega | exact Nat.le_refl _)⟩, z1m_1⟩
    (first | rw [a3] | (simp only [i64_w, i32_w]; rw [a3]) | skip)
    have H' := ak H
    clear H
    go_wp2
    go_meet
    case rel => exact ⟨_, (false), z1m_0, H', ⟨(by have := HK1.out; first | omega | exact Nat.le_refl _)⟩, z1m_1⟩
   case rest =>
    clear a8
    obtain ⟨kq, a2, rfl, HA, a5, ⟨mc1, rfl⟩⟩ := hcut
    cases kq with
    | zero => exact absurd HA.out (by simp [spec_LeastOf.j1])
    | succ b2 =>
     have H := HA.out
     clear HA
     simp only [spec_LeastOf.j1] at H
     replace H := ox_ H
     rcases H with ⟨rfl, H⟩ | ⟨rfl, H⟩
     ·
      have H' := ak H
      clear H
      go_wp2
      go_loopg [5, 6] b2 (fun kq v5 v6 w' => ∃ (a4 : Bool) (a1 : Int), v5 = .bool a4 ∧ v6 = .int .i64 a1 ∧ Aside0 (spec_LeastOf.l1 kq l0 a0 a4 a1 = some (r1, r2)) ∧ Aside0 (kq ≤ b2) ∧ Drawn0 w w')
      case atStart => exact ⟨(true), (0), z1m_0, z1m_0, H', ⟨Nat.le_refl _⟩, z1m_1⟩
      case round =>
       clear H'
       try clear c5
       obtain ⟨a4, a1, rfl, rfl, HA, HK3, ⟨m3, rfl⟩⟩ := hrel
       cases gk with
       | zero => exact absurd HA.out (by simp [spec_LeastOf.l1])
       | succ k3 =>
        have H := HA.out
        clear HA
        simp only [spec_LeastOf.l1] at H
        replace H := os_ H
        rcases H with ⟨a9, H⟩ | ⟨a9, H⟩
        ·
         replace H := ox_ H
         rcases H with ⟨rfl, H⟩ | ⟨rfl, H⟩
         ·
          replace H := od4 H
          obtain ⟨b7, b8, b3, b4, H⟩ := H
          have H' := ak H
          clear H
          obtain ⟨ad625, b0, b1, e625, hx625_0, a7, HR625_0, b9, q625⟩ := al_ HR0.out a0
          cases e625
          obtain ⟨ad626, e626, hx626_0, d0, q626⟩ := ai_ HR625_0.out a1
          cases e626
          go_wp2
          go_roundg k3
          case measure => have := HK1.out; have := a5.out; have := HK3.out; omega
          case rel => exact ⟨(((rd (rd_L1 l0 a0) a1) == 1)), (wrap64 (a1 + 1)), z1m_0, z1m_0, H', ⟨(by have := HK1.out; have := a5.out; have := HK3.out; omega)⟩, z1m_1⟩
         have H' := ak H
         clear H
         go_wp2
         go_roundg k3
         case measure => have := HK1.out; have := a5.out; have := HK3.out; omega
         case rel => exact ⟨(false), (wrap64 (a1 + 1)), z1m_0, z1m_0, H', ⟨(by have := HK1.out; have := a5.out; have := HK3.out; omega)⟩, z1m_1⟩
        replace H := ox_ H
        rcases H with ⟨rfl, H⟩ | ⟨rfl, H⟩
        ·
         simp only [Option.some.injEq, Prod.mk.injEq] at H
         obtain ⟨rfl, rfl⟩ := H
         go_wp2
         go_ret2
         exact ⟨z1m_0, z1m_1⟩
        have H' := ak H
        clear H
        go_wp2
        go_roundg k3
        case measure => have := HK1.out; have := a5.out; have := HK3.out; omega
        case rel => exact ⟨(wrap64 (a0 + 1)), z1m_0, H', ⟨(by have := HK1.out; have := a5.out; have := HK3.out; omega)⟩, z1m_1⟩
     simp only [Option.some.injEq, Prod.mk.injEq] at H
     obtain ⟨rfl, rfl⟩ := H
     go_wp2
     go_ret2
     exact ⟨z1m_0, z1m_1⟩

end Go.Proofs.Ytacifhahfamipaa.P
