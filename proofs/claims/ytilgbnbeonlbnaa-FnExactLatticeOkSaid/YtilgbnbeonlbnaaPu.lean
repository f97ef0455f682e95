/-
  Plain laws (no memory): joined out of 13 texts of this session's.
-/
import Derived.Test.YtilgbnbeonlbnaaD
import Derived.Test.YtilgbnbeonlbnaaK
import Derived.Deep.Matrix
import Derived.SizedLaws
/-
  Finite orders of noughts and ones, plainly: what an order is, meetings, joins, lattices, least answers, atoms. No program, no memory.
-/
namespace Go.Proofs.Cl
set_option linter.unusedVariables false

/-! ### small words on lists and bounded tests -/
def allG (p : Nat → Bool) : Nat → Nat → Bool
  | 0, _ => true
  | d + 1, i => p i && allG p d (i + 1)
/-- p holds from i on, below n -/
def allF (n : Nat) (p : Nat → Bool) (i : Nat) : Bool := allG p (n - i) i
theorem allF_end {n : Nat} {p : Nat → Bool} {i : Nat} (h : n ≤ i) : allF n p i = true := by
  unfold allF
  rw [show n - i = 0 by omega]
  rfl
theorem allF_step {n : Nat} {p : Nat → Bool} {i : Nat} (h : i < n) : allF n p i = (p i && allF n p (i + 1)) := by
  unfold allF
  rw [show n - i = (n - (i + 1)) + 1 by omega]
  rfl
theorem allG_iff (p : Nat → Bool) : ∀ d i, allG p d i = true ↔ ∀ c, i ≤ c → c < i + d → p c = true
  | 0, i => by simp only [allG, true_iff]; intro c h1 h2; omega
  | d + 1, i => by
    simp only [allG, Bool.and_eq_true, allG_iff p d (i + 1)]
    constructor
    · intro ⟨h1, h2⟩ c h3 h4
      by_cases e : c = i
      · rw [e]; exact h1
      · exact h2 c (by omega) (by omega)
    · intro h
      exact ⟨h i (by omega) (by omega), fun c h3 h4 => h c (by omega) (by omega)⟩
theorem allF_iff {n : Nat} {p : Nat → Bool} {i : Nat} : allF n p i = true ↔ ∀ c, i ≤ c → c < n → p c = true := by
  unfold allF
  rw [allG_iff]
  constructor
  · intro h c h1 h2
    exact h c h1 (by omega)
  · intro h c h1 h2
    exact h c h1 (by omega)
theorem allF0 {n : Nat} {p : Nat → Bool} : allF n p 0 = true ↔ ∀ c, c < n → p c = true := by
  rw [allF_iff]
  exact ⟨fun h c => h c (Nat.zero_le _), fun h c _ => h c⟩
theorem allF_congr {n : Nat} {p q : Nat → Bool} {i : Nat} (h : ∀ c, i ≤ c → c < n → p c = q c) : allF n p i = allF n q i := by
  rw [Bool.eq_iff_iff, allF_iff, allF_iff]
  exact ⟨fun k c h1 h2 => (h c h1 h2) ▸ k c h1 h2, fun k c h1 h2 => (h c h1 h2).symm ▸ k c h1 h2⟩
/-- the first one from i on, below n, of which p holds, as an Int; -1 if there is none -/
def firstG (p : Nat → Bool) : Nat → Nat → Int
  | 0, _ => -1
  | d + 1, i => if p i = true then (i : Int) else firstG p d (i + 1)
def firstF (n : Nat) (p : Nat → Bool) (i : Nat) : Int := firstG p (n - i) i
theorem firstF_end {n : Nat} {p : Nat → Bool} {i : Nat} (h : n ≤ i) : firstF n p i = -1 := by
  unfold firstF
  rw [show n - i = 0 by omega]
  rfl
theorem firstF_step {n : Nat} {p : Nat → Bool} {i : Nat} (h : i < n) : firstF n p i = if p i = true then (i : Int) else firstF n p (i + 1) := by
  unfold firstF
  rw [show n - i = (n - (i + 1)) + 1 by omega]
  rfl
theorem down (n : Nat) (P : Nat → Prop) (hend : P n) (hstep : ∀ i, i < n → P (i + 1) → P i) (i : Nat) (hi : i ≤ n) : P i := by
  obtain ⟨d, hd⟩ : ∃ d, n - i = d := ⟨_, rfl⟩
  induction d generalizing i with
  | zero => obtain rfl : i = n := by omega
            exact hend
  | succ d ih => exact hstep i (by omega) (ih (i + 1) (by omega) (by omega))
theorem firstF_spec {n : Nat} {p : Nat → Bool} : ∀ i, i ≤ n → (firstF n p i = -1 ∧ ∀ c, i ≤ c → c < n → p c = false) ∨ (∃ c : Nat, firstF n p i = c ∧ i ≤ c ∧ c < n ∧ p c = true ∧ ∀ c', i ≤ c' → c' < c → p c' = false) := by
  intro i hi
  refine down n (fun i => (firstF n p i = -1 ∧ ∀ c, i ≤ c → c < n → p c = false) ∨ (∃ c : Nat, firstF n p i = c ∧ i ≤ c ∧ c < n ∧ p c = true ∧ ∀ c', i ≤ c' → c' < c → p c' = false)) ?_ ?_ i hi
  · exact .inl ⟨firstF_end (Nat.le_refl _), fun c h1 h2 => by omega⟩
  · intro i hi ih
    rw [firstF_step hi]
    cases hp : p i with
    | true => exact .inr ⟨i, by simp, Nat.le_refl _, hi, hp, fun c' h1 h2 => by omega⟩
    | false =>
      simp only [Bool.false_eq_true, if_false]
      rcases ih with ⟨h1, h2⟩ | ⟨c, h1, h2, h3, h4, h5⟩
      · refine .inl ⟨h1, fun c h3 h4 => ?_⟩
        by_cases e : c = i
        · rw [e]; exact hp
        · exact h2 c (by omega) h4
      · refine .inr ⟨c, h1, by omega, h3, h4, fun c' h6 h7 => ?_⟩
        by_cases e : c' = i
        · rw [e]; exact hp
        · exact h5 c' (by omega) h7

/-! ### orders -/
def rdN (u : List (List Int)) (a b : Nat) : Int := (u.getD a []).getD b 0
def Ord (u : List (List Int)) : Prop :=
  1 ≤ u.length ∧ u.length ≤ 12 ∧ (∀ a, a < u.length → (u.getD a []).length = u.length) ∧
  (∀ a, a < u.length → ∀ b, b < u.length → rdN u a b = 0 ∨ rdN u a b = 1) ∧
  (∀ a, a < u.length → rdN u a a = 1) ∧
  (∀ a, a < u.length → ∀ b, b < u.length → rdN u a b = 1 → rdN u b a = 1 → a = b) ∧
  (∀ a, a < u.length → ∀ b, b < u.length → ∀ c, c < u.length → rdN u a b = 1 → rdN u b c = 1 → rdN u a c = 1)
instance (u : List (List Int)) : Decidable (Ord u) := by
  have d1 : Decidable (∀ a, a < u.length → (u.getD a []).length = u.length) := inferInstance
  have d2 : Decidable (∀ a, a < u.length → ∀ b, b < u.length → rdN u a b = 0 ∨ rdN u a b = 1) := inferInstance
  have d3 : Decidable (∀ a, a < u.length → rdN u a a = 1) := inferInstance
  have d4 : Decidable (∀ a, a < u.length → ∀ b, b < u.length → rdN u a b = 1 → rdN u b a = 1 → a = b) := inferInstance
  have d5 : Decidable (∀ a, a < u.length → ∀ b, b < u.length → ∀ c, c < u.length → rdN u a b = 1 → rdN u b c = 1 → rdN u a c = 1) := inferInstance
  unfold Ord
  exact instDecidableAnd

namespace Ord
variable {u : List (List Int)} (h : Ord u)
theorem pos (h : Ord u) : 1 ≤ u.length := h.1
theorem le12 (h : Ord u) : u.length ≤ 12 := h.2.1
theorem row (h : Ord u) {a : Nat} (ha : a < u.length) : (u.getD a []).length = u.length := h.2.2.1 a ha
theorem bit (h : Ord u) {a b : Nat} (ha : a < u.length) (hb : b < u.length) : rdN u a b = 0 ∨ rdN u a b = 1 := h.2.2.2.1 a ha b hb
theorem refl (h : Ord u) {a : Nat} (ha : a < u.length) : rdN u a a = 1 := h.2.2.2.2.1 a ha
theorem anti (h : Ord u) {a b : Nat} (ha : a < u.length) (hb : b < u.length) (k : rdN u a b = 1) (l : rdN u b a = 1) : a = b := h.2.2.2.2.2.1 a ha b hb k l
theorem trans (h : Ord u) {a b c : Nat} (ha : a < u.length) (hb : b < u.length) (hc : c < u.length) (k : rdN u a b = 1) (l : rdN u b c = 1) : rdN u a c = 1 := h.2.2.2.2.2.2 a ha b hb c hc k l
theorem ne0 (h : Ord u) {a b : Nat} (ha : a < u.length) (hb : b < u.length) : rdN u a b ≠ 0 ↔ rdN u a b = 1 := by
  rcases h.bit ha hb with k | k <;> omega
theorem ne1 (h : Ord u) {a b : Nat} (ha : a < u.length) (hb : b < u.length) : rdN u a b ≠ 1 ↔ rdN u a b = 0 := by
  rcases h.bit ha hb with k | k <;> omega
end Ord

/-! ### meetings and joins -/
/-- c is a greatest one below a and b -/
def IsMeet (u : List (List Int)) (a b c : Nat) : Prop :=
  c < u.length ∧ rdN u c a = 1 ∧ rdN u c b = 1 ∧ ∀ d, d < u.length → rdN u d a = 1 → rdN u d b = 1 → rdN u d c = 1
def IsJoin (u : List (List Int)) (a b c : Nat) : Prop :=
  c < u.length ∧ rdN u a c = 1 ∧ rdN u b c = 1 ∧ ∀ d, d < u.length → rdN u a d = 1 → rdN u b d = 1 → rdN u c d = 1
instance (u : List (List Int)) (a b c : Nat) : Decidable (IsMeet u a b c) := by unfold IsMeet; infer_instance
instance (u : List (List Int)) (a b c : Nat) : Decidable (IsJoin u a b c) := by unfold IsJoin; infer_instance
/-- the meeting's number, -1 if there is none -/
def meetI (u : List (List Int)) (a b : Nat) : Int := firstF u.length (fun c => decide (IsMeet u a b c)) 0
def joinI (u : List (List Int)) (a b : Nat) : Int := firstF u.length (fun c => decide (IsJoin u a b c)) 0
theorem IsMeet.uniq {u : List (List Int)} (h : Ord u) {a b c d : Nat} (hc : IsMeet u a b c) (hd : IsMeet u a b d) : c = d :=
  h.anti hc.1 hd.1 (hd.2.2.2 c hc.1 hc.2.1 hc.2.2.1) (hc.2.2.2 d hd.1 hd.2.1 hd.2.2.1)
theorem IsJoin.uniq {u : List (List Int)} (h : Ord u) {a b c d : Nat} (hc : IsJoin u a b c) (hd : IsJoin u a b d) : c = d :=
  h.anti hc.1 hd.1 (hc.2.2.2 d hd.1 hd.2.1 hd.2.2.1) (hd.2.2.2 c hc.1 hc.2.1 hc.2.2.1)
theorem meetI_of {u : List (List Int)} (h : Ord u) {a b c : Nat} (hc : IsMeet u a b c) : meetI u a b = c := by
  rcases firstF_spec (n := u.length) (p := fun c => decide (IsMeet u a b c)) 0 (Nat.zero_le _) with ⟨_, k⟩ | ⟨d, e, _, hd, k, _⟩
  · have := k c (Nat.zero_le _) hc.1
    simp [hc] at this
  · unfold meetI
    rw [e, (of_decide_eq_true k).uniq h hc]
theorem joinI_of {u : List (List Int)} (h : Ord u) {a b c : Nat} (hc : IsJoin u a b c) : joinI u a b = c := by
  rcases firstF_spec (n := u.length) (p := fun c => decide (IsJoin u a b c)) 0 (Nat.zero_le _) with ⟨_, k⟩ | ⟨d, e, _, hd, k, _⟩
  · have := k c (Nat.zero_le _) hc.1
    simp [hc] at this
  · unfold joinI
    rw [e, (of_decide_eq_true k).uniq h hc]
theorem meetI_cases (u : List (List Int)) (a b : Nat) : (meetI u a b = -1 ∧ ∀ c, ¬ IsMeet u a b c) ∨ ∃ c : Nat, meetI u a b = c ∧ IsMeet u a b c := by
  rcases firstF_spec (n := u.length) (p := fun c => decide (IsMeet u a b c)) 0 (Nat.zero_le _) with ⟨e, k⟩ | ⟨d, e, _, hd, k, _⟩
  · exact .inl ⟨e, fun c hc => by have := k c (Nat.zero_le _) hc.1; simp [hc] at this⟩
  · exact .inr ⟨d, e, of_decide_eq_true k⟩
theorem joinI_cases (u : List (List Int)) (a b : Nat) : (joinI u a b = -1 ∧ ∀ c, ¬ IsJoin u a b c) ∨ ∃ c : Nat, joinI u a b = c ∧ IsJoin u a b c := by
  rcases firstF_spec (n := u.length) (p := fun c => decide (IsJoin u a b c)) 0 (Nat.zero_le _) with ⟨e, k⟩ | ⟨d, e, _, hd, k, _⟩
  · exact .inl ⟨e, fun c hc => by have := k c (Nat.zero_le _) hc.1; simp [hc] at this⟩
  · exact .inr ⟨d, e, of_decide_eq_true k⟩
theorem IsMeet.comm {u : List (List Int)} {a b c : Nat} (h : IsMeet u a b c) : IsMeet u b a c := ⟨h.1, h.2.2.1, h.2.1, fun d hd k l => h.2.2.2 d hd l k⟩
theorem IsJoin.comm {u : List (List Int)} {a b c : Nat} (h : IsJoin u a b c) : IsJoin u b a c := ⟨h.1, h.2.2.1, h.2.1, fun d hd k l => h.2.2.2 d hd l k⟩
theorem meetI_comm {u : List (List Int)} (h : Ord u) (a b : Nat) : meetI u a b = meetI u b a := by
  rcases meetI_cases u b a with ⟨e, k⟩ | ⟨c, e, k⟩
  · rcases meetI_cases u a b with ⟨e', _⟩ | ⟨c, e', k'⟩
    · rw [e, e']
    · exact absurd k'.comm (k c)
  · rw [e, meetI_of h k.comm]
theorem joinI_comm {u : List (List Int)} (h : Ord u) (a b : Nat) : joinI u a b = joinI u b a := by
  rcases joinI_cases u b a with ⟨e, k⟩ | ⟨c, e, k⟩
  · rcases joinI_cases u a b with ⟨e', _⟩ | ⟨c, e', k'⟩
    · rw [e, e']
    · exact absurd k'.comm (k c)
  · rw [e, joinI_of h k.comm]
theorem isMeet_self {u : List (List Int)} (h : Ord u) {a b : Nat} (ha : a < u.length) (hb : b < u.length) (k : rdN u a b = 1) : IsMeet u a b a := ⟨ha, h.refl ha, k, fun _ _ l _ => l⟩
theorem isJoin_self {u : List (List Int)} (h : Ord u) {a b : Nat} (ha : a < u.length) (hb : b < u.length) (k : rdN u a b = 1) : IsJoin u a b b := ⟨hb, k, h.refl hb, fun _ _ _ l => l⟩

/-! ### the order turned round -/
def turn (u : List (List Int)) : List (List Int) := (List.range u.length).map fun a => (List.range u.length).map fun b => rdN u b a
theorem turn_len (u : List (List Int)) : (turn u).length = u.length := by simp [turn]
theorem getD_map_range {α : Type} (f : Nat → α) (z : α) {n a : Nat} (h : a < n) : ((List.range n).map f).getD a z = f a := by
  simp [List.getD_eq_getElem?_getD, h]
theorem turn_row (u : List (List Int)) {a : Nat} (ha : a < u.length) : (turn u).getD a [] = (List.range u.length).map fun b => rdN u b a := by
  unfold turn
  rw [getD_map_range _ _ ha]
theorem turn_at (u : List (List Int)) {a b : Nat} (ha : a < u.length) (hb : b < u.length) : rdN (turn u) a b = rdN u b a := by
  unfold rdN
  rw [turn_row u ha, getD_map_range _ _ hb]
  rfl
theorem turn_ord {u : List (List Int)} (h : Ord u) : Ord (turn u) := by
  refine ⟨by rw [turn_len]; exact h.1, by rw [turn_len]; exact h.2.1, ?_, ?_, ?_, ?_, ?_⟩
  · intro a ha
    rw [turn_len] at *
    rw [turn_row u ha]
    simp
  · intro a ha b hb
    rw [turn_len] at *
    rw [turn_at u ha hb]
    exact h.bit hb ha
  · intro a ha
    rw [turn_len] at *
    rw [turn_at u ha ha]
    exact h.refl ha
  · intro a ha b hb
    rw [turn_len] at *
    rw [turn_at u ha hb, turn_at u hb ha]
    exact fun k l => h.anti ha hb l k
  · intro a ha b hb c hc
    rw [turn_len] at *
    rw [turn_at u ha hb, turn_at u hb hc, turn_at u ha hc]
    exact fun k l => h.trans hc hb ha l k
theorem list_eq {u v : List (List Int)} (hl : u.length = v.length) (hr : ∀ a, a < u.length → (u.getD a []).length = (v.getD a []).length) (he : ∀ a, a < u.length → ∀ b, b < (u.getD a []).length → rdN u a b = rdN v a b) : u = v := by
  refine List.ext_getElem hl fun a h1 h2 => ?_
  have r1 := hr a h1
  have e1 := he a h1
  unfold rdN at e1
  rw [List.getD_eq_getElem?_getD, List.getD_eq_getElem?_getD, List.getElem?_eq_getElem h1, List.getElem?_eq_getElem h2] at r1 e1
  simp only [Option.getD_some] at r1 e1
  refine List.ext_getElem r1 fun b h3 h4 => ?_
  have := e1 b h3
  rw [List.getD_eq_getElem?_getD, List.getD_eq_getElem?_getD, List.getElem?_eq_getElem h3, List.getElem?_eq_getElem h4] at this
  simpa using this
theorem turn_turn {u : List (List Int)} (h : Ord u) : turn (turn u) = u := by
  refine list_eq (by rw [turn_len, turn_len]) ?_ ?_
  · intro a ha
    rw [turn_len, turn_len] at ha
    rw [turn_row (turn u) (by rw [turn_len]; exact ha), h.row ha]
    simp [turn_len]
  · intro a ha b hb
    rw [turn_len, turn_len] at ha
    rw [turn_row (turn u) (by rw [turn_len]; exact ha)] at hb
    simp [turn_len] at hb
    rw [turn_at (turn u) (by rw [turn_len]; exact ha) (by rw [turn_len]; exact hb), turn_at u hb ha]
theorem isMeet_turn {u : List (List Int)} {a b c : Nat} (ha : a < u.length) (hb : b < u.length) : IsMeet (turn u) a b c ↔ IsJoin u a b c := by
  unfold IsMeet IsJoin
  rw [turn_len]
  constructor
  · intro ⟨h1, h2, h3, h4⟩
    rw [turn_at u h1 ha] at h2
    rw [turn_at u h1 hb] at h3
    refine ⟨h1, h2, h3, fun d hd k l => ?_⟩
    have := h4 d hd (by rw [turn_at u hd ha]; exact k) (by rw [turn_at u hd hb]; exact l)
    rwa [turn_at u hd h1] at this
  · intro ⟨h1, h2, h3, h4⟩
    refine ⟨h1, by rw [turn_at u h1 ha]; exact h2, by rw [turn_at u h1 hb]; exact h3, fun d hd k l => ?_⟩
    rw [turn_at u hd ha] at k
    rw [turn_at u hd hb] at l
    rw [turn_at u hd h1]
    exact h4 d hd k l
theorem firstF_congr {n : Nat} {p q : Nat → Bool} (h : ∀ c, c < n → p c = q c) (i : Nat) (hi : i ≤ n) : firstF n p i = firstF n q i := by
  refine down n (fun i => firstF n p i = firstF n q i) ?_ ?_ i hi
  · rw [firstF_end (Nat.le_refl _), firstF_end (Nat.le_refl _)]
  · intro i hi ih
    rw [firstF_step hi, firstF_step hi, h i hi, ih]
theorem meetI_turn {u : List (List Int)} {a b : Nat} (ha : a < u.length) (hb : b < u.length) : meetI (turn u) a b = joinI u a b := by
  unfold meetI joinI
  rw [turn_len]
  exact firstF_congr (fun c _ => by rw [decide_eq_decide]; exact isMeet_turn ha hb) 0 (Nat.zero_le _)

/-! ### lattices, least answers, atoms -/
def Lat (u : List (List Int)) : Prop := Ord u ∧ ∀ a, a < u.length → ∀ b, b < u.length → 0 ≤ meetI u a b ∧ 0 ≤ joinI u a b
instance (u : List (List Int)) : Decidable (Lat u) := by unfold Lat; infer_instance
def IsLeast (u : List (List Int)) (a : Nat) : Prop := ∀ b, b < u.length → rdN u a b = 1
instance (u : List (List Int)) (a : Nat) : Decidable (IsLeast u a) := by unfold IsLeast; infer_instance
/-- the least answer's number of an order, -1 if there is none -/
def leastI (u : List (List Int)) : Int := firstF u.length (fun a => decide (IsLeast u a)) 0
theorem leastI_cases (u : List (List Int)) : (leastI u = -1 ∧ ∀ a, a < u.length → ¬ IsLeast u a) ∨ ∃ a : Nat, leastI u = a ∧ a < u.length ∧ IsLeast u a := by
  rcases firstF_spec (n := u.length) (p := fun a => decide (IsLeast u a)) 0 (Nat.zero_le _) with ⟨e, k⟩ | ⟨d, e, _, hd, k, _⟩
  · exact .inl ⟨e, fun c hc hl => by have := k c (Nat.zero_le _) hc; simp [hl] at this⟩
  · exact .inr ⟨d, e, hd, of_decide_eq_true k⟩
theorem leastI_of {u : List (List Int)} (h : Ord u) {a : Nat} (ha : a < u.length) (hl : IsLeast u a) : leastI u = a := by
  rcases leastI_cases u with ⟨_, k⟩ | ⟨d, e, hd, k⟩
  · exact absurd hl (k a ha)
  · rw [e, h.anti hd ha (k a ha) (hl d hd)]
namespace Lat
variable {u : List (List Int)}
theorem ord (h : Lat u) : Ord u := h.1
theorem meet (h : Lat u) {a b : Nat} (ha : a < u.length) (hb : b < u.length) : ∃ c : Nat, meetI u a b = c ∧ IsMeet u a b c := by
  rcases meetI_cases u a b with ⟨e, _⟩ | k
  · have := (h.2 a ha b hb).1
    omega
  · exact k
theorem join (h : Lat u) {a b : Nat} (ha : a < u.length) (hb : b < u.length) : ∃ c : Nat, joinI u a b = c ∧ IsJoin u a b c := by
  rcases joinI_cases u a b with ⟨e, _⟩ | k
  · have := (h.2 a ha b hb).2
    omega
  · exact k
/-- a lower bound of all below m -/
theorem low (h : Lat u) : ∀ m, m ≤ u.length → ∃ a, a < u.length ∧ ∀ b, b < m → rdN u a b = 1
  | 0, _ => ⟨0, h.1.pos, fun b hb => by omega⟩
  | m + 1, hm => by
    obtain ⟨a, ha, k⟩ := low h m (by omega)
    obtain ⟨c, _, hc⟩ := h.meet ha (show m < u.length by omega)
    refine ⟨c, hc.1, fun b hb => ?_⟩
    by_cases e : b = m
    · rw [e]; exact hc.2.2.1
    · exact h.1.trans hc.1 ha (by omega) hc.2.1 (k b (by omega))
theorem least (h : Lat u) : ∃ a : Nat, leastI u = a ∧ a < u.length ∧ IsLeast u a := by
  obtain ⟨a, ha, k⟩ := h.low u.length (Nat.le_refl _)
  exact ⟨a, leastI_of h.1 ha k, ha, k⟩
end Lat
theorem lat_of {u : List (List Int)} (h : Ord u) (hm : ∀ a, a < u.length → ∀ b, b < u.length → ∃ c, IsMeet u a b c) (hj : ∀ a, a < u.length → ∀ b, b < u.length → ∃ c, IsJoin u a b c) : Lat u := by
  refine ⟨h, fun a ha b hb => ⟨?_, ?_⟩⟩
  · obtain ⟨c, hc⟩ := hm a ha b hb
    rw [meetI_of h hc]
    omega
  · obtain ⟨c, hc⟩ := hj a ha b hb
    rw [joinI_of h hc]
    omega
theorem lat_turn {u : List (List Int)} (h : Ord u) : Lat (turn u) ↔ Lat u := by
  have key : ∀ v : List (List Int), Ord v → Lat v → Lat (turn v) := by
    intro v hv hl
    refine lat_of (turn_ord hv) ?_ ?_
    · intro a ha b hb
      rw [turn_len] at ha hb
      obtain ⟨c, _, hc⟩ := hl.join ha hb
      exact ⟨c, (isMeet_turn ha hb).2 hc⟩
    · intro a ha b hb
      rw [turn_len] at ha hb
      obtain ⟨c, _, hc⟩ := hl.meet ha hb
      refine ⟨c, ?_⟩
      rw [← isMeet_turn (u := turn v) (by rw [turn_len]; exact ha) (by rw [turn_len]; exact hb), turn_turn hv]
      exact hc
  constructor
  · intro k
    have := key (turn u) (turn_ord h) k
    rwa [turn_turn h] at this
  · exact key u h

/-- how many are below a, itself too -/
def belowN (u : List (List Int)) (a : Nat) : Nat → Int
  | 0 => 0
  | m + 1 => belowN u a m + rdN u m a
def atomB (u : List (List Int)) (least : Int) (a : Nat) : Bool := decide (belowN u a u.length = 2 ∧ (a : Int) ≠ least)
def atomsL (u : List (List Int)) : List Int := if Ord u ∧ 0 ≤ leastI u then ((List.range u.length).filter (atomB u (leastI u))).map (fun (a : Nat) => (a : Int)) else []
theorem belowN_bound {u : List (List Int)} (h : Ord u) {a : Nat} (ha : a < u.length) : ∀ m, m ≤ u.length → 0 ≤ belowN u a m ∧ belowN u a m ≤ m
  | 0, _ => by simp [belowN]
  | m + 1, hm => by
    have := belowN_bound h ha m (by omega)
    have := h.bit (show m < u.length by omega) ha
    simp only [belowN]
    omega
/-! ### what MeetOf, JoinOf, LeastOf, TurnedOf answer -/
def meetOfP (u : List (List Int)) (a b : Int) : Int × Bool :=
  if Ord u ∧ (0 ≤ a ∧ a < u.length) ∧ (0 ≤ b ∧ b < u.length) then (meetI u a.toNat b.toNat, decide (0 ≤ meetI u a.toNat b.toNat)) else (-1, false)
def joinOfP (u : List (List Int)) (a b : Int) : Int × Bool :=
  if Ord u ∧ (0 ≤ a ∧ a < u.length) ∧ (0 ≤ b ∧ b < u.length) then (joinI u a.toNat b.toNat, decide (0 ≤ joinI u a.toNat b.toNat)) else (-1, false)
def leastOfP (u : List (List Int)) : Int × Bool := if Ord u then (leastI u, decide (0 ≤ leastI u)) else (-1, false)
def turnOf (u : List (List Int)) : List (List Int) := if Ord u then turn u else []
theorem meetOfP_nat {u : List (List Int)} (h : Ord u) {a b : Nat} (ha : a < u.length) (hb : b < u.length) : meetOfP u a b = (meetI u a b, decide (0 ≤ meetI u a b)) := by
  unfold meetOfP
  rw [if_pos ⟨h, ⟨by omega, by omega⟩, ⟨by omega, by omega⟩⟩]
  rfl
theorem joinOfP_nat {u : List (List Int)} (h : Ord u) {a b : Nat} (ha : a < u.length) (hb : b < u.length) : joinOfP u a b = (joinI u a b, decide (0 ≤ joinI u a b)) := by
  unfold joinOfP
  rw [if_pos ⟨h, ⟨by omega, by omega⟩, ⟨by omega, by omega⟩⟩]
  rfl
theorem meetOfP_no {u : List (List Int)} {a b : Int} (h : ¬ (Ord u ∧ (0 ≤ a ∧ a < u.length) ∧ (0 ≤ b ∧ b < u.length))) : meetOfP u a b = (-1, false) := by
  unfold meetOfP
  rw [if_neg h]
theorem joinOfP_no {u : List (List Int)} {a b : Int} (h : ¬ (Ord u ∧ (0 ≤ a ∧ a < u.length) ∧ (0 ≤ b ∧ b < u.length))) : joinOfP u a b = (-1, false) := by
  unfold joinOfP
  rw [if_neg h]
theorem leastOfP_no {u : List (List Int)} (h : ¬ (Ord u ∧ 0 ≤ leastI u)) : leastOfP u = (-1, false) := by
  unfold leastOfP
  by_cases k : Ord u
  · rw [if_pos k]
    have : ¬ 0 ≤ leastI u := fun l => h ⟨k, l⟩
    rcases leastI_cases u with ⟨e, _⟩ | ⟨a, e, _⟩
    · rw [e]; rfl
    · omega
  · rw [if_neg k]
theorem not_ord_nil : ¬ Ord [] := fun h => by have := h.1; simp at this
theorem meetOf_turn (u : List (List Int)) (a b : Int) : meetOfP (turnOf u) a b = joinOfP u a b := by
  unfold turnOf
  by_cases h : Ord u
  · rw [if_pos h]
    by_cases k : (0 ≤ a ∧ a < u.length) ∧ (0 ≤ b ∧ b < u.length)
    · unfold meetOfP joinOfP
      rw [if_pos ⟨turn_ord h, by rw [turn_len]; exact k⟩, if_pos ⟨h, k⟩, meetI_turn (by omega) (by omega)]
    · rw [meetOfP_no (by rw [turn_len]; exact fun l => k l.2), joinOfP_no (fun l => k l.2)]
  · rw [if_neg h, meetOfP_no (fun l => not_ord_nil l.1), joinOfP_no (fun l => h l.1)]
/-! ### the sets of so many things -/
def setsBit (a b : Nat) : Int := if a &&& b = a then 1 else 0
def setsL (t : Nat) : List (List Int) := (List.range (2 ^ t)).map fun a => (List.range (2 ^ t)).map fun b => setsBit a b
end Go.Proofs.Cl

/-
  Atoms of a finite order, plainly: below an atom are just itself and the least answer; each other answer is above an atom.
-/
namespace Go.Proofs.Cl
set_option linter.unusedVariables false

def sumN (f : Nat → Int) : Nat → Int
  | 0 => 0
  | m + 1 => sumN f m + f m
theorem belowN_sum (u : List (List Int)) (a : Nat) : ∀ m, belowN u a m = sumN (fun d => rdN u d a) m
  | 0 => rfl
  | m + 1 => by simp only [belowN, sumN, belowN_sum u a m]
theorem sum_three {f : Nat → Int} {x y z : Nat} (hxy : x ≠ y) (hxz : x ≠ z) (hyz : y ≠ z) : ∀ m, (∀ i, i < m → 0 ≤ f i) → (x < m → f x = 1) → (y < m → f y = 1) → (z < m → f z = 1) →
    (if x < m then 1 else 0) + (if y < m then 1 else 0) + (if z < m then 1 else 0) ≤ sumN f m
  | 0, _, _, _, _ => by simp [sumN]
  | m + 1, h, hx, hy, hz => by
    have ih := sum_three hxy hxz hyz m (fun i hi => h i (by omega)) (fun k => hx (by omega)) (fun k => hy (by omega)) (fun k => hz (by omega))
    have h0 := h m (by omega)
    simp only [sumN]
    by_cases e1 : x = m
    · have := hx (by omega)
      rw [e1] at this
      rw [if_pos (by omega)]
      rw [if_neg (show ¬ x < m by omega)] at ih
      have a1 : (y < m + 1) = (y < m) := by rw [eq_iff_iff]; omega
      have a2 : (z < m + 1) = (z < m) := by rw [eq_iff_iff]; omega
      simp only [a1, a2]
      omega
    · have a0 : (x < m + 1) = (x < m) := by rw [eq_iff_iff]; omega
      by_cases e2 : y = m
      · have := hy (by omega)
        rw [e2] at this
        rw [if_neg (show ¬ y < m by omega)] at ih
        have a2 : (z < m + 1) = (z < m) := by rw [eq_iff_iff]; omega
        simp only [a0, a2]
        rw [if_pos (show y < m + 1 by omega)]
        omega
      · have a1 : (y < m + 1) = (y < m) := by rw [eq_iff_iff]; omega
        by_cases e3 : z = m
        · have := hz (by omega)
          rw [e3] at this
          rw [if_neg (show ¬ z < m by omega)] at ih
          simp only [a0, a1]
          rw [if_pos (show z < m + 1 by omega)]
          omega
        · have a2 : (z < m + 1) = (z < m) := by rw [eq_iff_iff]; omega
          simp only [a0, a1, a2]
          omega
theorem sum_two {f : Nat → Int} {x y : Nat} (hxy : x ≠ y) : ∀ m, (x < m → f x = 1) → (y < m → f y = 1) → (∀ i, i < m → i ≠ x → i ≠ y → f i = 0) →
    sumN f m = (if x < m then 1 else 0) + (if y < m then 1 else 0)
  | 0, _, _, _ => by simp [sumN]
  | m + 1, hx, hy, h => by
    have ih := sum_two hxy m (fun k => hx (by omega)) (fun k => hy (by omega)) (fun i hi => h i (by omega))
    simp only [sumN]
    by_cases e1 : x = m
    · have := hx (by omega)
      rw [e1] at this
      rw [if_neg (show ¬ x < m by omega)] at ih
      have a1 : (y < m + 1) = (y < m) := by rw [eq_iff_iff]; omega
      simp only [a1]
      rw [if_pos (show x < m + 1 by omega)]
      omega
    · have a0 : (x < m + 1) = (x < m) := by rw [eq_iff_iff]; omega
      by_cases e2 : y = m
      · have := hy (by omega)
        rw [e2] at this
        rw [if_neg (show ¬ y < m by omega)] at ih
        simp only [a0]
        rw [if_pos (show y < m + 1 by omega)]
        omega
      · have a1 : (y < m + 1) = (y < m) := by rw [eq_iff_iff]; omega
        have := h m (by omega) (fun k => e1 k.symm) (fun k => e2 k.symm)
        simp only [a0, a1]
        omega
theorem sum_le {f g : Nat → Int} : ∀ m, (∀ i, i < m → f i ≤ g i) → sumN f m ≤ sumN g m
  | 0, _ => by simp [sumN]
  | m + 1, h => by
    have := sum_le m (fun i hi => h i (by omega))
    have := h m (by omega)
    simp only [sumN]
    omega
theorem sum_lt {f g : Nat → Int} {x : Nat} : ∀ m, (∀ i, i < m → f i ≤ g i) → x < m → f x < g x → sumN f m < sumN g m
  | 0, _, hx, _ => by omega
  | m + 1, h, hx, k => by
    have h1 := h m (by omega)
    simp only [sumN]
    by_cases e : x = m
    · have := sum_le m (fun i hi => h i (by omega))
      rw [e] at k
      omega
    · have := sum_lt m (fun i hi => h i (by omega)) (by omega) k
      omega
section
variable {u : List (List Int)} (h : Ord u) {l : Nat} (hl : l < u.length) (least : IsLeast u l)
/-- below an atom are just itself and the least answer -/
theorem atom_below (h : Ord u) {l : Nat} (hl : l < u.length) (least : IsLeast u l) {a d : Nat} (ha : a < u.length) (hd : d < u.length) (hat : atomB u (l : Int) a = true) (k : rdN u d a = 1) : d = l ∨ d = a := by
  have hat := of_decide_eq_true hat
  rw [belowN_sum] at hat
  by_cases e1 : d = l
  · exact .inl e1
  · by_cases e2 : d = a
    · exact .inr e2
    · have := sum_three (f := fun d => rdN u d a) e1 e2 (show l ≠ a by have := hat.2; omega) u.length (fun i hi => by rcases h.bit hi ha with z | z <;> simp only [z] <;> omega) (fun _ => k) (fun _ => least a ha) (fun _ => h.refl ha)
      rw [if_pos hd, if_pos hl, if_pos ha, hat.1] at this
      omega
theorem atom_of (h : Ord u) {l : Nat} (hl : l < u.length) (least : IsLeast u l) {a : Nat} (ha : a < u.length) (hal : a ≠ l) (k : ∀ d, d < u.length → rdN u d a = 1 → d = l ∨ d = a) : atomB u (l : Int) a = true := by
  refine decide_eq_true ⟨?_, by omega⟩
  rw [belowN_sum, sum_two (f := fun d => rdN u d a) (x := l) (y := a) (fun e => hal e.symm) u.length (fun _ => least a ha) (fun _ => h.refl ha) (fun i hi n1 n2 => ?_), if_pos hl, if_pos ha]
  · rfl
  · rcases h.bit hi ha with z | z
    · exact z
    · rcases k i hi z with e | e
      · exact absurd e n1
      · exact absurd e n2
theorem atom_exists (h : Ord u) {l : Nat} (hl : l < u.length) (least : IsLeast u l) : ∀ (c : Nat) (k : Nat), k < u.length → k ≠ l → belowN u k u.length ≤ c → ∃ a, a < u.length ∧ atomB u (l : Int) a = true ∧ rdN u a k = 1
  | 0, k, hk, hkl, hc => by
    have := sum_lt (f := fun _ => 0) (g := fun d => rdN u d k) (x := k) u.length (fun i hi => by rcases h.bit hi hk with z | z <;> simp only [z] <;> omega) hk (by rw [h.refl hk]; omega)
    rw [← belowN_sum] at this
    have z : ∀ m, sumN (fun _ => 0) m = 0 := by
      intro m
      induction m with
      | zero => rfl
      | succ m ih => simp only [sumN, ih]; rfl
    rw [z] at this
    omega
  | c + 1, k, hk, hkl, hc => by
    by_cases e : ∀ d, d < u.length → rdN u d k = 1 → d = l ∨ d = k
    · exact ⟨k, hk, atom_of h hl least hk hkl e, h.refl hk⟩
    · have ⟨d, e⟩ := Classical.not_forall.1 e
      have ⟨hd, e⟩ := Classical.not_imp.1 e
      have ⟨dk, e⟩ := Classical.not_imp.1 e
      have hdl : d ≠ l := fun z => e (.inl z)
      have hdk : d ≠ k := fun z => e (.inr z)
      have lt : belowN u d u.length < belowN u k u.length := by
        rw [belowN_sum, belowN_sum]
        refine sum_lt (x := k) u.length (fun i hi => ?_) hk ?_
        · rcases h.bit hi hd with z | z
          · simp only [z]
            rcases h.bit hi hk with y | y <;> simp only [y] <;> omega
          · simp only [z, h.trans hi hd hk z dk]
            omega
        · simp only [h.refl hk]
          rcases h.bit hk hd with z | z
          · simp only [z]; omega
          · exact absurd (h.anti hd hk dk z) hdk
      obtain ⟨a, ha, hat, had⟩ := atom_exists h hl least c d hd hdl (by omega)
      exact ⟨a, ha, hat, h.trans ha hd hk had dk⟩
/-- two atoms meet in the least answer -/
theorem atoms_meet (h : Ord u) {l : Nat} (hl : l < u.length) (least : IsLeast u l) {a b : Nat} (ha : a < u.length) (hb : b < u.length) (hab : a ≠ b) (at1 : atomB u (l : Int) a = true) (at2 : atomB u (l : Int) b = true) : IsMeet u a b l := by
  refine ⟨hl, least a ha, least b hb, fun d hd k1 k2 => ?_⟩
  rcases atom_below h hl least ha hd at1 k1 with e | e
  · rw [e]; exact h.refl hl
  · rcases atom_below h hl least hb hd at2 k2 with e' | e'
    · rw [e']; exact h.refl hl
    · exact absurd (e.symm.trans e') hab
end
/-! ### the list of atoms -/
theorem atomsL_eq {u : List (List Int)} (h : Ord u) {l : Nat} (e : leastI u = l) : atomsL u = ((List.range u.length).filter (atomB u (l : Int))).map (fun (a : Nat) => (a : Int)) := by
  rw [atomsL, if_pos ⟨h, by omega⟩, e]
theorem atomsL_mem {u : List (List Int)} (h : Ord u) {l : Nat} (e : leastI u = l) (i : Nat) (hi : i < (atomsL u).length) : ∃ a : Nat, (atomsL u).getD i 0 = a ∧ a < u.length ∧ atomB u (l : Int) a = true := by
  rw [atomsL_eq h e] at *
  rw [List.length_map] at hi
  rw [List.getD_eq_getElem?_getD, List.getElem?_eq_getElem (by rw [List.length_map]; exact hi), Option.getD_some, List.getElem_map]
  have hm := List.getElem_mem hi
  rw [List.mem_filter, List.mem_range] at hm
  exact ⟨_, rfl, hm.1, hm.2⟩
theorem atomsL_has {u : List (List Int)} (h : Ord u) {l : Nat} (e : leastI u = l) {a : Nat} (ha : a < u.length) (hat : atomB u (l : Int) a = true) : ∃ i, i < (atomsL u).length ∧ (atomsL u).getD i 0 = a := by
  have hm : (a : Int) ∈ atomsL u := by
    rw [atomsL_eq h e, List.mem_map]
    exact ⟨a, List.mem_filter.2 ⟨List.mem_range.2 ha, hat⟩, rfl⟩
  obtain ⟨i, hi, k⟩ := List.getElem_of_mem hm
  exact ⟨i, hi, by rw [List.getD_eq_getElem?_getD, List.getElem?_eq_getElem hi, Option.getD_some, k]⟩
theorem pairwise_range_filter (p : Nat → Bool) (n : Nat) : ((List.range n).filter p).Pairwise (· < ·) := List.Pairwise.filter p List.pairwise_lt_range
theorem atomsL_asc {u : List (List Int)} (h : Ord u) {l : Nat} (e : leastI u = l) (i j : Nat) (hij : i < j) (hj : j < (atomsL u).length) : (atomsL u).getD i 0 < (atomsL u).getD j 0 := by
  rw [atomsL_eq h e] at *
  have hj' := hj
  rw [List.length_map] at hj
  rw [List.getD_eq_getElem?_getD, List.getD_eq_getElem?_getD, List.getElem?_eq_getElem (show i < _ by omega), List.getElem?_eq_getElem hj', Option.getD_some, Option.getD_some, List.getElem_map, List.getElem_map]
  have := List.pairwise_iff_getElem.1 (pairwise_range_filter (atomB u (l : Int)) u.length) i j (by omega) hj hij
  omega
end Go.Proofs.Cl

/-
  Small laws on what the print writes: rounds that are enough ('Ev'), counters that do not wrap, reads.
-/
namespace Go.Proofs.Ytilgbnbeonlbnaa.Q
open Go.RowKit Go.Proofs.YtilgbnbeonlbnaaW.PrintWords Go.Proofs.YtilgbnbeonlbnaaW.PrintLast Go.Proofs.YtilgbnbeonlbnaaW.PrintMore Go.Proofs.Ytilgbnbeonlbnaa.P Go.Proofs.Cl
set_option linter.unusedVariables false

theorem Ev.pos {α : Type} {c : Prop} [Decidable c] {f g : Nat → Option α} {r : α} (h : c) (H : Ev f r) : Ev (fun k => if c then f k else g k) r := by
  simp only [if_pos h]
  exact H
theorem Ev.neg {α : Type} {c : Prop} [Decidable c] {f g : Nat → Option α} {r : α} (h : ¬ c) (H : Ev g r) : Ev (fun k => if c then f k else g k) r := by
  simp only [if_neg h]
  exact H
theorem Ev.tt {α : Type} {b : Bool} {f g : Nat → Option α} {r : α} (h : b = true) (H : Ev f r) : Ev (fun k => if b = true then f k else g k) r := Ev.pos h H
theorem Ev.ff {α : Type} {b : Bool} {f g : Nat → Option α} {r : α} (h : b = false) (H : Ev g r) : Ev (fun k => if b = true then f k else g k) r := Ev.neg (by rw [h]; exact Bool.false_ne_true) H
theorem Ev.ret {α : Type} {a r : α} (h : a = r) : Ev (fun _ => some a) r := h ▸ Ev.now a
theorem Ev.bindc {α β : Type} {o : Option α} {f : Nat → α → Option β} {a : α} {r : β} (h : o = some a) (k : Ev (fun n => f n a) r) : Ev (fun n => o.bind (f n)) r := by
  subst h
  exact k
theorem Ev.to {α : Type} {f : Nat → Option α} {a r : α} (H : Ev f a) (h : a = r) : Ev f r := h ▸ H
theorem wrap_of (x : Int) (h0 : -9223372036854775808 ≤ x) (h1 : x ≤ 9223372036854775807) : wrap64 x = x := by
  unfold wrap64
  omega
theorem wrap_succ (i : Nat) (h : i < 4611686018427387904) : wrap64 ((i : Int) + 1) = ((i + 1 : Nat) : Int) := by
  rw [wrap_of _ (by omega) (by omega)]
  omega
theorem rd_nat (xs : List Int) (i : Nat) : rd xs (i : Int) = xs.getD i 0 := rfl
theorem row_nat (u : List (List Int)) (i : Nat) : rd_L1 u (i : Int) = u.getD i [] := rfl
theorem at_nat (u : List (List Int)) (i j : Nat) : rd (rd_L1 u (i : Int)) (j : Int) = rdN u i j := rfl
/-- copying position by position: what has been copied, then what is still to be -/
theorem set_step {α : Type} (xs : List α) (z : α) (i : Nat) (h : i < xs.length) : (xs.take i ++ List.replicate (xs.length - i) z).set i xs[i] = xs.take (i + 1) ++ List.replicate (xs.length - (i + 1)) z := by
  rw [show xs.length - i = (xs.length - (i + 1)) + 1 by omega, List.replicate_succ, List.set_append, if_neg (by rw [List.length_take]; omega)]
  rw [List.length_take, show i - min i xs.length = 0 by omega, List.set_cons_zero, List.take_succ_eq_append_getElem h, List.append_assoc]
  rfl
end Go.Proofs.Ytilgbnbeonlbnaa.Q

/-
  The two readings of OrderOk (the reference's and the program's) come to one and the same: 'Ord'.
-/
namespace Go.Proofs.Ytilgbnbeonlbnaa.Q
open Go.RowKit Go.Proofs.YtilgbnbeonlbnaaW.PrintWords Go.Proofs.YtilgbnbeonlbnaaW.PrintLast Go.Proofs.YtilgbnbeonlbnaaW.PrintMore Go.Proofs.Ytilgbnbeonlbnaa.P Go.Proofs.Cl
set_option linter.unusedVariables false

theorem l1In_eq (a b c : Int) : spec_l1In.f a b c = some (decide (b ≤ a ∧ a ≤ c)) := by
  unfold spec_l1In.f
  by_cases h : a ≥ b
  · rw [if_pos h]
    congr 1
    rw [decide_eq_decide]
    exact ⟨fun k => ⟨h, k⟩, fun k => k.2⟩
  · rw [if_neg h]
    congr 1
    symm
    rw [decide_eq_false_iff_not]
    exact fun k => h k.1

/-! ### the reference's -/
section
variable (u : List (List Int))
def p4 (a b c : Nat) : Bool := !(decide (rdN u a b = 1) && decide (rdN u b c = 1) && decide (rdN u a c = 0))
def p3 (a b : Nat) : Bool := !(if a = b then decide (rdN u a b = 0) else (decide (rdN u a b = 1) && decide (rdN u b a = 1))) && allF u.length (p4 u a b) 0
def p1 (a b : Nat) : Bool := decide (0 ≤ rdN u a b ∧ rdN u a b ≤ 1)
def p0 (a : Nat) : Bool := decide ((u.getD a []).length = u.length) && allF u.length (p1 u a) 0
variable {u}
variable (hn : u.length ≤ 12)
theorem so_l4 (hn : u.length ≤ 12) (HR : ∀ a, a < u.length → (rd_L1 u (a : Int)).length = u.length) {a b : Nat} (ha : a < u.length) (hb : b < u.length) {r : Bool}
    (H : Ev (fun k => spec_OrderOk.l3 k u u.length a ((b + 1 : Nat) : Int)) r) (c : Nat) (hc : c ≤ u.length) :
    Ev (fun k => spec_OrderOk.l4 k u u.length a b c) (allF u.length (p4 u a b) c && r) := by
  refine down u.length (fun c => Ev (fun k => spec_OrderOk.l4 k u u.length a b c) (allF u.length (p4 u a b) c && r)) ?_ ?_ c hc
  · refine Ev.step (fun k => spec_OrderOk.l4.eq_2 ..) ?_
    refine Ev.neg (by omega) ?_
    rw [allF_end (Nat.le_refl _), Bool.true_and, wrap_succ b (by omega)]
    exact H
  · intro c hc ih
    have h1 := HR a ha
    have h2 := HR b hb
    refine Ev.step (fun k => spec_OrderOk.l4.eq_2 ..) ?_
    repeat (refine Ev.pos (by omega) ?_)
    rw [allF_step hc, wrap_succ c (by omega)]
    by_cases k1 : rdN u a b = 1
    · refine Ev.pos k1 ?_
      repeat (refine Ev.pos (by omega) ?_)
      by_cases k2 : rdN u b c = 1
      · refine Ev.pos k2 ?_
        repeat (refine Ev.pos (by omega) ?_)
        by_cases k3 : rdN u a c = 0
        · refine Ev.pos k3 ?_
          exact Ev.ret (by simp [p4, k1, k2, k3])
        · refine Ev.neg k3 ?_
          exact Ev.to ih (by simp [p4, k3])
      · refine Ev.neg k2 ?_
        exact Ev.to ih (by simp [p4, k2])
    · refine Ev.neg k1 ?_
      exact Ev.to ih (by simp [p4, k1])
theorem so_l3 (hn : u.length ≤ 12) (HR : ∀ a, a < u.length → (rd_L1 u (a : Int)).length = u.length) {a : Nat} (ha : a < u.length) {r : Bool}
    (H : Ev (fun k => spec_OrderOk.l2 k u u.length ((a + 1 : Nat) : Int)) r) (b : Nat) (hb : b ≤ u.length) :
    Ev (fun k => spec_OrderOk.l3 k u u.length a b) (allF u.length (p3 u a) b && r) := by
  refine down u.length (fun b => Ev (fun k => spec_OrderOk.l3 k u u.length a b) (allF u.length (p3 u a) b && r)) ?_ ?_ b hb
  · refine Ev.step (fun k => spec_OrderOk.l3.eq_2 ..) ?_
    refine Ev.neg (by omega) ?_
    rw [allF_end (Nat.le_refl _), Bool.true_and, wrap_succ a (by omega)]
    exact H
  · intro b hb ih
    have h1 := HR a ha
    have h2 := HR b hb
    have key : ∀ x : Bool, Ev (fun k => spec_OrderOk.j4 k u u.length a b x) (!x && allF u.length (p4 u a b) 0 && allF u.length (p3 u a) (b + 1) && r) := by
      intro x
      refine Ev.step (fun k => spec_OrderOk.j4.eq_2 ..) ?_
      cases x with
      | true => exact Ev.pos rfl (Ev.ret (by simp))
      | false =>
        refine Ev.neg Bool.false_ne_true ?_
        exact Ev.to (so_l4 hn HR ha hb ih 0 (Nat.zero_le _)) (by simp [Bool.and_assoc])
    refine Ev.step (fun k => spec_OrderOk.l3.eq_2 ..) ?_
    refine Ev.pos (by omega) ?_
    rw [allF_step hb]
    by_cases e : a = b
    · refine Ev.pos (by omega) ?_
      repeat (refine Ev.pos (by omega) ?_)
      by_cases k1 : rdN u a b = 0
      · exact Ev.pos k1 (Ev.to (key true) (by rw [p3, if_pos e, decide_eq_true k1]))
      · exact Ev.neg k1 (Ev.to (key false) (by rw [p3, if_pos e, decide_eq_false k1]))
    · refine Ev.neg (by omega) ?_
      repeat (refine Ev.pos (by omega) ?_)
      by_cases k1 : rdN u a b = 1
      · refine Ev.pos k1 ?_
        repeat (refine Ev.pos (by omega) ?_)
        refine Ev.to (key _) ?_
        rw [p3, if_neg e, decide_eq_true k1, Bool.true_and]
        rfl
      · refine Ev.neg k1 (Ev.to (key false) ?_)
        rw [p3, if_neg e, decide_eq_false k1, Bool.false_and]
theorem so_l2 (hn : u.length ≤ 12) (HR : ∀ a, a < u.length → (rd_L1 u (a : Int)).length = u.length) (a : Nat) (ha : a ≤ u.length) :
    Ev (fun k => spec_OrderOk.l2 k u u.length a) (allF u.length (fun a => allF u.length (p3 u a) 0) a) := by
  refine down u.length (fun a => Ev (fun k => spec_OrderOk.l2 k u u.length a) (allF u.length (fun a => allF u.length (p3 u a) 0) a)) ?_ ?_ a ha
  · refine Ev.step (fun k => spec_OrderOk.l2.eq_2 ..) ?_
    refine Ev.neg (by omega) ?_
    exact Ev.ret (allF_end (Nat.le_refl _)).symm
  · intro a ha ih
    refine Ev.step (fun k => spec_OrderOk.l2.eq_2 ..) ?_
    refine Ev.pos (by omega) ?_
    rw [allF_step ha]
    exact so_l3 hn HR ha ih 0 (Nat.zero_le _)
theorem so_l1 (hn : u.length ≤ 12) {a : Nat} (ha : a < u.length) (HR : (rd_L1 u (a : Int)).length = u.length) {r : Bool}
    (H : Ev (fun k => spec_OrderOk.l0 k u u.length ((a + 1 : Nat) : Int)) r) (b : Nat) (hb : b ≤ u.length) :
    Ev (fun k => spec_OrderOk.l1 k u u.length a b) (allF u.length (p1 u a) b && r) := by
  refine down u.length (fun b => Ev (fun k => spec_OrderOk.l1 k u u.length a b) (allF u.length (p1 u a) b && r)) ?_ ?_ b hb
  · refine Ev.step (fun k => spec_OrderOk.l1.eq_2 ..) ?_
    refine Ev.neg (by omega) ?_
    rw [allF_end (Nat.le_refl _), Bool.true_and, wrap_succ a (by omega)]
    exact H
  · intro b hb ih
    refine Ev.step (fun k => spec_OrderOk.l1.eq_2 ..) ?_
    repeat (refine Ev.pos (by omega) ?_)
    refine Ev.bindc (l1In_eq _ _ _) ?_
    rw [allF_step hb, wrap_succ b (by omega)]
    cases hp : p1 u a b with
    | true => exact Ev.tt hp (Ev.to ih (by simp))
    | false => exact Ev.ff hp (Ev.ret (by simp))
theorem so_l0 (hn : u.length ≤ 12) (a : Nat) (ha : a ≤ u.length) : (∀ c, c < a → (rd_L1 u (c : Int)).length = u.length) →
    Ev (fun k => spec_OrderOk.l0 k u u.length a) (allF u.length (p0 u) a && allF u.length (fun a => allF u.length (p3 u a) 0) 0) := by
  refine down u.length (fun a => (∀ c, c < a → (rd_L1 u (c : Int)).length = u.length) →
    Ev (fun k => spec_OrderOk.l0 k u u.length a) (allF u.length (p0 u) a && allF u.length (fun a => allF u.length (p3 u a) 0) 0)) ?_ ?_ a ha
  · intro HR
    refine Ev.step (fun k => spec_OrderOk.l0.eq_2 ..) ?_
    refine Ev.neg (by omega) ?_
    rw [allF_end (Nat.le_refl _), Bool.true_and]
    exact so_l2 hn HR 0 (Nat.zero_le _)
  · intro a ha ih HR
    refine Ev.step (fun k => spec_OrderOk.l0.eq_2 ..) ?_
    repeat (refine Ev.pos (by omega) ?_)
    rw [allF_step ha]
    by_cases e : (rd_L1 u (a : Int)).length = u.length
    · refine Ev.pos (by omega) ?_
      have k := so_l1 hn ha e (ih (fun c hc => by
        by_cases e2 : c = a
        · rw [e2]; exact e
        · exact HR c (by omega))) 0 (Nat.zero_le _)
      refine Ev.to k ?_
      rw [p0, decide_eq_true (show (u.getD a []).length = u.length from e), Bool.true_and, Bool.and_assoc]
    · refine Ev.neg (by omega) ?_
      refine Ev.ret ?_
      rw [p0, decide_eq_false (show ¬ (u.getD a []).length = u.length from e)]
      simp
end
theorem ord_of_loops (u : List (List Int)) (h1 : 1 ≤ u.length) (h2 : u.length ≤ 12) :
    (allF u.length (p0 u) 0 && allF u.length (fun a => allF u.length (p3 u a) 0) 0) = decide (Ord u) := by
  rw [Bool.eq_iff_iff, Bool.and_eq_true, allF0, allF0, decide_eq_true_iff]
  constructor
  · intro ⟨k0, k3⟩
    have rows : ∀ a, a < u.length → (u.getD a []).length = u.length := fun a ha => by
      have := k0 a ha
      rw [p0, Bool.and_eq_true] at this
      exact of_decide_eq_true this.1
    have bits : ∀ a, a < u.length → ∀ b, b < u.length → rdN u a b = 0 ∨ rdN u a b = 1 := fun a ha b hb => by
      have := k0 a ha
      rw [p0, Bool.and_eq_true, allF0] at this
      have := of_decide_eq_true (this.2 b hb)
      omega
    have ps : ∀ a, a < u.length → ∀ b, b < u.length → p3 u a b = true := fun a ha b hb => allF0.1 (k3 a ha) b hb
    refine ⟨h1, h2, rows, bits, ?_, ?_, ?_⟩
    · intro a ha
      have := ps a ha a ha
      rw [p3, if_pos rfl, Bool.and_eq_true, Bool.not_eq_true', decide_eq_false_iff_not] at this
      rcases bits a ha a ha with k | k
      · exact absurd k this.1
      · exact k
    · intro a ha b hb k l
      have := ps a ha b hb
      by_cases e : a = b
      · exact e
      · rw [p3, if_neg e, k, l] at this
        simp at this
    · intro a ha b hb c hc k l
      have := ps a ha b hb
      rw [p3, Bool.and_eq_true, allF0] at this
      have := this.2 c hc
      rcases bits a ha c hc with m | m
      · rw [p4, k, l, m] at this
        simp at this
      · exact m
  · intro h
    refine ⟨fun a ha => ?_, fun a ha => allF0.2 fun b hb => ?_⟩
    · rw [p0, Bool.and_eq_true, allF0]
      refine ⟨decide_eq_true (h.row ha), fun b hb => decide_eq_true ?_⟩
      have := h.bit ha hb
      omega
    · rw [p3, Bool.and_eq_true, allF0]
      constructor
      · by_cases e : a = b
        · subst e
          rw [if_pos rfl, h.refl ha]
          rfl
        · rw [if_neg e, Bool.not_eq_true', Bool.and_eq_false_iff, decide_eq_false_iff_not, decide_eq_false_iff_not]
          by_cases k : rdN u a b = 1
          · exact .inr fun l => e (h.anti ha hb k l)
          · exact .inl k
      · intro c hc
        rw [p4, Bool.not_eq_true']
        by_cases k : rdN u a b = 1
        · by_cases l : rdN u b c = 1
          · rw [h.trans ha hb hc k l]
            simp
          · simp [l]
        · simp [k]
theorem spec_ord (u : List (List Int)) : Ev (fun k => spec_OrderOk.f k u) (decide (Ord u)) := by
  unfold spec_OrderOk.f
  refine Ev.bindc (l1In_eq _ _ _) ?_
  by_cases h : 1 ≤ u.length ∧ u.length ≤ 12
  · refine Ev.tt (decide_eq_true (by omega)) ?_
    exact Ev.to (so_l0 h.2 0 (Nat.zero_le _) (fun c hc => by omega)) (ord_of_loops u h.1 h.2)
  · refine Ev.ff (decide_eq_false (by omega)) ?_
    exact Ev.ret (decide_eq_false (fun k => h ⟨k.1, k.2.1⟩)).symm
end Go.Proofs.Ytilgbnbeonlbnaa.Q

/-
  The program's OrderOk, isAnswer.
-/
namespace Go.Proofs.Ytilgbnbeonlbnaa.Q
open Go.RowKit Go.Proofs.YtilgbnbeonlbnaaW.PrintWords Go.Proofs.YtilgbnbeonlbnaaW.PrintLast Go.Proofs.YtilgbnbeonlbnaaW.PrintMore Go.Proofs.Ytilgbnbeonlbnaa.P Go.Proofs.Cl
set_option linter.unusedVariables false

section
variable (u : List (List Int))
def q4 (a b c : Nat) : Bool := !(decide (rdN u a b = 1) && decide (rdN u b c = 1) && !decide (rdN u a c = 1))
def q1 (a b : Nat) : Bool := (decide (rdN u a b = 0) || decide (rdN u a b = 1)) && decide ((u.getD b []).length = u.length) && !(decide (rdN u a b = 1) && !decide (a = b) && decide (rdN u b a = 1))
def q0 (a : Nat) : Bool := decide ((u.getD a []).length = u.length) && decide (rdN u a a = 1) && allF u.length (q1 u a) 0
variable {u}
theorem io_l4 (hn : u.length ≤ 12) (HR : ∀ a, a < u.length → (rd_L1 u (a : Int)).length = u.length) {a b : Nat} (ha : a < u.length) (hb : b < u.length) {r : Bool}
    (H : Ev (fun k => impl_OrderOk.l3 k u u.length a u.length a u.length ((b + 1 : Nat) : Int)) r) (c : Nat) (hc : c ≤ u.length) :
    Ev (fun k => impl_OrderOk.l4 k u u.length a b u.length a u.length b u.length c) (allF u.length (q4 u a b) c && r) := by
  refine down u.length (fun c => Ev (fun k => impl_OrderOk.l4 k u u.length a b u.length a u.length b u.length c) (allF u.length (q4 u a b) c && r)) ?_ ?_ c hc
  · refine Ev.step (fun k => impl_OrderOk.l4.eq_2 ..) ?_
    refine Ev.neg (by omega) ?_
    rw [allF_end (Nat.le_refl _), Bool.true_and, wrap_succ b (by omega)]
    exact H
  · intro c hc ih
    have h1 := HR a ha
    have h2 := HR b hb
    refine Ev.step (fun k => impl_OrderOk.l4.eq_2 ..) ?_
    repeat (refine Ev.pos (by omega) ?_)
    rw [allF_step hc, wrap_succ c (by omega)]
    by_cases k1 : rdN u a b = 1
    · refine Ev.pos k1 ?_
      repeat (refine Ev.pos (by omega) ?_)
      by_cases k2 : rdN u b c = 1
      · refine Ev.pos k2 ?_
        repeat (refine Ev.pos (by omega) ?_)
        by_cases k3 : rdN u a c = 1
        · refine Ev.pos k3 ?_
          exact Ev.to ih (by simp [q4, k3])
        · refine Ev.neg k3 ?_
          exact Ev.ret (by simp [q4, k1, k2, k3])
      · refine Ev.neg k2 ?_
        exact Ev.to ih (by simp [q4, k2])
    · refine Ev.neg k1 ?_
      exact Ev.to ih (by simp [q4, k1])
theorem io_l3 (hn : u.length ≤ 12) (HR : ∀ a, a < u.length → (rd_L1 u (a : Int)).length = u.length) {a : Nat} (ha : a < u.length) {r : Bool}
    (H : Ev (fun k => impl_OrderOk.l2 k u u.length u.length ((a + 1 : Nat) : Int)) r) (b : Nat) (hb : b ≤ u.length) :
    Ev (fun k => impl_OrderOk.l3 k u u.length a u.length a u.length b) (allF u.length (fun b => allF u.length (q4 u a b) 0) b && r) := by
  refine down u.length (fun b => Ev (fun k => impl_OrderOk.l3 k u u.length a u.length a u.length b) (allF u.length (fun b => allF u.length (q4 u a b) 0) b && r)) ?_ ?_ b hb
  · refine Ev.step (fun k => impl_OrderOk.l3.eq_2 ..) ?_
    refine Ev.neg (by omega) ?_
    rw [allF_end (Nat.le_refl _), Bool.true_and, wrap_succ a (by omega)]
    exact H
  · intro b hb ih
    refine Ev.step (fun k => impl_OrderOk.l3.eq_2 ..) ?_
    refine Ev.pos (by omega) ?_
    rw [allF_step hb, Bool.and_assoc]
    exact io_l4 hn HR ha hb ih 0 (Nat.zero_le _)
theorem io_l2 (hn : u.length ≤ 12) (HR : ∀ a, a < u.length → (rd_L1 u (a : Int)).length = u.length) (a : Nat) (ha : a ≤ u.length) :
    Ev (fun k => impl_OrderOk.l2 k u u.length u.length a) (allF u.length (fun a => allF u.length (fun b => allF u.length (q4 u a b) 0) 0) a) := by
  refine down u.length (fun a => Ev (fun k => impl_OrderOk.l2 k u u.length u.length a) (allF u.length (fun a => allF u.length (fun b => allF u.length (q4 u a b) 0) 0) a)) ?_ ?_ a ha
  · refine Ev.step (fun k => impl_OrderOk.l2.eq_2 ..) ?_
    refine Ev.neg (by omega) ?_
    exact Ev.ret (allF_end (Nat.le_refl _)).symm
  · intro a ha ih
    refine Ev.step (fun k => impl_OrderOk.l2.eq_2 ..) ?_
    refine Ev.pos (by omega) ?_
    rw [allF_step ha]
    exact io_l3 hn HR ha ih 0 (Nat.zero_le _)
theorem io_l1 (hn : u.length ≤ 12) {a : Nat} (ha : a < u.length) (h1 : (rd_L1 u (a : Int)).length = u.length) {r : Bool}
    (H : Ev (fun k => impl_OrderOk.l0 k u u.length u u.length ((a + 1 : Nat) : Int)) r) (b : Nat) (hb : b ≤ u.length) :
    Ev (fun k => impl_OrderOk.l1 k u u.length a u u.length a (rd_L1 u (a : Int)) u.length b) (allF u.length (q1 u a) b && r) := by
  refine down u.length (fun b => Ev (fun k => impl_OrderOk.l1 k u u.length a u u.length a (rd_L1 u (a : Int)) u.length b) (allF u.length (q1 u a) b && r)) ?_ ?_ b hb
  · refine Ev.step (fun k => impl_OrderOk.l1.eq_2 ..) ?_
    refine Ev.neg (by omega) ?_
    rw [allF_end (Nat.le_refl _), Bool.true_and, wrap_succ a (by omega)]
    exact H
  · intro b hb ih
    have key : ∀ x : Bool, x = !(decide (rdN u a b = 0) || decide (rdN u a b = 1)) → Ev (fun k => impl_OrderOk.j4 k u u.length a b (rd (rd_L1 u (a : Int)) (b : Int)) u u.length a (rd_L1 u (a : Int)) u.length b x) (q1 u a b && allF u.length (q1 u a) (b + 1) && r) := by
      intro x hx
      refine Ev.step (fun k => impl_OrderOk.j4.eq_2 ..) ?_
      have hx' : (decide (rdN u a b = 0) || decide (rdN u a b = 1)) = !x := by rw [hx, Bool.not_not]
      cases x with
      | true => exact Ev.pos rfl (Ev.ret (by simp [q1, hx']))
      | false =>
        refine Ev.neg Bool.false_ne_true ?_
        repeat (refine Ev.pos (by omega) ?_)
        by_cases k1 : (rd_L1 u (b : Int)).length = u.length
        · refine Ev.pos (by omega) ?_
          have k1' : (u.getD b []).length = u.length := k1
          rw [wrap_succ b (by omega)]
          by_cases k2 : rdN u a b = 1
          · refine Ev.pos k2 ?_
            by_cases e : a = b
            · refine Ev.pos (by omega) ?_
              exact Ev.to ih (by rw [q1, hx', decide_eq_true k1', decide_eq_true e]; simp)
            · refine Ev.neg (by omega) ?_
              repeat (refine Ev.pos (by omega) ?_)
              by_cases k3 : rdN u b a = 1
              · exact Ev.pos k3 (Ev.ret (by rw [q1, hx', decide_eq_true k1', decide_eq_true k2, decide_eq_true k3, decide_eq_false e]; simp))
              · exact Ev.neg k3 (Ev.to ih (by rw [q1, hx', decide_eq_true k1', decide_eq_false k3]; simp))
          · exact Ev.neg k2 (Ev.to ih (by rw [q1, hx', decide_eq_true k1', decide_eq_false k2]; simp))
        · refine Ev.neg (by omega) ?_
          have k1' : ¬ (u.getD b []).length = u.length := k1
          exact Ev.ret (by rw [q1, decide_eq_false k1']; simp)
    refine Ev.step (fun k => impl_OrderOk.l1.eq_2 ..) ?_
    rw [h1]
    repeat (refine Ev.pos (by omega) ?_)
    rw [allF_step hb]
    by_cases k1 : rdN u a b = 0
    · exact Ev.pos k1 (key false (by rw [decide_eq_true k1]; rfl))
    · refine Ev.neg k1 (key _ ?_)
      rw [decide_eq_false k1, Bool.false_or]
      rfl
theorem io_l0 (hn : u.length ≤ 12) (a : Nat) (ha : a ≤ u.length) : (∀ c, c < a → (rd_L1 u (c : Int)).length = u.length) →
    Ev (fun k => impl_OrderOk.l0 k u u.length u u.length a) (allF u.length (q0 u) a && allF u.length (fun a => allF u.length (fun b => allF u.length (q4 u a b) 0) 0) 0) := by
  refine down u.length (fun a => (∀ c, c < a → (rd_L1 u (c : Int)).length = u.length) →
    Ev (fun k => impl_OrderOk.l0 k u u.length u u.length a) (allF u.length (q0 u) a && allF u.length (fun a => allF u.length (fun b => allF u.length (q4 u a b) 0) 0) 0)) ?_ ?_ a ha
  · intro HR
    refine Ev.step (fun k => impl_OrderOk.l0.eq_2 ..) ?_
    refine Ev.neg (by omega) ?_
    rw [allF_end (Nat.le_refl _), Bool.true_and]
    exact io_l2 hn HR 0 (Nat.zero_le _)
  · intro a ha ih HR
    refine Ev.step (fun k => impl_OrderOk.l0.eq_2 ..) ?_
    repeat (refine Ev.pos (by omega) ?_)
    rw [allF_step ha]
    by_cases e : (rd_L1 u (a : Int)).length = u.length
    · refine Ev.pos (by omega) ?_
      refine Ev.pos (by omega) ?_
      have e' : (u.getD a []).length = u.length := e
      refine Ev.step (fun k => impl_OrderOk.j2.eq_2 ..) ?_
      by_cases k1 : rdN u a a = 1
      · refine Ev.ff (show (rd (rd_L1 u (a : Int)) (a : Int) != 1) = false from bne_eq_false_iff_eq.2 k1) ?_
        rw [e]
        refine Ev.to (io_l1 hn ha e (ih (fun c hc => by
          by_cases e2 : c = a
          · rw [e2]; exact e
          · exact HR c (by omega))) 0 (Nat.zero_le _)) ?_
        rw [q0, decide_eq_true e', decide_eq_true k1, Bool.true_and, Bool.true_and, Bool.and_assoc]
      · refine Ev.tt (show (rd (rd_L1 u (a : Int)) (a : Int) != 1) = true from bne_iff_ne.2 k1) ?_
        exact Ev.ret (by rw [q0, decide_eq_false k1]; simp)
    · refine Ev.neg (by omega) ?_
      refine Ev.step (fun k => impl_OrderOk.j2.eq_2 ..) ?_
      refine Ev.pos rfl (Ev.ret ?_)
      rw [q0, decide_eq_false (show ¬ (u.getD a []).length = u.length from e)]
      simp
end
theorem ord_of_loops' (u : List (List Int)) (h1 : 1 ≤ u.length) (h2 : u.length ≤ 12) :
    (allF u.length (q0 u) 0 && allF u.length (fun a => allF u.length (fun b => allF u.length (q4 u a b) 0) 0) 0) = decide (Ord u) := by
  rw [Bool.eq_iff_iff, Bool.and_eq_true, allF0, allF0, decide_eq_true_iff]
  constructor
  · intro ⟨k0, k4⟩
    have all0 : ∀ a, a < u.length → (u.getD a []).length = u.length ∧ rdN u a a = 1 ∧ ∀ b, b < u.length → q1 u a b = true := fun a ha => by
      have := k0 a ha
      rw [q0, Bool.and_eq_true, Bool.and_eq_true, decide_eq_true_iff, decide_eq_true_iff, allF0] at this
      exact ⟨this.1.1, this.1.2, this.2⟩
    refine ⟨h1, h2, fun a ha => (all0 a ha).1, ?_, fun a ha => (all0 a ha).2.1, ?_, ?_⟩
    · intro a ha b hb
      have := (all0 a ha).2.2 b hb
      simp only [q1, Bool.and_eq_true, Bool.or_eq_true, decide_eq_true_iff] at this
      exact this.1.1
    · intro a ha b hb k l
      have := (all0 a ha).2.2 b hb
      by_cases e : a = b
      · exact e
      · simp [q1, k, l, e] at this
    · intro a ha b hb c hc k l
      have := allF0.1 (allF0.1 (k4 a ha) b hb) c hc
      simpa [q4, k, l] using this
  · intro h
    refine ⟨fun a ha => ?_, fun a ha => allF0.2 fun b hb => allF0.2 fun c hc => ?_⟩
    · rw [q0, Bool.and_eq_true, Bool.and_eq_true, decide_eq_true_iff, decide_eq_true_iff, allF0]
      refine ⟨⟨h.row ha, h.refl ha⟩, fun b hb => ?_⟩
      rw [q1, Bool.and_eq_true, Bool.and_eq_true, Bool.or_eq_true, decide_eq_true_iff, decide_eq_true_iff, decide_eq_true_iff, Bool.not_eq_true']
      refine ⟨⟨h.bit ha hb, h.row hb⟩, ?_⟩
      by_cases k : rdN u a b = 1
      · by_cases l : rdN u b a = 1
        · simp [h.anti ha hb k l]
        · simp [l]
      · simp [k]
    · rw [q4, Bool.not_eq_true']
      by_cases k : rdN u a b = 1
      · by_cases l : rdN u b c = 1
        · simp [h.trans ha hb hc k l]
        · simp [l]
      · simp [k]
theorem impl_ord (u : List (List Int)) : Ev (fun k => impl_OrderOk.f k u) (decide (Ord u)) := by
  unfold impl_OrderOk.f
  by_cases h1 : 1 ≤ u.length
  · refine Ev.neg (by omega) ?_
    refine Ev.step (fun k => impl_OrderOk.j0.eq_2 ..) ?_
    by_cases h2 : u.length ≤ 12
    · refine Ev.ff (decide_eq_false (by omega)) ?_
      exact Ev.to (io_l0 h2 0 (Nat.zero_le _) (fun c hc => by omega)) (ord_of_loops' u h1 h2)
    · refine Ev.tt (decide_eq_true (by omega)) ?_
      exact Ev.ret (decide_eq_false (fun k => h2 k.2.1)).symm
  · refine Ev.pos (by omega) ?_
    refine Ev.step (fun k => impl_OrderOk.j0.eq_2 ..) ?_
    exact Ev.pos rfl (Ev.ret (decide_eq_false (fun k => h1 k.1)).symm)
theorem isAnswer_eq (u : List (List Int)) (a : Int) : impl_isAnswer.f u a = some (decide (0 ≤ a ∧ a < u.length)) := by
  unfold impl_isAnswer.f
  by_cases h : a ≥ 0
  · rw [if_pos h]
    congr 1
    rw [decide_eq_decide]
    exact ⟨fun k => ⟨h, k⟩, fun k => k.2⟩
  · rw [if_neg h]
    congr 1
    symm
    rw [decide_eq_false_iff_not]
    exact fun k => h k.1
end Go.Proofs.Ytilgbnbeonlbnaa.Q

/-
  Meetings and joins: the program's 'meet', the reference's l1Meet and l1Join, over an order.
-/
namespace Go.Proofs.Ytilgbnbeonlbnaa.Q
open Go.RowKit Go.Proofs.YtilgbnbeonlbnaaW.PrintWords Go.Proofs.YtilgbnbeonlbnaaW.PrintLast Go.Proofs.YtilgbnbeonlbnaaW.PrintMore Go.Proofs.Ytilgbnbeonlbnaa.P Go.Proofs.Cl
set_option linter.unusedVariables false

section
variable (u : List (List Int))
def pm (a b c d : Nat) : Bool := decide (rdN u d a = 0) || decide (rdN u d b = 0) || decide (rdN u d c = 1)
variable {u}
theorem row_len (h : Ord u) {a : Nat} (ha : a < u.length) : (rd_L1 u (a : Int)).length = u.length := h.row ha
theorem isMeet_iff (h : Ord u) {a b c : Nat} (ha : a < u.length) (hb : b < u.length) (hc : c < u.length) :
    IsMeet u a b c ↔ rdN u c a = 1 ∧ rdN u c b = 1 ∧ allF u.length (pm u a b c) 0 = true := by
  unfold IsMeet
  rw [allF0]
  constructor
  · intro ⟨_, k1, k2, k3⟩
    refine ⟨k1, k2, fun d hd => ?_⟩
    simp only [pm, Bool.or_eq_true, decide_eq_true_iff]
    rcases h.bit hd ha with m | m
    · exact .inl (.inl m)
    · rcases h.bit hd hb with l | l
      · exact .inl (.inr l)
      · exact .inr (k3 d hd m l)
  · intro ⟨k1, k2, k3⟩
    refine ⟨hc, k1, k2, fun d hd m l => ?_⟩
    have := k3 d hd
    simp only [pm, Bool.or_eq_true, decide_eq_true_iff] at this
    rcases this with (z | z) | z
    · omega
    · omega
    · exact z

/-! ### the program's -/
theorem im_l1 (h : Ord u) {a b c : Nat} (ha : a < u.length) (hb : b < u.length) (hc : c < u.length) {r : Int}
    (H : Ev (fun k => impl_meet.l0 k u a b u.length ((c + 1 : Nat) : Int)) r) (d : Nat) (hd : d ≤ u.length) :
    ∀ g : Bool, Ev (fun k => impl_meet.l1 k u a b c g u.length c u.length d) (if (g && allF u.length (pm u a b c) d) = true then (c : Int) else r) := by
  have hn := h.le12
  refine down u.length (fun d => ∀ g : Bool, Ev (fun k => impl_meet.l1 k u a b c g u.length c u.length d) (if (g && allF u.length (pm u a b c) d) = true then (c : Int) else r)) ?_ ?_ d hd
  · intro g
    refine Ev.step (fun k => impl_meet.l1.eq_2 ..) ?_
    refine Ev.neg (by omega) ?_
    rw [allF_end (Nat.le_refl _), Bool.and_true]
    cases g with
    | true => exact Ev.pos rfl (Ev.ret (by simp))
    | false =>
      refine Ev.neg Bool.false_ne_true ?_
      rw [wrap_succ c (by omega)]
      exact Ev.to H (by simp)
  · intro d hd ih g
    have h1 := row_len h hd
    refine Ev.step (fun k => impl_meet.l1.eq_2 ..) ?_
    refine Ev.pos (by omega) ?_
    rw [allF_step hd, wrap_succ d (by omega)]
    cases g with
    | false =>
      refine Ev.neg Bool.false_ne_true ?_
      exact Ev.to (ih false) (by simp)
    | true =>
      refine Ev.pos rfl ?_
      repeat (refine Ev.pos (by omega) ?_)
      by_cases k1 : rdN u d a = 0
      · exact Ev.pos k1 (Ev.to (ih true) (by simp [pm, k1]))
      · refine Ev.neg k1 ?_
        repeat (refine Ev.pos (by omega) ?_)
        by_cases k2 : rdN u d b = 0
        · exact Ev.pos k2 (Ev.to (ih true) (by simp [pm, k2]))
        · refine Ev.neg k2 ?_
          repeat (refine Ev.pos (by omega) ?_)
          refine Ev.to (ih _) ?_
          rw [pm, decide_eq_false k1, decide_eq_false k2]
          rfl
theorem im_l0 (h : Ord u) {a b : Nat} (ha : a < u.length) (hb : b < u.length) (c : Nat) (hc : c ≤ u.length) :
    Ev (fun k => impl_meet.l0 k u a b u.length c) (firstF u.length (fun c => decide (IsMeet u a b c)) c) := by
  have hn := h.le12
  refine down u.length (fun c => Ev (fun k => impl_meet.l0 k u a b u.length c) (firstF u.length (fun c => decide (IsMeet u a b c)) c)) ?_ ?_ c hc
  · refine Ev.step (fun k => impl_meet.l0.eq_2 ..) ?_
    refine Ev.neg (by omega) ?_
    exact Ev.ret (firstF_end (Nat.le_refl _)).symm
  · intro c hc ih
    have h1 := row_len h hc
    have key : ∀ x : Bool, x = (decide (rdN u c a = 0) || decide (rdN u c b = 0)) → Ev (fun k => impl_meet.j1 k u a b c u.length c x) (firstF u.length (fun c => decide (IsMeet u a b c)) c) := by
      intro x hx
      refine Ev.step (fun k => impl_meet.j1.eq_2 ..) ?_
      rw [firstF_step hc]
      cases x with
      | true =>
        refine Ev.pos rfl ?_
        rw [wrap_succ c (by omega)]
        refine Ev.to ih ?_
        rw [if_neg]
        rw [decide_eq_true_iff, isMeet_iff h ha hb hc]
        simp only [Bool.true_eq, Bool.or_eq_true, decide_eq_true_iff] at hx
        omega
      | false =>
        refine Ev.neg Bool.false_ne_true ?_
        refine Ev.to (im_l1 h ha hb hc ih 0 (Nat.zero_le _) true) ?_
        simp only [Bool.false_eq, Bool.or_eq_false_iff, decide_eq_false_iff_not] at hx
        have z1 := (h.ne0 hc ha).1 hx.1
        have z2 := (h.ne0 hc hb).1 hx.2
        by_cases e : allF u.length (pm u a b c) 0 = true
        · rw [if_pos (by rw [e]; rfl), if_pos (by rw [decide_eq_true_iff, isMeet_iff h ha hb hc]; exact ⟨z1, z2, e⟩)]
        · rw [if_neg (by rw [Bool.true_and]; exact e), if_neg (by rw [decide_eq_true_iff, isMeet_iff h ha hb hc]; exact fun k => e k.2.2)]
    refine Ev.step (fun k => impl_meet.l0.eq_2 ..) ?_
    repeat (refine Ev.pos (by omega) ?_)
    by_cases k1 : rdN u c a = 0
    · exact Ev.pos k1 (key true (by rw [decide_eq_true k1]; rfl))
    · refine Ev.neg k1 ?_
      repeat (refine Ev.pos (by omega) ?_)
      refine key _ ?_
      rw [decide_eq_false k1, Bool.false_or]
      rfl
theorem impl_meet_ev (h : Ord u) {a b : Nat} (ha : a < u.length) (hb : b < u.length) : Ev (fun k => impl_meet.f k u a b) (meetI u a b) := by
  unfold impl_meet.f
  exact im_l0 h ha hb 0 (Nat.zero_le _)

/-! ### the reference's meeting -/
theorem sm_l1 (h : Ord u) {a b m : Nat} (ha : a < u.length) (hb : b < u.length) (hm : m < u.length) (d : Nat) (hd : d ≤ u.length) :
    Ev (fun k => spec_l1Meet.l1 k u a b m d) (if allF u.length (pm u a b m) d = true then (m : Int) else -1) := by
  have hn := h.le12
  refine down u.length (fun d => Ev (fun k => spec_l1Meet.l1 k u a b m d) (if allF u.length (pm u a b m) d = true then (m : Int) else -1)) ?_ ?_ d hd
  · refine Ev.step (fun k => spec_l1Meet.l1.eq_2 ..) ?_
    refine Ev.neg (by omega) ?_
    rw [allF_end (Nat.le_refl _)]
    exact Ev.ret (by simp)
  · intro d hd ih
    have h1 := row_len h hd
    refine Ev.step (fun k => spec_l1Meet.l1.eq_2 ..) ?_
    repeat (refine Ev.pos (by omega) ?_)
    rw [allF_step hd, wrap_succ d (by omega)]
    by_cases k1 : rdN u d a = 1
    · refine Ev.pos k1 ?_
      repeat (refine Ev.pos (by omega) ?_)
      by_cases k2 : rdN u d b = 1
      · refine Ev.pos k2 ?_
        repeat (refine Ev.pos (by omega) ?_)
        by_cases k3 : rdN u d m = 0
        · exact Ev.pos k3 (Ev.ret (by simp [pm, k1, k2, k3]))
        · exact Ev.neg k3 (Ev.to ih (by simp [pm, (h.ne0 hd hm).1 k3]))
      · exact Ev.neg k2 (Ev.to ih (by simp [pm, (h.ne1 hd hb).1 k2]))
    · exact Ev.neg k1 (Ev.to ih (by simp [pm, (h.ne1 hd ha).1 k1]))
theorem sm_l1' (h : Ord u) {a b : Nat} (ha : a < u.length) (hb : b < u.length) (no : ∀ d, d < u.length → ¬ (rdN u d a = 1 ∧ rdN u d b = 1)) (d : Nat) (hd : d ≤ u.length) :
    Ev (fun k => spec_l1Meet.l1 k u a b (-1) d) (-1) := by
  have hn := h.le12
  refine down u.length (fun d => Ev (fun k => spec_l1Meet.l1 k u a b (-1) d) (-1)) ?_ ?_ d hd
  · refine Ev.step (fun k => spec_l1Meet.l1.eq_2 ..) ?_
    exact Ev.neg (by omega) (Ev.ret rfl)
  · intro d hd ih
    have h1 := row_len h hd
    refine Ev.step (fun k => spec_l1Meet.l1.eq_2 ..) ?_
    repeat (refine Ev.pos (by omega) ?_)
    rw [wrap_succ d (by omega)]
    by_cases k1 : rdN u d a = 1
    · refine Ev.pos k1 ?_
      repeat (refine Ev.pos (by omega) ?_)
      exact Ev.neg (fun k2 => no d hd ⟨k1, k2⟩) ih
    · exact Ev.neg k1 ih
theorem sm_l0 (h : Ord u) {a b : Nat} (ha : a < u.length) (hb : b < u.length) (c : Nat) (hc : c ≤ u.length) :
    ∀ β : Int, ((β = -1 ∧ ∀ d, d < c → ¬ (rdN u d a = 1 ∧ rdN u d b = 1)) ∨ ∃ m : Nat, β = m ∧ m < u.length ∧ rdN u m a = 1 ∧ rdN u m b = 1 ∧ ∀ g, IsMeet u a b g → g < c → m = g) →
    Ev (fun k => spec_l1Meet.l0 k u a b β c) (meetI u a b) := by
  have hn := h.le12
  refine down u.length (fun c => ∀ β : Int, ((β = -1 ∧ ∀ d, d < c → ¬ (rdN u d a = 1 ∧ rdN u d b = 1)) ∨ ∃ m : Nat, β = m ∧ m < u.length ∧ rdN u m a = 1 ∧ rdN u m b = 1 ∧ ∀ g, IsMeet u a b g → g < c → m = g) →
    Ev (fun k => spec_l1Meet.l0 k u a b β c) (meetI u a b)) ?_ ?_ c hc
  · intro β hβ
    refine Ev.step (fun k => spec_l1Meet.l0.eq_2 ..) ?_
    refine Ev.neg (by omega) ?_
    rcases hβ with ⟨rfl, no⟩ | ⟨m, rfl, hm, m1, m2, hg⟩
    · refine Ev.to (sm_l1' h ha hb no 0 (Nat.zero_le _)) ?_
      rcases meetI_cases u a b with ⟨e, _⟩ | ⟨c, _, hc⟩
      · exact e.symm
      · exact absurd ⟨hc.2.1, hc.2.2.1⟩ (no c hc.1)
    · refine Ev.to (sm_l1 h ha hb hm 0 (Nat.zero_le _)) ?_
      by_cases e : allF u.length (pm u a b m) 0 = true
      · rw [if_pos e, meetI_of h ((isMeet_iff h ha hb hm).2 ⟨m1, m2, e⟩)]
      · rw [if_neg e]
        rcases meetI_cases u a b with ⟨e', _⟩ | ⟨c, _, hc⟩
        · exact e'.symm
        · have := hg c hc hc.1
          subst this
          exact absurd ((isMeet_iff h ha hb hm).1 hc).2.2 e
  · intro c hc ih β hβ
    have h1 := row_len h hc
    refine Ev.step (fun k => spec_l1Meet.l0.eq_2 ..) ?_
    repeat (refine Ev.pos (by omega) ?_)
    rw [wrap_succ c (by omega)]
    have stay : ¬ (rdN u c a = 1 ∧ rdN u c b = 1) → Ev (fun k => spec_l1Meet.l0 k u a b β ((c + 1 : Nat) : Int)) (meetI u a b) := by
      intro no
      refine ih β ?_
      rcases hβ with ⟨rfl, k⟩ | ⟨m, rfl, hm, m1, m2, hg⟩
      · refine .inl ⟨rfl, fun d hd => ?_⟩
        by_cases e : d = c
        · rw [e]; exact no
        · exact k d (by omega)
      · refine .inr ⟨m, rfl, hm, m1, m2, fun g gm hgc => ?_⟩
        by_cases e : g = c
        · subst e
          exact absurd ⟨gm.2.1, gm.2.2.1⟩ no
        · exact hg g gm (by omega)
    by_cases k1 : rdN u c a = 1
    · refine Ev.pos k1 ?_
      repeat (refine Ev.pos (by omega) ?_)
      by_cases k2 : rdN u c b = 1
      · refine Ev.pos k2 ?_
        rcases hβ with ⟨rfl, k⟩ | ⟨m, rfl, hm, m1, m2, hg⟩
        · refine Ev.pos (by omega) (ih c (.inr ⟨c, rfl, hc, k1, k2, fun g gm hgc => ?_⟩))
          by_cases e : g = c
          · exact e.symm
          · exact absurd ⟨gm.2.1, gm.2.2.1⟩ (k g (by omega))
        · have h2 := row_len h hm
          refine Ev.neg (by omega) ?_
          repeat (refine Ev.pos (by omega) ?_)
          by_cases k3 : rdN u m c = 1
          · refine Ev.pos k3 (ih c (.inr ⟨c, rfl, hc, k1, k2, fun g gm hgc => ?_⟩))
            by_cases e : g = c
            · exact e.symm
            · have := hg g gm (by omega)
              subst this
              exact (h.anti hm hc k3 (gm.2.2.2 c hc k1 k2)).symm
          · refine Ev.neg k3 (ih m (.inr ⟨m, rfl, hm, m1, m2, fun g gm hgc => ?_⟩))
            by_cases e : g = c
            · subst e
              exact absurd (gm.2.2.2 m hm m1 m2) k3
            · exact hg g gm (by omega)
      · exact Ev.neg k2 (stay (fun k => k2 k.2))
    · exact Ev.neg k1 (stay (fun k => k1 k.1))
theorem spec_meet_ev (h : Ord u) {a b : Nat} (ha : a < u.length) (hb : b < u.length) : Ev (fun k => spec_l1Meet.f k u a b) (meetI u a b) := by
  unfold spec_l1Meet.f
  exact sm_l0 h ha hb 0 (Nat.zero_le _) (-1) (.inl ⟨rfl, fun d hd => by omega⟩)

/-! ### the reference's join -/
variable (u) in
def pj (a b c d : Nat) : Bool := decide (rdN u a d = 0) || decide (rdN u b d = 0) || decide (rdN u c d = 1)
theorem isJoin_iff (h : Ord u) {a b c : Nat} (ha : a < u.length) (hb : b < u.length) (hc : c < u.length) :
    IsJoin u a b c ↔ rdN u a c = 1 ∧ rdN u b c = 1 ∧ allF u.length (pj u a b c) 0 = true := by
  unfold IsJoin
  rw [allF0]
  constructor
  · intro ⟨_, k1, k2, k3⟩
    refine ⟨k1, k2, fun d hd => ?_⟩
    simp only [pj, Bool.or_eq_true, decide_eq_true_iff]
    rcases h.bit ha hd with m | m
    · exact .inl (.inl m)
    · rcases h.bit hb hd with l | l
      · exact .inl (.inr l)
      · exact .inr (k3 d hd m l)
  · intro ⟨k1, k2, k3⟩
    refine ⟨hc, k1, k2, fun d hd m l => ?_⟩
    have := k3 d hd
    simp only [pj, Bool.or_eq_true, decide_eq_true_iff] at this
    rcases this with (z | z) | z
    · omega
    · omega
    · exact z
theorem sj_l1 (h : Ord u) {a b m : Nat} (ha : a < u.length) (hb : b < u.length) (hm : m < u.length) (d : Nat) (hd : d ≤ u.length) :
    Ev (fun k => spec_l1Join.l1 k u a b m d) (if allF u.length (pj u a b m) d = true then (m : Int) else -1) := by
  have hn := h.le12
  have h1 := row_len h ha
  have h2 := row_len h hb
  have h3 := row_len h hm
  refine down u.length (fun d => Ev (fun k => spec_l1Join.l1 k u a b m d) (if allF u.length (pj u a b m) d = true then (m : Int) else -1)) ?_ ?_ d hd
  · refine Ev.step (fun k => spec_l1Join.l1.eq_2 ..) ?_
    refine Ev.neg (by omega) ?_
    rw [allF_end (Nat.le_refl _)]
    exact Ev.ret (by simp)
  · intro d hd ih
    refine Ev.step (fun k => spec_l1Join.l1.eq_2 ..) ?_
    repeat (refine Ev.pos (by omega) ?_)
    rw [allF_step hd, wrap_succ d (by omega)]
    by_cases k1 : rdN u a d = 1
    · refine Ev.pos k1 ?_
      repeat (refine Ev.pos (by omega) ?_)
      by_cases k2 : rdN u b d = 1
      · refine Ev.pos k2 ?_
        repeat (refine Ev.pos (by omega) ?_)
        by_cases k3 : rdN u m d = 0
        · exact Ev.pos k3 (Ev.ret (by simp [pj, k1, k2, k3]))
        · exact Ev.neg k3 (Ev.to ih (by simp [pj, (h.ne0 hm hd).1 k3]))
      · exact Ev.neg k2 (Ev.to ih (by simp [pj, (h.ne1 hb hd).1 k2]))
    · exact Ev.neg k1 (Ev.to ih (by simp [pj, (h.ne1 ha hd).1 k1]))
theorem sj_l1' (h : Ord u) {a b : Nat} (ha : a < u.length) (hb : b < u.length) (no : ∀ d, d < u.length → ¬ (rdN u a d = 1 ∧ rdN u b d = 1)) (d : Nat) (hd : d ≤ u.length) :
    Ev (fun k => spec_l1Join.l1 k u a b (-1) d) (-1) := by
  have hn := h.le12
  have h1 := row_len h ha
  have h2 := row_len h hb
  refine down u.length (fun d => Ev (fun k => spec_l1Join.l1 k u a b (-1) d) (-1)) ?_ ?_ d hd
  · refine Ev.step (fun k => spec_l1Join.l1.eq_2 ..) ?_
    exact Ev.neg (by omega) (Ev.ret rfl)
  · intro d hd ih
    refine Ev.step (fun k => spec_l1Join.l1.eq_2 ..) ?_
    repeat (refine Ev.pos (by omega) ?_)
    rw [wrap_succ d (by omega)]
    by_cases k1 : rdN u a d = 1
    · refine Ev.pos k1 ?_
      repeat (refine Ev.pos (by omega) ?_)
      exact Ev.neg (fun k2 => no d hd ⟨k1, k2⟩) ih
    · exact Ev.neg k1 ih
theorem sj_l0 (h : Ord u) {a b : Nat} (ha : a < u.length) (hb : b < u.length) (c : Nat) (hc : c ≤ u.length) :
    ∀ β : Int, ((β = -1 ∧ ∀ d, d < c → ¬ (rdN u a d = 1 ∧ rdN u b d = 1)) ∨ ∃ m : Nat, β = m ∧ m < u.length ∧ rdN u a m = 1 ∧ rdN u b m = 1 ∧ ∀ g, IsJoin u a b g → g < c → m = g) →
    Ev (fun k => spec_l1Join.l0 k u a b β c) (joinI u a b) := by
  have hn := h.le12
  have h1 := row_len h ha
  have h2 := row_len h hb
  refine down u.length (fun c => ∀ β : Int, ((β = -1 ∧ ∀ d, d < c → ¬ (rdN u a d = 1 ∧ rdN u b d = 1)) ∨ ∃ m : Nat, β = m ∧ m < u.length ∧ rdN u a m = 1 ∧ rdN u b m = 1 ∧ ∀ g, IsJoin u a b g → g < c → m = g) →
    Ev (fun k => spec_l1Join.l0 k u a b β c) (joinI u a b)) ?_ ?_ c hc
  · intro β hβ
    refine Ev.step (fun k => spec_l1Join.l0.eq_2 ..) ?_
    refine Ev.neg (by omega) ?_
    rcases hβ with ⟨rfl, no⟩ | ⟨m, rfl, hm, m1, m2, hg⟩
    · refine Ev.to (sj_l1' h ha hb no 0 (Nat.zero_le _)) ?_
      rcases joinI_cases u a b with ⟨e, _⟩ | ⟨c, _, hc⟩
      · exact e.symm
      · exact absurd ⟨hc.2.1, hc.2.2.1⟩ (no c hc.1)
    · refine Ev.to (sj_l1 h ha hb hm 0 (Nat.zero_le _)) ?_
      by_cases e : allF u.length (pj u a b m) 0 = true
      · rw [if_pos e, joinI_of h ((isJoin_iff h ha hb hm).2 ⟨m1, m2, e⟩)]
      · rw [if_neg e]
        rcases joinI_cases u a b with ⟨e', _⟩ | ⟨c, _, hc⟩
        · exact e'.symm
        · have := hg c hc hc.1
          subst this
          exact absurd ((isJoin_iff h ha hb hm).1 hc).2.2 e
  · intro c hc ih β hβ
    have h3 := row_len h hc
    refine Ev.step (fun k => spec_l1Join.l0.eq_2 ..) ?_
    repeat (refine Ev.pos (by omega) ?_)
    rw [wrap_succ c (by omega)]
    have stay : ¬ (rdN u a c = 1 ∧ rdN u b c = 1) → Ev (fun k => spec_l1Join.l0 k u a b β ((c + 1 : Nat) : Int)) (joinI u a b) := by
      intro no
      refine ih β ?_
      rcases hβ with ⟨rfl, k⟩ | ⟨m, rfl, hm, m1, m2, hg⟩
      · refine .inl ⟨rfl, fun d hd => ?_⟩
        by_cases e : d = c
        · rw [e]; exact no
        · exact k d (by omega)
      · refine .inr ⟨m, rfl, hm, m1, m2, fun g gm hgc => ?_⟩
        by_cases e : g = c
        · subst e
          exact absurd ⟨gm.2.1, gm.2.2.1⟩ no
        · exact hg g gm (by omega)
    by_cases k1 : rdN u a c = 1
    · refine Ev.pos k1 ?_
      repeat (refine Ev.pos (by omega) ?_)
      by_cases k2 : rdN u b c = 1
      · refine Ev.pos k2 ?_
        rcases hβ with ⟨rfl, k⟩ | ⟨m, rfl, hm, m1, m2, hg⟩
        · refine Ev.pos (by omega) (ih c (.inr ⟨c, rfl, hc, k1, k2, fun g gm hgc => ?_⟩))
          by_cases e : g = c
          · exact e.symm
          · exact absurd ⟨gm.2.1, gm.2.2.1⟩ (k g (by omega))
        · refine Ev.neg (by omega) ?_
          repeat (refine Ev.pos (by omega) ?_)
          by_cases k3 : rdN u c m = 1
          · refine Ev.pos k3 (ih c (.inr ⟨c, rfl, hc, k1, k2, fun g gm hgc => ?_⟩))
            by_cases e : g = c
            · exact e.symm
            · have := hg g gm (by omega)
              subst this
              exact h.anti hc hm k3 (gm.2.2.2 c hc k1 k2)
          · refine Ev.neg k3 (ih m (.inr ⟨m, rfl, hm, m1, m2, fun g gm hgc => ?_⟩))
            by_cases e : g = c
            · subst e
              exact absurd (gm.2.2.2 m hm m1 m2) k3
            · exact hg g gm (by omega)
      · exact Ev.neg k2 (stay (fun k => k2 k.2))
    · exact Ev.neg k1 (stay (fun k => k1 k.1))
theorem spec_join_ev (h : Ord u) {a b : Nat} (ha : a < u.length) (hb : b < u.length) : Ev (fun k => spec_l1Join.f k u a b) (joinI u a b) := by
  unfold spec_l1Join.f
  exact sj_l0 h ha hb 0 (Nat.zero_le _) (-1) (.inl ⟨rfl, fun d hd => by omega⟩)
end
end Go.Proofs.Ytilgbnbeonlbnaa.Q

/-
  MeetOf, JoinOf, LeastOf, TurnedOf, LatticeOk of the reference and of the program.
-/
namespace Go.Proofs.Ytilgbnbeonlbnaa.Q
open Go.RowKit Go.Proofs.YtilgbnbeonlbnaaW.PrintWords Go.Proofs.YtilgbnbeonlbnaaW.PrintLast Go.Proofs.YtilgbnbeonlbnaaW.PrintMore Go.Proofs.Ytilgbnbeonlbnaa.P Go.Proofs.Cl
set_option linter.unusedVariables false

/-! ### the order turned round -/
def trow (u : List (List Int)) (a : Nat) : List Int := (List.range u.length).map fun b => rdN u b a
/-- the first a rows are there, then this one, then nothing yet -/
def mid (u : List (List Int)) (a : Nat) (row : List Int) : List (List Int) := (List.range a).map (trow u) ++ row :: List.replicate (u.length - (a + 1)) []
theorem mid_len {u : List (List Int)} {a : Nat} (ha : a < u.length) (row : List Int) : (mid u a row).length = u.length := by
  simp [mid]
  omega
theorem mid_row {u : List (List Int)} {a : Nat} (row : List Int) : rd_L1 (mid u a row) (a : Int) = row := by
  rw [row_nat, List.getD_eq_getElem?_getD, mid, List.getElem?_append_right (by simp)]
  simp
theorem mid_set {u : List (List Int)} {a : Nat} (row row' : List Int) : (mid u a row).set a row' = mid u a row' := by
  unfold mid
  rw [List.set_append, if_neg (by simp)]
  simp
theorem it_l1 {u : List (List Int)} (h : Ord u) {a : Nat} (ha : a < u.length) {r : List (List Int)} (H : Ev (fun k => impl_turned.l0 k u (mid u a (trow u a)) u.length ((a + 1 : Nat) : Int)) r) (b : Nat) (hb : b ≤ u.length) :
    Ev (fun k => impl_turned.l1 k u (mid u a ((trow u a).take b ++ List.replicate (u.length - b) 0)) a u.length a u.length b) r := by
  have hn := h.le12
  have ht : (trow u a).length = u.length := by simp [trow]
  refine down u.length (fun b => Ev (fun k => impl_turned.l1 k u (mid u a ((trow u a).take b ++ List.replicate (u.length - b) 0)) a u.length a u.length b) r) ?_ ?_ b hb
  · refine Ev.step (fun k => impl_turned.l1.eq_2 ..) (Ev.neg (by omega) ?_)
    rw [wrap_succ a (by omega), Nat.sub_self, List.take_of_length_le (by omega)]
    simpa using H
  · intro b hb ih
    have r1 := row_len h hb
    have hr : ((trow u a).take b ++ List.replicate (u.length - b) (0 : Int)).length = u.length := by simp [ht]; omega
    refine Ev.step (fun k => impl_turned.l1.eq_2 ..) ?_
    rw [mid_row, mid_len ha, hr]
    repeat (refine Ev.pos (by omega) ?_)
    rw [wrap_succ b (by omega), show ((b : Int)).toNat = b from rfl, show ((a : Int)).toNat = a from rfl, mid_set]
    have e : rd (rd_L1 u (b : Int)) (a : Int) = (trow u a)[b]'(by omega) := by
      rw [at_nat]
      simp [trow]
    have st := set_step (trow u a) (0 : Int) b (by omega)
    simp only [ht] at st
    rw [e, st]
    exact ih
theorem it_l0 {u : List (List Int)} (h : Ord u) (a : Nat) (ha : a ≤ u.length) :
    Ev (fun k => impl_turned.l0 k u ((List.range a).map (trow u) ++ List.replicate (u.length - a) []) u.length a) (turn u) := by
  have hn := h.le12
  refine down u.length (fun a => Ev (fun k => impl_turned.l0 k u ((List.range a).map (trow u) ++ List.replicate (u.length - a) []) u.length a) (turn u)) ?_ ?_ a ha
  · refine Ev.step (fun k => impl_turned.l0.eq_2 ..) (Ev.neg (by omega) (Ev.ret ?_))
    rw [Nat.sub_self]
    simp [turn, trow]
  · intro a ha ih
    refine Ev.step (fun k => impl_turned.l0.eq_2 ..) ?_
    refine Ev.pos (by omega) (Ev.pos (by omega) (Ev.pos (by omega) (Ev.pos (by omega) (Ev.pos (by simp; omega) ?_))))
    have e : ((List.range a).map (trow u) ++ List.replicate (u.length - a) ([] : List Int)).set ((a : Int)).toNat (List.replicate ((u.length : Int)).toNat 0) = mid u a ((trow u a).take 0 ++ List.replicate (u.length - 0) 0) := by
      rw [show ((a : Int)).toNat = a from rfl, show ((u.length : Int)).toNat = u.length from rfl, show u.length - a = (u.length - (a + 1)) + 1 by omega, List.replicate_succ]
      exact mid_set [] _
    rw [e]
    refine it_l1 h ha ?_ 0 (Nat.zero_le _)
    have e2 : (List.range (a + 1)).map (trow u) ++ List.replicate (u.length - (a + 1)) [] = mid u a (trow u a) := by
      rw [List.range_succ, List.map_append, mid, List.append_assoc]
      rfl
    rw [e2] at ih
    exact ih
theorem turned_ev {u : List (List Int)} (h : Ord u) : Ev (fun k => impl_turned.f k u) (turn u) := by
  have hn := h.le12
  unfold impl_turned.f
  refine Ev.pos (by omega) (Ev.pos (by omega) ?_)
  have := it_l0 h 0 (Nat.zero_le _)
  simpa using this
/-! ### MeetOf, JoinOf -/
theorem nat_of {a : Int} {n : Nat} (h : 0 ≤ a ∧ a < n) : ∃ m : Nat, a = m ∧ m < n := ⟨a.toNat, by omega, by omega⟩
theorem impl_meetOf_ev (u : List (List Int)) (a b : Int) : Ev (fun k => impl_MeetOf.f k u a b) (meetOfP u a b) := by
  unfold impl_MeetOf.f
  refine Ev.bind (impl_ord u) ?_
  by_cases h : Ord u
  · refine Ev.tt (decide_eq_true h) ?_
    refine Ev.bindc (isAnswer_eq _ _) ?_
    by_cases ha : 0 ≤ a ∧ a < u.length
    · refine Ev.tt (decide_eq_true ha) ?_
      refine Ev.bindc (isAnswer_eq _ _) ?_
      by_cases hb : 0 ≤ b ∧ b < u.length
      · refine Ev.tt (decide_eq_true hb) ?_
        obtain ⟨a, rfl, ha'⟩ := nat_of ha
        obtain ⟨b, rfl, hb'⟩ := nat_of hb
        refine Ev.bind (impl_meet_ev h ha' hb') ?_
        exact Ev.ret (by rw [meetOfP_nat h ha' hb'])
      · exact Ev.ff (decide_eq_false hb) (Ev.ret (by rw [meetOfP_no (fun k => hb k.2.2)]))
    · exact Ev.ff (decide_eq_false ha) (Ev.ret (by rw [meetOfP_no (fun k => ha k.2.1)]))
  · exact Ev.ff (decide_eq_false h) (Ev.ret (by rw [meetOfP_no (fun k => h k.1)]))
theorem len_pred {u : List (List Int)} (h : Ord u) : wrap64 ((u.length : Int) - 1) = (u.length : Int) - 1 := by
  have := h.le12
  exact wrap_of _ (by omega) (by omega)
theorem spec_meetOf_ev (u : List (List Int)) (a b : Int) : Ev (fun k => spec_MeetOf.f k u a b) (meetOfP u a b) := by
  unfold spec_MeetOf.f
  refine Ev.bind (spec_ord u) ?_
  by_cases h : Ord u
  · refine Ev.tt (decide_eq_true h) ?_
    refine Ev.bindc (l1In_eq _ _ _) ?_
    rw [len_pred h]
    by_cases ha : 0 ≤ a ∧ a < u.length
    · refine Ev.tt (decide_eq_true (by omega)) ?_
      refine Ev.bindc (l1In_eq _ _ _) ?_
      by_cases hb : 0 ≤ b ∧ b < u.length
      · refine Ev.tt (decide_eq_true (by omega)) ?_
        obtain ⟨a, rfl, ha'⟩ := nat_of ha
        obtain ⟨b, rfl, hb'⟩ := nat_of hb
        refine Ev.bind (spec_meet_ev h ha' hb') ?_
        exact Ev.ret (by rw [meetOfP_nat h ha' hb'])
      · exact Ev.ff (decide_eq_false (by omega)) (Ev.ret (by rw [meetOfP_no (fun k => hb k.2.2)]))
    · exact Ev.ff (decide_eq_false (by omega)) (Ev.ret (by rw [meetOfP_no (fun k => ha k.2.1)]))
  · exact Ev.ff (decide_eq_false h) (Ev.ret (by rw [meetOfP_no (fun k => h k.1)]))
theorem spec_joinOf_ev (u : List (List Int)) (a b : Int) : Ev (fun k => spec_JoinOf.f k u a b) (joinOfP u a b) := by
  unfold spec_JoinOf.f
  refine Ev.bind (spec_ord u) ?_
  by_cases h : Ord u
  · refine Ev.tt (decide_eq_true h) ?_
    refine Ev.bindc (l1In_eq _ _ _) ?_
    rw [len_pred h]
    by_cases ha : 0 ≤ a ∧ a < u.length
    · refine Ev.tt (decide_eq_true (by omega)) ?_
      refine Ev.bindc (l1In_eq _ _ _) ?_
      by_cases hb : 0 ≤ b ∧ b < u.length
      · refine Ev.tt (decide_eq_true (by omega)) ?_
        obtain ⟨a, rfl, ha'⟩ := nat_of ha
        obtain ⟨b, rfl, hb'⟩ := nat_of hb
        refine Ev.bind (spec_join_ev h ha' hb') ?_
        exact Ev.ret (by rw [joinOfP_nat h ha' hb'])
      · exact Ev.ff (decide_eq_false (by omega)) (Ev.ret (by rw [joinOfP_no (fun k => hb k.2.2)]))
    · exact Ev.ff (decide_eq_false (by omega)) (Ev.ret (by rw [joinOfP_no (fun k => ha k.2.1)]))
  · exact Ev.ff (decide_eq_false h) (Ev.ret (by rw [joinOfP_no (fun k => h k.1)]))
theorem impl_turnedOf_ev (u : List (List Int)) : Ev (fun k => impl_TurnedOf.f k u) (turnOf u) := by
  unfold impl_TurnedOf.f
  refine Ev.bind (impl_ord u) ?_
  by_cases h : Ord u
  · refine Ev.tt (decide_eq_true h) ?_
    refine Ev.bind (turned_ev h) ?_
    exact Ev.ret (by rw [turnOf, if_pos h])
  · exact Ev.ff (decide_eq_false h) (Ev.ret (by rw [turnOf, if_neg h]))
theorem impl_joinOf_ev (u : List (List Int)) (a b : Int) : Ev (fun k => impl_JoinOf.f k u a b) (joinOfP u a b) := by
  unfold impl_JoinOf.f
  refine Ev.bind (impl_turnedOf_ev u) ?_
  refine Ev.bind (impl_meetOf_ev _ a b) ?_
  exact Ev.ret (meetOf_turn u a b)

/-! ### LeastOf -/
theorem sl_l1 {u : List (List Int)} (h : Ord u) {a : Nat} (ha : a < u.length) {r : Int × Bool} (H : Ev (fun k => spec_LeastOf.l0 k u ((a + 1 : Nat) : Int)) r) (b : Nat) (hb : b ≤ u.length) :
    ∀ g : Bool, Ev (fun k => spec_LeastOf.l1 k u a g b) (if (g && allF u.length (fun b => decide (rdN u a b = 1)) b) = true then ((a : Int), true) else r) := by
  have hn := h.le12
  have h1 := row_len h ha
  refine down u.length (fun b => ∀ g : Bool, Ev (fun k => spec_LeastOf.l1 k u a g b) (if (g && allF u.length (fun b => decide (rdN u a b = 1)) b) = true then ((a : Int), true) else r)) ?_ ?_ b hb
  · intro g
    refine Ev.step (fun k => spec_LeastOf.l1.eq_2 ..) ?_
    refine Ev.neg (by omega) ?_
    rw [allF_end (Nat.le_refl _), wrap_succ a (by omega)]
    cases g with
    | true => exact Ev.pos rfl (Ev.ret (by simp))
    | false => exact Ev.neg Bool.false_ne_true (Ev.to H (by simp))
  · intro b hb ih g
    refine Ev.step (fun k => spec_LeastOf.l1.eq_2 ..) ?_
    refine Ev.pos (by omega) ?_
    rw [allF_step hb, wrap_succ b (by omega)]
    cases g with
    | true =>
      refine Ev.pos rfl ?_
      repeat (refine Ev.pos (by omega) ?_)
      exact Ev.to (ih _) (by rw [Bool.true_and]; rfl)
    | false => exact Ev.neg Bool.false_ne_true (Ev.to (ih false) (by simp))
theorem sl_l0 {u : List (List Int)} (h : Ord u) (a : Nat) (ha : a ≤ u.length) :
    Ev (fun k => spec_LeastOf.l0 k u a) (let i := firstF u.length (fun a => decide (IsLeast u a)) a; (i, decide (0 ≤ i))) := by
  have hn := h.le12
  refine down u.length (fun a => Ev (fun k => spec_LeastOf.l0 k u a) (let i := firstF u.length (fun a => decide (IsLeast u a)) a; (i, decide (0 ≤ i)))) ?_ ?_ a ha
  · refine Ev.step (fun k => spec_LeastOf.l0.eq_2 ..) ?_
    refine Ev.neg (by omega) ?_
    refine Ev.step (fun k => spec_LeastOf.j1.eq_2 ..) ?_
    exact Ev.neg Bool.false_ne_true (Ev.ret (by rw [firstF_end (Nat.le_refl _)]; rfl))
  · intro a ha ih
    refine Ev.step (fun k => spec_LeastOf.l0.eq_2 ..) ?_
    refine Ev.pos (by omega) ?_
    refine Ev.bind (spec_ord u) ?_
    refine Ev.step (fun k => spec_LeastOf.j1.eq_2 ..) ?_
    refine Ev.tt (decide_eq_true h) ?_
    refine Ev.to (sl_l1 h ha ih 0 (Nat.zero_le _) true) ?_
    rw [firstF_step ha]
    by_cases e : IsLeast u a
    · rw [if_pos (by rw [Bool.true_and, allF0]; exact fun c hc => decide_eq_true (e c hc)), if_pos (decide_eq_true e)]
      simp
    · rw [if_neg (by rw [Bool.true_and, allF0]; exact fun k => e fun c hc => of_decide_eq_true (k c hc)), if_neg (by rw [decide_eq_true_iff]; exact e)]
theorem spec_least_ev (u : List (List Int)) : Ev (fun k => spec_LeastOf.f k u) (leastOfP u) := by
  unfold spec_LeastOf.f
  by_cases h : Ord u
  · exact Ev.to (sl_l0 h 0 (Nat.zero_le _)) (by rw [leastOfP, if_pos h]; rfl)
  · rw [leastOfP, if_neg h]
    refine Ev.step (fun k => spec_LeastOf.l0.eq_2 ..) ?_
    by_cases e : (0 : Int) < u.length
    · refine Ev.pos e ?_
      refine Ev.bind (spec_ord u) ?_
      refine Ev.step (fun k => spec_LeastOf.j1.eq_2 ..) ?_
      exact Ev.ff (decide_eq_false h) (Ev.ret rfl)
    · refine Ev.neg e ?_
      refine Ev.step (fun k => spec_LeastOf.j1.eq_2 ..) ?_
      exact Ev.neg Bool.false_ne_true (Ev.ret rfl)
theorem il_l1 {u : List (List Int)} (h : Ord u) {a : Nat} (ha : a < u.length) {r : Int × Bool} (H : Ev (fun k => impl_LeastOf.l0 k u u.length ((a + 1 : Nat) : Int)) r) (b : Nat) (hb : b ≤ u.length) :
    ∀ g : Bool, Ev (fun k => impl_LeastOf.l1 k a g u u.length a (rd_L1 u (a : Int)) u.length b) (if (g && allF u.length (fun b => decide (rdN u a b = 1)) b) = true then ((a : Int), true) else r) := by
  have hn := h.le12
  have h1 := row_len h ha
  refine down u.length (fun b => ∀ g : Bool, Ev (fun k => impl_LeastOf.l1 k a g u u.length a (rd_L1 u (a : Int)) u.length b) (if (g && allF u.length (fun b => decide (rdN u a b = 1)) b) = true then ((a : Int), true) else r)) ?_ ?_ b hb
  · intro g
    refine Ev.step (fun k => impl_LeastOf.l1.eq_2 ..) ?_
    refine Ev.neg (by omega) ?_
    rw [allF_end (Nat.le_refl _), wrap_succ a (by omega)]
    cases g with
    | true => exact Ev.pos rfl (Ev.ret (by simp))
    | false => exact Ev.neg Bool.false_ne_true (Ev.to H (by simp))
  · intro b hb ih g
    refine Ev.step (fun k => impl_LeastOf.l1.eq_2 ..) ?_
    repeat (refine Ev.pos (by omega) ?_)
    rw [allF_step hb, wrap_succ b (by omega)]
    cases g with
    | true =>
      refine Ev.pos rfl ?_
      exact Ev.to (ih _) (by rw [Bool.true_and]; rfl)
    | false => exact Ev.neg Bool.false_ne_true (Ev.to (ih false) (by simp))
theorem il_l0 {u : List (List Int)} (h : Ord u) (a : Nat) (ha : a ≤ u.length) :
    Ev (fun k => impl_LeastOf.l0 k u u.length a) (let i := firstF u.length (fun a => decide (IsLeast u a)) a; (i, decide (0 ≤ i))) := by
  have hn := h.le12
  refine down u.length (fun a => Ev (fun k => impl_LeastOf.l0 k u u.length a) (let i := firstF u.length (fun a => decide (IsLeast u a)) a; (i, decide (0 ≤ i)))) ?_ ?_ a ha
  · refine Ev.step (fun k => impl_LeastOf.l0.eq_2 ..) ?_
    refine Ev.neg (by omega) ?_
    exact Ev.ret (by rw [firstF_end (Nat.le_refl _)]; rfl)
  · intro a ha ih
    refine Ev.step (fun k => impl_LeastOf.l0.eq_2 ..) ?_
    repeat (refine Ev.pos (by omega) ?_)
    rw [row_len h ha]
    refine Ev.to (il_l1 h ha ih 0 (Nat.zero_le _) true) ?_
    rw [firstF_step ha]
    by_cases e : IsLeast u a
    · rw [if_pos (by rw [Bool.true_and, allF0]; exact fun c hc => decide_eq_true (e c hc)), if_pos (decide_eq_true e)]
      simp
    · rw [if_neg (by rw [Bool.true_and, allF0]; exact fun k => e fun c hc => of_decide_eq_true (k c hc)), if_neg (by rw [decide_eq_true_iff]; exact e)]
theorem impl_least_ev (u : List (List Int)) : Ev (fun k => impl_LeastOf.f k u) (leastOfP u) := by
  unfold impl_LeastOf.f
  refine Ev.bind (impl_ord u) ?_
  by_cases h : Ord u
  · refine Ev.tt (decide_eq_true h) ?_
    exact Ev.to (il_l0 h 0 (Nat.zero_le _)) (by rw [leastOfP, if_pos h]; rfl)
  · exact Ev.ff (decide_eq_false h) (Ev.ret (by rw [leastOfP, if_neg h]))

/-! ### LatticeOk -/
def pl (u : List (List Int)) (a b : Nat) : Bool := decide (0 ≤ meetI u a b) && decide (0 ≤ joinI u a b)
theorem sa_l1 {u : List (List Int)} (h : Ord u) {a : Nat} (ha : a < u.length) {r : Bool} (H : Ev (fun k => spec_LatticeOk.l0 k u ((a + 1 : Nat) : Int)) r) (b : Nat) (hb : b ≤ a) :
    Ev (fun k => spec_LatticeOk.l1 k u a b) (allF a (pl u a) b && r) := by
  have hn := h.le12
  refine down a (fun b => Ev (fun k => spec_LatticeOk.l1 k u a b) (allF a (pl u a) b && r)) ?_ ?_ b hb
  · refine Ev.step (fun k => spec_LatticeOk.l1.eq_2 ..) ?_
    refine Ev.neg (by omega) ?_
    rw [allF_end (Nat.le_refl _), wrap_succ a (by omega)]
    exact Ev.to H (by simp)
  · intro b hb ih
    refine Ev.step (fun k => spec_LatticeOk.l1.eq_2 ..) ?_
    refine Ev.pos (by omega) ?_
    rw [allF_step hb, wrap_succ b (by omega)]
    refine Ev.bind (spec_meet_ev h ha (by omega)) ?_
    by_cases k1 : 0 ≤ meetI u a b
    · refine Ev.neg (by omega) ?_
      refine Ev.bind (spec_join_ev h ha (by omega)) ?_
      by_cases k2 : 0 ≤ joinI u a b
      · exact Ev.neg (by omega) (Ev.to ih (by simp [pl, k1, k2]))
      · exact Ev.pos (by omega) (Ev.ret (by simp [pl, k2]))
    · exact Ev.pos (by omega) (Ev.ret (by simp [pl, k1]))
theorem sa_l0 {u : List (List Int)} (h : Ord u) (a : Nat) (ha : a ≤ u.length) :
    Ev (fun k => spec_LatticeOk.l0 k u a) (allF u.length (fun a => allF a (pl u a) 0) a) := by
  have hn := h.le12
  refine down u.length (fun a => Ev (fun k => spec_LatticeOk.l0 k u a) (allF u.length (fun a => allF a (pl u a) 0) a)) ?_ ?_ a ha
  · refine Ev.step (fun k => spec_LatticeOk.l0.eq_2 ..) ?_
    refine Ev.neg (by omega) ?_
    refine Ev.step (fun k => spec_LatticeOk.j1.eq_2 ..) ?_
    refine Ev.neg Bool.false_ne_true ?_
    refine Ev.bind (spec_ord u) ?_
    exact Ev.ret (by rw [allF_end (Nat.le_refl _), decide_eq_true h])
  · intro a ha ih
    refine Ev.step (fun k => spec_LatticeOk.l0.eq_2 ..) ?_
    refine Ev.pos (by omega) ?_
    refine Ev.bind (spec_ord u) ?_
    refine Ev.step (fun k => spec_LatticeOk.j1.eq_2 ..) ?_
    refine Ev.tt (decide_eq_true h) ?_
    exact Ev.to (sa_l1 h ha ih 0 (Nat.zero_le _)) (by rw [allF_step ha])
theorem spec_lat_ev (u : List (List Int)) : Ev (fun k => spec_LatticeOk.f k u) (decide (Lat u)) := by
  unfold spec_LatticeOk.f
  by_cases h : Ord u
  · refine Ev.to (sa_l0 h 0 (Nat.zero_le _)) ?_
    rw [Bool.eq_iff_iff, allF0, decide_eq_true_iff]
    constructor
    · intro k
      have half : ∀ a, a < u.length → ∀ b, b < a → 0 ≤ meetI u a b ∧ 0 ≤ joinI u a b := fun a ha b hb => by
        have := allF0.1 (k a ha) b hb
        simpa [pl] using this
      refine ⟨h, fun a ha b hb => ?_⟩
      rcases Nat.lt_trichotomy a b with e | e | e
      · rw [meetI_comm h, joinI_comm h]
        exact half b hb a e
      · subst e
        rw [meetI_of h (isMeet_self h ha ha (h.refl ha)), joinI_of h (isJoin_self h ha ha (h.refl ha))]
        omega
      · exact half a ha b e
    · intro k a ha
      rw [allF0]
      intro b hb
      have := k.2 a ha b (by omega)
      simp [pl, this.1, this.2]
  · rw [decide_eq_false (fun k => h k.1)]
    refine Ev.step (fun k => spec_LatticeOk.l0.eq_2 ..) ?_
    have fin : ∀ x : Bool, x = false → Ev (fun k => spec_LatticeOk.j1 k u 0 x) false := by
      rintro x rfl
      refine Ev.step (fun k => spec_LatticeOk.j1.eq_2 ..) ?_
      refine Ev.neg Bool.false_ne_true ?_
      refine Ev.bind (spec_ord u) ?_
      exact Ev.ret (decide_eq_false h)
    by_cases e : (0 : Int) < u.length
    · refine Ev.pos e ?_
      refine Ev.bind (spec_ord u) ?_
      exact fin _ (decide_eq_false h)
    · exact Ev.neg e (fin _ rfl)
theorem ia_l1 {u : List (List Int)} (h : Ord u) {a : Nat} (ha : a < u.length) {r : Bool} (H : Ev (fun k => impl_LatticeOk.l0 k u (turn u) u.length ((a + 1 : Nat) : Int)) r) (b : Nat) (hb : b ≤ u.length) :
    Ev (fun k => impl_LatticeOk.l1 k u (turn u) a u.length a u.length b) (allF u.length (pl u a) b && r) := by
  have hn := h.le12
  refine down u.length (fun b => Ev (fun k => impl_LatticeOk.l1 k u (turn u) a u.length a u.length b) (allF u.length (pl u a) b && r)) ?_ ?_ b hb
  · refine Ev.step (fun k => impl_LatticeOk.l1.eq_2 ..) ?_
    refine Ev.neg (by omega) ?_
    rw [allF_end (Nat.le_refl _), wrap_succ a (by omega)]
    exact Ev.to H (by simp)
  · intro b hb ih
    refine Ev.step (fun k => impl_LatticeOk.l1.eq_2 ..) ?_
    refine Ev.pos (by omega) ?_
    rw [allF_step hb, wrap_succ b (by omega)]
    refine Ev.bind (impl_meet_ev h ha hb) ?_
    by_cases k1 : 0 ≤ meetI u a b
    · refine Ev.neg (by omega) ?_
      refine Ev.bind (impl_meet_ev (turn_ord h) (by rw [turn_len]; exact ha) (by rw [turn_len]; exact hb)) ?_
      rw [meetI_turn ha hb]
      by_cases k2 : 0 ≤ joinI u a b
      · exact Ev.neg (by omega) (Ev.to ih (by simp [pl, k1, k2]))
      · exact Ev.pos (by omega) (Ev.ret (by simp [pl, k2]))
    · exact Ev.pos (by omega) (Ev.ret (by simp [pl, k1]))
theorem ia_l0 {u : List (List Int)} (h : Ord u) (a : Nat) (ha : a ≤ u.length) :
    Ev (fun k => impl_LatticeOk.l0 k u (turn u) u.length a) (allF u.length (fun a => allF u.length (pl u a) 0) a) := by
  have hn := h.le12
  refine down u.length (fun a => Ev (fun k => impl_LatticeOk.l0 k u (turn u) u.length a) (allF u.length (fun a => allF u.length (pl u a) 0) a)) ?_ ?_ a ha
  · refine Ev.step (fun k => impl_LatticeOk.l0.eq_2 ..) ?_
    exact Ev.neg (by omega) (Ev.ret (by rw [allF_end (Nat.le_refl _)]))
  · intro a ha ih
    refine Ev.step (fun k => impl_LatticeOk.l0.eq_2 ..) ?_
    refine Ev.pos (by omega) ?_
    exact Ev.to (ia_l1 h ha ih 0 (Nat.zero_le _)) (by rw [allF_step ha])
theorem impl_lat_ev (u : List (List Int)) : Ev (fun k => impl_LatticeOk.f k u) (decide (Lat u)) := by
  unfold impl_LatticeOk.f
  refine Ev.bind (impl_ord u) ?_
  by_cases h : Ord u
  · refine Ev.tt (decide_eq_true h) ?_
    refine Ev.bind (turned_ev h) ?_
    refine Ev.to (ia_l0 h 0 (Nat.zero_le _)) ?_
    rw [Bool.eq_iff_iff, allF0, decide_eq_true_iff]
    constructor
    · intro k
      refine ⟨h, fun a ha b hb => ?_⟩
      have := allF0.1 (k a ha) b hb
      simpa [pl] using this
    · intro k a ha
      rw [allF0]
      intro b hb
      have := k.2 a ha b hb
      simp [pl, this.1, this.2]
  · exact Ev.ff (decide_eq_false h) (Ev.ret (decide_eq_false (fun k => h k.1)).symm)

/-! ### TurnedOf of the reference -/
theorem st_l1 {u v : List (List Int)} (h : Ord u) {a : Nat} (ha : a < u.length) (hv : v.length ≤ 12) {r : List (List Int)}
    (H : Ev (fun k => spec_TurnedOf.l0 k u (v ++ [(List.range u.length).map fun b => rdN u b a]) ((a + 1 : Nat) : Int)) r) (b : Nat) (hb : b ≤ u.length) :
    Ev (fun k => spec_TurnedOf.l1 k u v a ((List.range b).map fun b => rdN u b a) b) r := by
  have hn := h.le12
  refine down u.length (fun b => Ev (fun k => spec_TurnedOf.l1 k u v a ((List.range b).map fun b => rdN u b a) b) r) ?_ ?_ b hb
  · refine Ev.step (fun k => spec_TurnedOf.l1.eq_2 ..) ?_
    refine Ev.neg (by omega) ?_
    refine Ev.pos (by omega) ?_
    rw [wrap_succ a (by omega)]
    exact H
  · intro b hb ih
    have h1 := row_len h hb
    refine Ev.step (fun k => spec_TurnedOf.l1.eq_2 ..) ?_
    repeat (refine Ev.pos (by omega) ?_)
    refine Ev.pos (by simp; omega) ?_
    rw [wrap_succ b (by omega)]
    rw [List.range_succ, List.map_append] at ih
    exact ih
theorem st_l0 {u : List (List Int)} (h : Ord u) (a : Nat) (ha : a ≤ u.length) :
    Ev (fun k => spec_TurnedOf.l0 k u ((List.range a).map fun a => (List.range u.length).map fun b => rdN u b a) a) (turn u) := by
  have hn := h.le12
  refine down u.length (fun a => Ev (fun k => spec_TurnedOf.l0 k u ((List.range a).map fun a => (List.range u.length).map fun b => rdN u b a) a) (turn u)) ?_ ?_ a ha
  · refine Ev.step (fun k => spec_TurnedOf.l0.eq_2 ..) ?_
    refine Ev.neg (by omega) ?_
    refine Ev.step (fun k => spec_TurnedOf.j1.eq_2 ..) ?_
    exact Ev.neg Bool.false_ne_true (Ev.ret rfl)
  · intro a ha ih
    refine Ev.step (fun k => spec_TurnedOf.l0.eq_2 ..) ?_
    refine Ev.pos (by omega) ?_
    refine Ev.bind (spec_ord u) ?_
    refine Ev.step (fun k => spec_TurnedOf.j1.eq_2 ..) ?_
    refine Ev.tt (decide_eq_true h) ?_
    rw [List.range_succ, List.map_append] at ih
    exact st_l1 h ha (by simp; omega) ih 0 (Nat.zero_le _)
theorem spec_turnedOf_ev (u : List (List Int)) : Ev (fun k => spec_TurnedOf.f k u) (turnOf u) := by
  unfold spec_TurnedOf.f
  by_cases h : Ord u
  · rw [turnOf, if_pos h]
    exact st_l0 h 0 (Nat.zero_le _)
  · rw [turnOf, if_neg h]
    refine Ev.step (fun k => spec_TurnedOf.l0.eq_2 ..) ?_
    by_cases e : (0 : Int) < u.length
    · refine Ev.pos e ?_
      refine Ev.bind (spec_ord u) ?_
      refine Ev.step (fun k => spec_TurnedOf.j1.eq_2 ..) ?_
      exact Ev.ff (decide_eq_false h) (Ev.ret rfl)
    · refine Ev.neg e ?_
      refine Ev.step (fun k => spec_TurnedOf.j1.eq_2 ..) ?_
      exact Ev.neg Bool.false_ne_true (Ev.ret rfl)

/-! ### AtomsOf -/
theorem sx_l1 {u : List (List Int)} (h : Ord u) {a : Nat} (ha : a < u.length) {acc : List Int} (hacc : acc.length ≤ 12) {least : Int} {r : List Int}
    (H : Ev (fun k => spec_AtomsOf.l0 k u (if atomB u least a = true then acc ++ [(a : Int)] else acc) least true ((a + 1 : Nat) : Int)) r) (b : Nat) (hb : b ≤ u.length) :
    Ev (fun k => spec_AtomsOf.l1 k u acc least true a (belowN u a b) b) r := by
  have hn := h.le12
  refine down u.length (fun b => Ev (fun k => spec_AtomsOf.l1 k u acc least true a (belowN u a b) b) r) ?_ ?_ b hb
  · refine Ev.step (fun k => spec_AtomsOf.l1.eq_2 ..) ?_
    refine Ev.neg (by omega) ?_
    rw [wrap_succ a (by omega)]
    by_cases k1 : belowN u a u.length = 2
    · refine Ev.pos k1 ?_
      by_cases k2 : (a : Int) = least
      · refine Ev.pos k2 ?_
        rw [if_neg (by simp [atomB, k2])] at H
        exact H
      · refine Ev.neg k2 (Ev.pos (by omega) ?_)
        rw [if_pos (by simp [atomB, k1, k2])] at H
        exact H
    · refine Ev.neg k1 ?_
      rw [if_neg (by simp [atomB, k1])] at H
      exact H
  · intro b hb ih
    have h1 := row_len h hb
    have h2 := belowN_bound h ha b (by omega)
    have h3 := h.bit hb ha
    refine Ev.step (fun k => spec_AtomsOf.l1.eq_2 ..) ?_
    repeat (refine Ev.pos (by omega) ?_)
    rw [wrap_succ b (by omega), show wrap64 (belowN u a b + rd (rd_L1 u (b : Int)) (a : Int)) = belowN u a (b + 1) from by
      rw [at_nat, wrap_of _ (by omega) (by omega)]; rfl]
    exact ih
def atomsTo (u : List (List Int)) (least : Int) (m : Nat) : List Int := ((List.range m).filter (atomB u least)).map (fun (a : Nat) => (a : Int))
theorem atomsTo_succ (u : List (List Int)) (least : Int) (m : Nat) : atomsTo u least (m + 1) = if atomB u least m = true then atomsTo u least m ++ [(m : Int)] else atomsTo u least m := by
  unfold atomsTo
  rw [List.range_succ, List.filter_append, List.map_append]
  by_cases e : atomB u least m = true
  · simp [e]
  · simp [e]
theorem atomsTo_len (u : List (List Int)) (least : Int) (m : Nat) : (atomsTo u least m).length ≤ m := by
  unfold atomsTo
  rw [List.length_map]
  exact Nat.le_trans (List.length_filter_le _ _) (by simp)
theorem sx_l0 {u : List (List Int)} (h : Ord u) (least : Int) (a : Nat) (ha : a ≤ u.length) :
    Ev (fun k => spec_AtomsOf.l0 k u (atomsTo u least a) least true a) (atomsTo u least u.length) := by
  have hn := h.le12
  refine down u.length (fun a => Ev (fun k => spec_AtomsOf.l0 k u (atomsTo u least a) least true a) (atomsTo u least u.length)) ?_ ?_ a ha
  · refine Ev.step (fun k => spec_AtomsOf.l0.eq_2 ..) ?_
    refine Ev.neg (by omega) ?_
    refine Ev.step (fun k => spec_AtomsOf.j1.eq_2 ..) ?_
    exact Ev.neg Bool.false_ne_true (Ev.ret rfl)
  · intro a ha ih
    refine Ev.step (fun k => spec_AtomsOf.l0.eq_2 ..) ?_
    refine Ev.pos (by omega) ?_
    refine Ev.step (fun k => spec_AtomsOf.j1.eq_2 ..) ?_
    refine Ev.pos rfl ?_
    rw [atomsTo_succ] at ih
    have := atomsTo_len u least a
    exact sx_l1 h ha (by omega) ih 0 (Nat.zero_le _)
theorem spec_atoms_ev (u : List (List Int)) : Ev (fun k => spec_AtomsOf.f k u) (atomsL u) := by
  unfold spec_AtomsOf.f
  refine Ev.bind (spec_least_ev u) ?_
  by_cases h : Ord u ∧ 0 ≤ leastI u
  · rw [atomsL, if_pos h, leastOfP, if_pos h.1, decide_eq_true h.2]
    exact sx_l0 h.1 (leastI u) 0 (Nat.zero_le _)
  · rw [atomsL, if_neg h, leastOfP_no h]
    have fin : Ev (fun k => spec_AtomsOf.j1 k u [] (-1) false 0 false) [] := by
      refine Ev.step (fun k => spec_AtomsOf.j1.eq_2 ..) ?_
      exact Ev.neg Bool.false_ne_true (Ev.ret rfl)
    refine Ev.step (fun k => spec_AtomsOf.l0.eq_2 ..) ?_
    by_cases e : (0 : Int) < u.length
    · exact Ev.pos e fin
    · exact Ev.neg e fin
theorem ix_l1 {u : List (List Int)} (h : Ord u) {a : Nat} (ha : a < u.length) {acc : List Int} (hacc : acc.length ≤ 12) {least : Int} {r : List Int}
    (H : Ev (fun k => impl_AtomsOf.l0 k u least (if atomB u least a = true then acc ++ [(a : Int)] else acc) u.length ((a + 1 : Nat) : Int)) r) (b : Nat) (hb : b ≤ u.length) :
    Ev (fun k => impl_AtomsOf.l1 k u least acc a (belowN u a b) u.length a u.length b) r := by
  have hn := h.le12
  refine down u.length (fun b => Ev (fun k => impl_AtomsOf.l1 k u least acc a (belowN u a b) u.length a u.length b) r) ?_ ?_ b hb
  · refine Ev.step (fun k => impl_AtomsOf.l1.eq_2 ..) ?_
    refine Ev.neg (by omega) ?_
    rw [wrap_succ a (by omega)]
    by_cases k2 : (a : Int) = least
    · refine Ev.pos k2 ?_
      rw [if_neg (by simp [atomB, k2])] at H
      exact H
    · refine Ev.neg k2 ?_
      by_cases k1 : belowN u a u.length = 2
      · refine Ev.pos k1 (Ev.pos (by omega) ?_)
        rw [if_pos (by simp [atomB, k1, k2])] at H
        exact H
      · refine Ev.neg k1 ?_
        rw [if_neg (by simp [atomB, k1])] at H
        exact H
  · intro b hb ih
    have h1 := row_len h hb
    have h2 := belowN_bound h ha b (by omega)
    have h3 := h.bit hb ha
    refine Ev.step (fun k => impl_AtomsOf.l1.eq_2 ..) ?_
    repeat (refine Ev.pos (by omega) ?_)
    rw [wrap_succ b (by omega), show wrap64 (belowN u a b + rd (rd_L1 u (b : Int)) (a : Int)) = belowN u a (b + 1) from by
      rw [at_nat, wrap_of _ (by omega) (by omega)]; rfl]
    exact ih
theorem ix_l0 {u : List (List Int)} (h : Ord u) (least : Int) (a : Nat) (ha : a ≤ u.length) :
    Ev (fun k => impl_AtomsOf.l0 k u least (atomsTo u least a) u.length a) (atomsTo u least u.length) := by
  have hn := h.le12
  refine down u.length (fun a => Ev (fun k => impl_AtomsOf.l0 k u least (atomsTo u least a) u.length a) (atomsTo u least u.length)) ?_ ?_ a ha
  · refine Ev.step (fun k => impl_AtomsOf.l0.eq_2 ..) ?_
    exact Ev.neg (by omega) (Ev.ret rfl)
  · intro a ha ih
    refine Ev.step (fun k => impl_AtomsOf.l0.eq_2 ..) ?_
    refine Ev.pos (by omega) ?_
    rw [atomsTo_succ] at ih
    have := atomsTo_len u least a
    exact ix_l1 h ha (by omega) ih 0 (Nat.zero_le _)
theorem impl_atoms_ev (u : List (List Int)) : Ev (fun k => impl_AtomsOf.f k u) (atomsL u) := by
  unfold impl_AtomsOf.f
  refine Ev.bind (impl_least_ev u) ?_
  by_cases h : Ord u ∧ 0 ≤ leastI u
  · rw [atomsL, if_pos h, leastOfP, if_pos h.1, decide_eq_true h.2]
    refine Ev.pos rfl ?_
    exact ix_l0 h.1 (leastI u) 0 (Nat.zero_le _)
  · rw [atomsL, if_neg h, leastOfP_no h]
    exact Ev.neg Bool.false_ne_true (Ev.ret rfl)
end Go.Proofs.Ytilgbnbeonlbnaa.Q

/-
  The reader of draws: what 'pick' and 'odd' answer lies in its bounds; 'Open'.
-/
namespace Go.Proofs.Ytilgbnbeonlbnaa.Q
open Go.RowKit Go.Proofs.YtilgbnbeonlbnaaW.PrintWords Go.Proofs.YtilgbnbeonlbnaaW.PrintLast Go.Proofs.YtilgbnbeonlbnaaW.PrintMore Go.Proofs.Ytilgbnbeonlbnaa.P Go.Proofs.Cl
set_option linter.unusedVariables false

theorem pow62 : (2 : Int) ^ 62 = 4611686018427387904 := by decide
theorem pow62' : (2 : Nat) ^ 62 = 4611686018427387904 := by decide
theorem bits_small (op : BinOp) (x y : Nat) (hx : x < 2 ^ 62) (hy : y < 2 ^ 62) :
    Go.bits .xor .i64 x y = ((x ^^^ y : Nat) : Int) ∧ Go.bits .and .i64 x y = ((x &&& y : Nat) : Int) ∧ Go.bits .or .i64 x y = ((x ||| y : Nat) : Int) := by
  have e64 : IntKind.i64.bits = 64 := rfl
  have hp : (2 : Nat) ^ 62 ≤ 2 ^ 64 := Nat.pow_le_pow_right (by decide) (by decide)
  have hx' : x % 2 ^ 64 = x := Nat.mod_eq_of_lt (Nat.lt_of_lt_of_le hx hp)
  have hy' : y % 2 ^ 64 = y := Nat.mod_eq_of_lt (Nat.lt_of_lt_of_le hy hp)
  have w : ∀ n : Nat, n < 2 ^ 62 → IntKind.i64.wrap (n : Int) = n := by
    intro n h
    rw [pow62'] at h
    rw [IntKind.wrap_i64]
    omega
  refine ⟨?_, ?_, ?_⟩
  · simp only [Go.bits, e64, BitVec.ofInt_natCast, BitVec.toNat_xor, BitVec.toNat_ofNat, hx', hy']
    exact w _ (Nat.xor_lt_two_pow hx hy)
  · simp only [Go.bits, e64, BitVec.ofInt_natCast, BitVec.toNat_and, BitVec.toNat_ofNat, hx', hy']
    exact w _ (Nat.and_lt_two_pow _ hy)
  · simp only [Go.bits, e64, BitVec.ofInt_natCast, BitVec.toNat_or, BitVec.toNat_ofNat, hx', hy']
    exact w _ (Nat.or_lt_two_pow hx hy)
theorem xor_nonneg (x y : Int) (hx0 : 0 ≤ x) (hx : x < 4611686018427387904) (hy0 : 0 ≤ y) (hy : y < 4611686018427387904) : 0 ≤ Go.bits .xor .i64 x y := by
  obtain ⟨a, rfl⟩ := Int.eq_ofNat_of_zero_le hx0
  obtain ⟨b, rfl⟩ := Int.eq_ofNat_of_zero_le hy0
  have := (bits_small .xor a b (by rw [pow62']; omega) (by rw [pow62']; omega)).1
  rw [this]
  omega
theorem tmod_in (x n : Int) (hx : 0 ≤ x) (hn : 0 < n) : 0 ≤ Int.tmod x n ∧ Int.tmod x n < n := ⟨Int.tmod_nonneg _ hx, Int.tmod_lt_of_pos _ hn⟩
theorem tdiv_in (x n : Int) (hx : 0 ≤ x) (hn : 0 < n) : 0 ≤ Int.tdiv x n ∧ Int.tdiv x n ≤ x := by
  rw [Int.tdiv_eq_ediv_of_nonneg hx]
  exact ⟨Int.ediv_nonneg hx (by omega), Int.ediv_le_self _ hx⟩
/-- a code's bytes -/
def Bytes (b : List Int) : Prop := ∀ x, x ∈ b → 0 ≤ x ∧ x ≤ 255
theorem Bytes.at_ {b : List Int} (h : Bytes b) {i : Int} (h0 : 0 ≤ i) (h1 : i < b.length) : 0 ≤ rd b i ∧ rd b i ≤ 255 := by
  obtain ⟨j, rfl⟩ := Int.eq_ofNat_of_zero_le h0
  have hj : j < b.length := by omega
  have : rd b (j : Int) = b[j] := by
    show b.getD j 0 = b[j]
    rw [List.getD_eq_getElem?_getD, List.getElem?_eq_getElem hj]
    rfl
  rw [this]
  exact h _ (List.getElem_mem hj)
theorem pick_ev {b : List Int} (hb : Bytes b) (hl : b.length ≤ 2000) {p : Int} (h0 : 0 ≤ p) (h1 : p < 1000000) (n : Int) :
    ∃ v, Ev (fun k => spec_l20Rd_pick.f k b p n) (v, p + 1) ∧ 0 ≤ v ∧ (1 ≤ n → v < n) := by
  unfold spec_l20Rd_pick.f
  have w1 : wrap64 (p + 1) = p + 1 := wrap_of _ (by omega) (by omega)
  have w2 : wrap64 (p + 1 - 1) = p := by rw [wrap_of _ (by omega) (by omega)]; omega
  rw [w1]
  by_cases hn : n < 1
  · refine ⟨0, ?_, by omega, fun h => by omega⟩
    refine Ev.pos hn ?_
    refine Ev.step (fun k => spec_l20Rd_pick.j0.eq_2 ..) ?_
    exact Ev.pos rfl (Ev.ret rfl)
  · by_cases he : (b.length : Int) = 0
    · refine ⟨0, ?_, by omega, fun h => by omega⟩
      refine Ev.neg hn ?_
      refine Ev.step (fun k => spec_l20Rd_pick.j0.eq_2 ..) ?_
      exact Ev.tt (beq_iff_eq.2 he) (Ev.ret rfl)
    · by_cases hk : p < (b.length : Int)
      · have hr := hb.at_ h0 hk
        have ht := tmod_in (wrap64 (rd b p)) n (by rw [wrap_of _ (by omega) (by omega)]; exact hr.1) (by omega)
        refine ⟨_, ?_, ht.1, fun _ => ht.2⟩
        refine Ev.neg hn ?_
        refine Ev.step (fun k => spec_l20Rd_pick.j0.eq_2 ..) ?_
        refine Ev.ff (beq_eq_false_iff_ne.2 he) ?_
        rw [w2]
        exact Ev.pos hk (Ev.pos h0 (Ev.neg (by omega) (Ev.ret rfl)))
      · have i1 := tmod_in p (b.length : Int) h0 (by omega)
        have w3 : wrap64 (wrap64 (p * 7) + 3) = p * 7 + 3 := by
          rw [wrap_of (p * 7) (by omega) (by omega), wrap_of _ (by omega) (by omega)]
        have i2 := tmod_in (p * 7 + 3) (b.length : Int) (by omega) (by omega)
        have r1 := hb.at_ i1.1 i1.2
        have r2 := hb.at_ i2.1 i2.2
        have d1 := tdiv_in p (b.length : Int) h0 (by omega)
        have hX : ∃ X, wrap64 ((wrap64 ((wrap64 ((wrap64 ((wrap64 (rd b (Int.tmod p (b.length : Int)))) * 131)) + (wrap64 ((wrap64 (rd b (Int.tmod (p * 7 + 3) (b.length : Int)))) * 1117)))) + (wrap64 (p * 29)))) + (wrap64 ((wrap64 (Int.tdiv p (b.length : Int))) * 53))) = X ∧ 0 ≤ X ∧ X < 1000000000 := by
          generalize rd b (Int.tmod p (b.length : Int)) = y1 at *
          generalize rd b (Int.tmod (p * 7 + 3) (b.length : Int)) = y2 at *
          generalize Int.tdiv p (b.length : Int) = y3 at *
          refine ⟨_, rfl, ?_⟩
          rw [wrap_of y1 (by omega) (by omega), wrap_of y2 (by omega) (by omega), wrap_of y3 (by omega) (by omega), wrap_of (y1 * 131) (by omega) (by omega), wrap_of (y2 * 1117) (by omega) (by omega), wrap_of (y3 * 53) (by omega) (by omega), wrap_of (p * 29) (by omega) (by omega), wrap_of (y1 * 131 + y2 * 1117) (by omega) (by omega), wrap_of (y1 * 131 + y2 * 1117 + p * 29) (by omega) (by omega), wrap_of _ (by omega) (by omega)]
          omega
        obtain ⟨X, hX, x0, x1⟩ := hX
        have hY : 0 ≤ wrap64 (Int.tdiv X 64) ∧ wrap64 (Int.tdiv X 64) < 4611686018427387904 := by
          have := tdiv_in X 64 x0 (by omega)
          rw [wrap_of _ (by omega) (by omega)]
          omega
        have ht := tmod_in (Go.bits .xor .i64 X (wrap64 (Int.tdiv X 64))) n (xor_nonneg _ _ x0 (by omega) hY.1 hY.2) (by omega)
        refine ⟨_, ?_, ht.1, fun _ => ht.2⟩
        refine Ev.neg hn ?_
        refine Ev.step (fun k => spec_l20Rd_pick.j0.eq_2 ..) ?_
        refine Ev.ff (beq_eq_false_iff_ne.2 he) ?_
        rw [w2, w3, hX]
        exact Ev.neg hk (Ev.neg he (Ev.pos i1.1 (Ev.pos i1.2 (Ev.pos i2.1 (Ev.pos i2.2 (Ev.neg (by omega) (Ev.ret rfl)))))))
theorem odd_ev {b : List Int} (hb : Bytes b) (hl : b.length ≤ 2000) {p : Int} (h0 : 0 ≤ p) (h1 : p < 1000000) (n : Int) :
    ∃ (v : Bool) (q : Int), Ev (fun k => spec_l20Rd_odd.f k b p n) (v, q) ∧ p ≤ q ∧ q ≤ p + 1 := by
  unfold spec_l20Rd_odd.f
  by_cases hn : n > 0
  · obtain ⟨v, hv, _⟩ := pick_ev hb hl h0 h1 n
    exact ⟨_, p + 1, Ev.pos hn (Ev.bind hv (Ev.ret rfl)), by omega, by omega⟩
  · exact ⟨false, p, Ev.neg hn (Ev.ret rfl), by omega, by omega⟩
theorem open_eq {code : List Int} (h : Bytes code) : ∃ b, spec_l20Open.f code = some (b, 0) ∧ Bytes b ∧ b.length ≤ 2000 := by
  unfold spec_l20Open.f
  by_cases k : (code.length : Int) > 2000
  · refine ⟨code.take 2000, ?_, fun x hx => h x (List.mem_of_mem_take hx), by rw [List.length_take]; omega⟩
    rw [if_pos k, if_pos (by omega)]
  · exact ⟨code, by rw [if_neg k], h, by omega⟩
theorem bytes_of_wf {code : List Int} (h : ∀ x ∈ code, (Lit.int .u8 x).wf = true) : Bytes code := by
  intro x hx
  have := h x hx
  simp [Lit.wf] at this
  exact this
end Go.Proofs.Ytilgbnbeonlbnaa.Q

/-
  The drawn orders: the drawing ends, and what it makes is small.
-/
namespace Go.Proofs.Ytilgbnbeonlbnaa.Q
open Go.RowKit Go.Proofs.YtilgbnbeonlbnaaW.PrintWords Go.Proofs.YtilgbnbeonlbnaaW.PrintLast Go.Proofs.YtilgbnbeonlbnaaW.PrintMore Go.Proofs.Ytilgbnbeonlbnaa.P Go.Proofs.Cl
set_option linter.unusedVariables false

/-! ### the sets of so many things -/
theorem shl_one {t : Nat} (h : t ≤ 3) : shl .i64 1 (t : Int) = ((2 ^ t : Nat) : Int) := by
  have : t = 0 ∨ t = 1 ∨ t = 2 ∨ t = 3 := by omega
  rcases this with rfl | rfl | rfl | rfl <;> decide
theorem two_pow_le {t : Nat} (h : t ≤ 3) : 1 ≤ 2 ^ t ∧ 2 ^ t ≤ 8 := by
  have : t = 0 ∨ t = 1 ∨ t = 2 ∨ t = 3 := by omega
  rcases this with rfl | rfl | rfl | rfl <;> decide
theorem and_bits {a b : Nat} (ha : a < 8) (hb : b < 8) : Go.bits .and .i64 (a : Int) (b : Int) = ((a &&& b : Nat) : Int) :=
  (bits_small .and a b (by rw [pow62']; omega) (by rw [pow62']; omega)).2.1
theorem ls_l1 {t : Nat} (ht : t ≤ 3) {a : Nat} (ha : a < 2 ^ t) {v : List (List Int)} (hv : v.length ≤ 12) {r : List (List Int)}
    (H : Ev (fun k => spec_l20Sets.l0 k t (v ++ [(List.range (2 ^ t)).map fun b => setsBit a b]) ((a + 1 : Nat) : Int)) r) (b : Nat) (hb : b ≤ 2 ^ t) :
    Ev (fun k => spec_l20Sets.l1 k t v a ((List.range b).map fun b => setsBit a b) b) r := by
  have hp := two_pow_le ht
  refine down (2 ^ t) (fun b => Ev (fun k => spec_l20Sets.l1 k t v a ((List.range b).map fun b => setsBit a b) b) r) ?_ ?_ b hb
  · refine Ev.step (fun k => spec_l20Sets.l1.eq_2 ..) ?_
    refine Ev.pos (by omega) ?_
    rw [shl_one ht]
    refine Ev.neg (by omega) (Ev.pos (by omega) ?_)
    rw [wrap_succ a (by omega)]
    exact H
  · intro b hb ih
    refine Ev.step (fun k => spec_l20Sets.l1.eq_2 ..) ?_
    refine Ev.pos (by omega) ?_
    rw [shl_one ht]
    refine Ev.pos (by omega) ?_
    rw [and_bits (by omega) (by omega), wrap_succ b (by omega)]
    rw [List.range_succ, List.map_append] at ih
    by_cases e : a &&& b = a
    · refine Ev.pos (by omega) (Ev.pos (by simp; omega) ?_)
      have : setsBit a b = 1 := by rw [setsBit, if_pos e]
      rw [List.map_singleton, this] at ih
      exact ih
    · refine Ev.neg (by omega) (Ev.pos (by simp; omega) ?_)
      have : setsBit a b = 0 := by rw [setsBit, if_neg e]
      rw [List.map_singleton, this] at ih
      exact ih
theorem ls_l0 {t : Nat} (ht : t ≤ 3) (a : Nat) (ha : a ≤ 2 ^ t) :
    Ev (fun k => spec_l20Sets.l0 k t ((List.range a).map fun a => (List.range (2 ^ t)).map fun b => setsBit a b) a) (setsL t) := by
  have hp := two_pow_le ht
  refine down (2 ^ t) (fun a => Ev (fun k => spec_l20Sets.l0 k t ((List.range a).map fun a => (List.range (2 ^ t)).map fun b => setsBit a b) a) (setsL t)) ?_ ?_ a ha
  · refine Ev.step (fun k => spec_l20Sets.l0.eq_2 ..) ?_
    refine Ev.pos (by omega) ?_
    rw [shl_one ht]
    exact Ev.neg (by omega) (Ev.ret rfl)
  · intro a ha ih
    refine Ev.step (fun k => spec_l20Sets.l0.eq_2 ..) ?_
    refine Ev.pos (by omega) ?_
    rw [shl_one ht]
    refine Ev.pos (by omega) ?_
    rw [List.range_succ, List.map_append] at ih
    exact ls_l1 ht ha (by simp; omega) ih 0 (Nat.zero_le _)
theorem sets20_ev {t : Nat} (ht : t ≤ 3) : Ev (fun k => spec_l20Sets.f k t) (setsL t) := by
  unfold spec_l20Sets.f
  exact ls_l0 ht 0 (Nat.zero_le _)

/-! ### orders -/
/-- m rows of m each -/
def Sqr (m : Nat) (u : List (List Int)) : Prop := u.length = m ∧ ∀ a, a < m → (u.getD a []).length = m
theorem Sqr.set {m : Nat} {u : List (List Int)} (h : Sqr m u) (a c : Nat) (x : Int) : Sqr m (u.set a ((u.getD a []).set c x)) := by
  refine ⟨by rw [List.length_set]; exact h.1, fun d hd => ?_⟩
  rw [List.getD_eq_getElem?_getD, List.getElem?_set]
  by_cases e : a = d
  · subst e
    have : a < u.length := by rw [h.1]; exact hd
    simp only [this, if_true, Option.getD_some, List.length_set]
    exact h.2 a hd
  · rw [if_neg e, ← List.getD_eq_getElem?_getD]
    exact h.2 d hd
theorem sqr_sets {t : Nat} : Sqr (2 ^ t) (setsL t) := by
  refine ⟨by simp [setsL], fun a ha => ?_⟩
  unfold setsL
  rw [getD_map_range _ _ ha]
  simp
/-- what a drawing hands on: a small list of rows, and where the reader stands -/
def Fine (r : List (List Int) × Int) : Prop := r.1.length ≤ 8 ∧ 0 ≤ r.2 ∧ r.2 ≤ 1000
theorem Ev_bindP {α β : Type} {g : Nat → Option α} {f : Nat → α → Option β} {a : α} {P : β → Prop} (h : Ev g a) (k : ∃ r, Ev (fun n => f n a) r ∧ P r) : ∃ r, Ev (fun n => (g n).bind (f n)) r ∧ P r := by
  obtain ⟨r, k1, k2⟩ := k
  exact ⟨r, Ev.bind h k1, k2⟩
theorem Ev_posP {α : Type} {c : Prop} [Decidable c] {f g : Nat → Option α} {P : α → Prop} (h : c) (H : ∃ r, Ev f r ∧ P r) : ∃ r, Ev (fun k => if c then f k else g k) r ∧ P r := by
  obtain ⟨r, k1, k2⟩ := H
  exact ⟨r, Ev.pos h k1, k2⟩
theorem Ev_negP {α : Type} {c : Prop} [Decidable c] {f g : Nat → Option α} {P : α → Prop} (h : ¬ c) (H : ∃ r, Ev g r ∧ P r) : ∃ r, Ev (fun k => if c then f k else g k) r ∧ P r := by
  obtain ⟨r, k1, k2⟩ := H
  exact ⟨r, Ev.neg h k1, k2⟩
theorem Ev_stepP {α : Type} {g f : Nat → Option α} {P : α → Prop} (h : ∀ k, g (k + 1) = f k) (H : ∃ r, Ev f r ∧ P r) : ∃ r, Ev g r ∧ P r := by
  obtain ⟨r, k1, k2⟩ := H
  exact ⟨r, Ev.step h k1, k2⟩
theorem Ev_retP {α : Type} {a : α} {P : α → Prop} (h : P a) : ∃ r, Ev (fun _ => some a) r ∧ P r := ⟨a, Ev.now a, h⟩
section
variable {b : List Int} (hb : Bytes b) (hl : b.length ≤ 2000)
theorem lo_j5 (hb : Bytes b) (hl : b.length ≤ 2000) {m : Nat} (h1 : 1 ≤ m) (h8 : m ≤ 8) {u : List (List Int)} (hu : Sqr m u) {p : Int} (p0 : 0 ≤ p) (p1 : p ≤ 900) (n : Int) :
    ∃ r, Ev (fun k => spec_l20Order.j5 k n u b p) r ∧ Fine r := by
  refine Ev_stepP (fun k => spec_l20Order.j5.eq_2 ..) ?_
  obtain ⟨v, q, hv, q0, q1⟩ := odd_ev hb hl p0 (by omega) n
  refine Ev_bindP hv ?_
  have hu1 := hu.1
  cases v with
  | false => exact Ev_negP Bool.false_ne_true (Ev_retP ⟨by show u.length ≤ 8; omega, by show 0 ≤ q; omega, by show q ≤ 1000; omega⟩)
  | true =>
    refine Ev_posP rfl ?_
    obtain ⟨v, hv, v0, v1⟩ := pick_ev hb hl (show 0 ≤ q by omega) (by omega) 3
    refine Ev_bindP hv ?_
    have r0 : (rd_L1 u 0).length = m := hu.2 0 (by omega)
    by_cases e0 : v = 0
    · exact Ev_posP e0 (Ev_retP ⟨by simp, by show 0 ≤ q + 1; omega, by show q + 1 ≤ 1000; omega⟩)
    · refine Ev_negP e0 ?_
      by_cases e1 : v = 1
      · refine Ev_posP e1 (Ev_posP (by omega) (Ev_posP (by omega) (Ev_retP ⟨?_, by show 0 ≤ q + 1; omega, by show q + 1 ≤ 1000; omega⟩)))
        show (u.set _ _).length ≤ 8
        rw [List.length_set]
        omega
      · refine Ev_negP e1 ?_
        have w : wrap64 ((u.length : Int) - 1) = ((m - 1 : Nat) : Int) := by
          rw [wrap_of _ (by omega) (by omega)]
          omega
        rw [w]
        have rm : (rd_L1 u ((m - 1 : Nat) : Int)).length = m := hu.2 (m - 1) (by omega)
        refine Ev_posP (by omega) (Ev_posP (by omega) (Ev_posP (by omega) ?_))
        obtain ⟨v2, hv2, _⟩ := pick_ev hb hl (show 0 ≤ q + 1 by omega) (by omega) 2
        refine Ev_bindP hv2 (Ev_retP ⟨?_, by show 0 ≤ q + 1 + 1; omega, by show q + 1 + 1 ≤ 1000; omega⟩)
        show (u.set _ _).length ≤ 8
        rw [List.length_set]
        omega
theorem lo_l2end (hb : Bytes b) (hl : b.length ≤ 2000) {m : Nat} (h1 : 1 ≤ m) (h8 : m ≤ 6) {u : List (List Int)} (hu : Sqr m u) {p : Int} (p0 : 0 ≤ p) (p1 : p ≤ 800) (n : Int) :
    ∃ r, Ev (fun k => spec_l20Order.l2 k n m u m b p) r ∧ Fine r := by
  refine Ev_stepP (fun k => spec_l20Order.l2.eq_2 ..) ?_
  refine Ev_negP (by omega) ?_
  obtain ⟨v, hv, v0, v1⟩ := pick_ev hb hl p0 (by omega) 5
  refine Ev_bindP hv ?_
  by_cases e : v = 0
  · refine Ev_posP e ?_
    obtain ⟨t, ht, t0, t1⟩ := pick_ev hb hl (show 0 ≤ p + 1 by omega) (by omega) 4
    refine Ev_bindP ht ?_
    obtain ⟨t, rfl⟩ := Int.eq_ofNat_of_zero_le t0
    have t3 : t ≤ 3 := by have := t1 (by omega); omega
    refine Ev_bindP (sets20_ev t3) ?_
    have hp := two_pow_le t3
    exact lo_j5 hb hl hp.1 hp.2 sqr_sets (by omega) (by omega) n
  · exact Ev_negP e (lo_j5 hb hl h1 (by omega) hu (by omega) (by omega) n)
theorem lo_l4 {m : Nat} (h6 : m ≤ 6) {i a : Nat} (hi : i < m) (ha : a < m) {n p : Int} {P : List (List Int) × Int → Prop}
    (H : ∀ u, Sqr m u → ∃ r, Ev (fun k => spec_l20Order.l3 k n m u i ((a + 1 : Nat) : Int) b p) r ∧ P r) (c : Nat) (hc : c ≤ m) :
    ∀ u, Sqr m u → ∃ r, Ev (fun k => spec_l20Order.l4 k n m u i a c b p) r ∧ P r := by
  refine down m (fun c => ∀ u, Sqr m u → ∃ r, Ev (fun k => spec_l20Order.l4 k n m u i a c b p) r ∧ P r) ?_ ?_ c hc
  · intro u hu
    refine Ev_stepP (fun k => spec_l20Order.l4.eq_2 ..) ?_
    refine Ev_negP (by omega) ?_
    rw [wrap_succ a (by omega)]
    exact H u hu
  · intro c hc ih u hu
    have hu1 := hu.1
    have r1 : (rd_L1 u (a : Int)).length = m := hu.2 a ha
    have r2 : (rd_L1 u (i : Int)).length = m := hu.2 i hi
    refine Ev_stepP (fun k => spec_l20Order.l4.eq_2 ..) ?_
    repeat (refine Ev_posP (by omega) ?_)
    rw [wrap_succ c (by omega)]
    by_cases k1 : rdN u a i = 1
    · refine Ev_posP k1 ?_
      repeat (refine Ev_posP (by omega) ?_)
      by_cases k2 : rdN u i c = 1
      · refine Ev_posP k2 ?_
        repeat (refine Ev_posP (by omega) ?_)
        exact ih _ (hu.set a c 1)
      · exact Ev_negP k2 (ih u hu)
    · exact Ev_negP k1 (ih u hu)
theorem lo_l3 {m : Nat} (h6 : m ≤ 6) {i : Nat} (hi : i < m) {n p : Int} {P : List (List Int) × Int → Prop}
    (H : ∀ u, Sqr m u → ∃ r, Ev (fun k => spec_l20Order.l2 k n m u ((i + 1 : Nat) : Int) b p) r ∧ P r) (a : Nat) (ha : a ≤ m) :
    ∀ u, Sqr m u → ∃ r, Ev (fun k => spec_l20Order.l3 k n m u i a b p) r ∧ P r := by
  refine down m (fun a => ∀ u, Sqr m u → ∃ r, Ev (fun k => spec_l20Order.l3 k n m u i a b p) r ∧ P r) ?_ ?_ a ha
  · intro u hu
    refine Ev_stepP (fun k => spec_l20Order.l3.eq_2 ..) ?_
    refine Ev_negP (by omega) ?_
    rw [wrap_succ i (by omega)]
    exact H u hu
  · intro a ha ih u hu
    refine Ev_stepP (fun k => spec_l20Order.l3.eq_2 ..) ?_
    refine Ev_posP (by omega) ?_
    exact lo_l4 h6 hi ha ih 0 (Nat.zero_le _) u hu
theorem lo_l2 (hb : Bytes b) (hl : b.length ≤ 2000) {m : Nat} (h1 : 1 ≤ m) (h6 : m ≤ 6) {p : Int} (p0 : 0 ≤ p) (p1 : p ≤ 800) (n : Int) (i : Nat) (hi : i ≤ m) :
    ∀ u, Sqr m u → ∃ r, Ev (fun k => spec_l20Order.l2 k n m u i b p) r ∧ Fine r := by
  refine down m (fun i => ∀ u, Sqr m u → ∃ r, Ev (fun k => spec_l20Order.l2 k n m u i b p) r ∧ Fine r) ?_ ?_ i hi
  · exact fun u hu => lo_l2end hb hl h1 h6 hu p0 p1 n
  · intro i hi ih u hu
    refine Ev_stepP (fun k => spec_l20Order.l2.eq_2 ..) ?_
    refine Ev_posP (by omega) ?_
    exact lo_l3 h6 hi ih 0 (Nat.zero_le _) u hu
/-- so many rows of m each -/
def Rows_ (m a : Nat) (u : List (List Int)) : Prop := u.length = a ∧ ∀ c, c < a → (u.getD c []).length = m
theorem Rows_.snoc {m a : Nat} {u : List (List Int)} (h : Rows_ m a u) {row : List Int} (hr : row.length = m) : Rows_ m (a + 1) (u ++ [row]) := by
  refine ⟨by simp [h.1], fun c hc => ?_⟩
  by_cases e : c = a
  · subst e
    rw [List.getD_eq_getElem?_getD, List.getElem?_append_right (by rw [h.1]; omega), h.1]
    simpa using hr
  · rw [List.getD_eq_getElem?_getD, List.getElem?_append_left (by rw [h.1]; omega), ← List.getD_eq_getElem?_getD]
    exact h.2 c (by omega)
theorem lo_l1 (hb : Bytes b) (hl : b.length ≤ 2000) {m : Nat} (h6 : m ≤ 6) {a : Nat} (ha : a < m) {n : Int} {u : List (List Int)} (hu : Rows_ m a u) {P : List (List Int) × Int → Prop} {B : Int} (hB : 0 ≤ B ∧ B ≤ 500)
    (H : ∀ row p, row.length = m → 0 ≤ p → p ≤ B + 3 * m → ∃ r, Ev (fun k => spec_l20Order.l0 k n m (u ++ [row]) ((a + 1 : Nat) : Int) b p) r ∧ P r) (c : Nat) (hc : c ≤ m) :
    ∀ row p, row.length = m → 0 ≤ p → p ≤ B + 3 * c → ∃ r, Ev (fun k => spec_l20Order.l1 k n m u a row c b p) r ∧ P r := by
  refine down m (fun c => ∀ (row : List Int) (p : Int), row.length = m → 0 ≤ p → p ≤ B + 3 * c → ∃ r, Ev (fun k => spec_l20Order.l1 k n m u a row c b p) r ∧ P r) ?_ ?_ c hc
  · intro row p hr p0 p1
    refine Ev_stepP (fun k => spec_l20Order.l1.eq_2 ..) ?_
    have := hu.1
    refine Ev_negP (by omega) (Ev_posP (by omega) ?_)
    rw [wrap_succ a (by omega)]
    exact H row p hr p0 p1
  · intro c hc ih row p hr p0 p1
    refine Ev_stepP (fun k => spec_l20Order.l1.eq_2 ..) ?_
    refine Ev_posP (by omega) ?_
    obtain ⟨v, hv, _⟩ := pick_ev hb hl p0 (by omega) 2
    refine Ev_bindP hv ?_
    repeat (refine Ev_posP (by omega) ?_)
    refine Ev_bindP (Ev.now _) ?_
    rw [wrap_succ c (by omega)]
    have hset : ∀ (x y : Int), (((row.set (c : Int).toNat x)).set (c : Int).toNat y).length = m := fun x y => by rw [List.length_set, List.length_set]; exact hr
    have hset1 : ∀ x : Int, (row.set (c : Int).toNat x).length = m := fun x => by rw [List.length_set]; exact hr
    have last : ∀ q : Int, 0 ≤ q → q ≤ B + 3 * c + 2 → ∃ r, Ev (fun k => if (c : Int) = wrap64 ((m : Int) - 1) then ((spec_l20Rd_pick.f k b q 3).bind fun bt => (if bt.1 > 0 then (spec_l20Order.l1 k n m u a ((row.set (c : Int).toNat v).set (c : Int).toNat 1) ((c + 1 : Nat) : Int) b bt.2) else (spec_l20Order.l1 k n m u a (row.set (c : Int).toNat v) ((c + 1 : Nat) : Int) b bt.2))) else (spec_l20Order.l1 k n m u a (row.set (c : Int).toNat v) ((c + 1 : Nat) : Int) b q)) r ∧ P r := by
      intro q q0 q1
      by_cases e : (c : Int) = wrap64 ((m : Int) - 1)
      · refine Ev_posP e ?_
        obtain ⟨v3, hv3, _⟩ := pick_ev hb hl q0 (by omega) 3
        refine Ev_bindP hv3 ?_
        by_cases e3 : v3 > 0
        · exact Ev_posP e3 (ih _ _ (hset v 1) (by omega) (by omega))
        · exact Ev_negP e3 (ih _ _ (hset1 v) (by omega) (by omega))
      · exact Ev_negP e (ih _ _ (hset1 v) (by omega) (by omega))
    by_cases ea : (a : Int) = 0
    · refine Ev_posP ea ?_
      obtain ⟨v2, hv2, _⟩ := pick_ev hb hl (show 0 ≤ p + 1 by omega) (by omega) 3
      refine Ev_bindP hv2 ?_
      by_cases e2 : v2 > 0
      · exact Ev_posP e2 (ih _ _ (hset v 1) (by omega) (by omega))
      · exact Ev_negP e2 (last (p + 1 + 1) (by omega) (by omega))
    · exact Ev_negP ea (last (p + 1) (by omega) (by omega))
theorem lo_l0 (hb : Bytes b) (hl : b.length ≤ 2000) {m : Nat} (h1 : 1 ≤ m) (h6 : m ≤ 6) (n : Int) {B : Int} (hB : 0 ≤ B ∧ B ≤ 100) (a : Nat) (ha : a ≤ m) :
    ∀ u p, Rows_ m a u → 0 ≤ p → p ≤ B + 20 * a → ∃ r, Ev (fun k => spec_l20Order.l0 k n m u a b p) r ∧ Fine r := by
  refine down m (fun a => ∀ (u : List (List Int)) (p : Int), Rows_ m a u → 0 ≤ p → p ≤ B + 20 * a → ∃ r, Ev (fun k => spec_l20Order.l0 k n m u a b p) r ∧ Fine r) ?_ ?_ a ha
  · intro u p hu p0 p1
    refine Ev_stepP (fun k => spec_l20Order.l0.eq_2 ..) ?_
    refine Ev_negP (by omega) ?_
    exact lo_l2 hb hl h1 h6 p0 (by omega) n 0 (Nat.zero_le _) u hu
  · intro a ha ih u p hu p0 p1
    refine Ev_stepP (fun k => spec_l20Order.l0.eq_2 ..) ?_
    repeat (refine Ev_posP (by omega) ?_)
    refine Ev_bindP (Ev.now _) ?_
    have hr : (List.replicate (m : Int).toNat (0 : Int)).length = m := by simp
    refine Ev_posP (by omega) (Ev_posP (by rw [hr]; omega) ?_)
    rw [wrap_succ a (by omega)]
    refine lo_l1 hb hl h6 ha hu (B := B + 20 * a) (by omega) (fun row q hrow q0 q1 => ih _ _ (hu.snoc hrow) q0 (by omega)) (a + 1) (by omega) _ _ ?_ p0 (by omega)
    rw [List.length_set]
    exact hr
theorem order20_ev (hb : Bytes b) (hl : b.length ≤ 2000) {p : Int} (p0 : 0 ≤ p) (p1 : p ≤ 50) (n : Int) : ∃ r, Ev (fun k => spec_l20Order.f k b p n) r ∧ Fine r := by
  unfold spec_l20Order.f
  obtain ⟨v, hv, v0, v1⟩ := pick_ev hb hl p0 (by omega) 6
  refine Ev_bindP hv ?_
  obtain ⟨t, rfl⟩ := Int.eq_ofNat_of_zero_le v0
  have t6 := v1 (by omega)
  have w : wrap64 (1 + (t : Int)) = ((t + 1 : Nat) : Int) := by
    rw [wrap_of _ (by omega) (by omega)]
    omega
  rw [w]
  exact lo_l0 hb hl (by omega) (by omega) n (B := p + 1) (by omega) 0 (Nat.zero_le _) [] (p + 1) ⟨rfl, fun c hc => by omega⟩ (by omega) (by omega)
end
theorem pair20_ev {b : List Int} (hb : Bytes b) (hl : b.length ≤ 2000) : ∃ r, Ev (fun k => spec_l20Pair.f k b 0) r ∧ r.1.length ≤ 8 := by
  unfold spec_l20Pair.f
  obtain ⟨⟨u, q⟩, hr, h8, q0, q1⟩ := order20_ev hb hl (show (0 : Int) ≤ 0 by omega) (by omega) 14
  simp only at h8 q0 q1
  refine Ev_bindP hr ?_
  obtain ⟨v1, h1, _⟩ := pick_ev hb hl q0 (by omega) (mx (u.length : Int) 1)
  refine Ev_bindP h1 ?_
  obtain ⟨v2, h2, _⟩ := pick_ev hb hl (show 0 ≤ q + 1 by omega) (by omega) 30
  refine Ev_bindP h2 ?_
  obtain ⟨v3, h3, _⟩ := pick_ev hb hl (show 0 ≤ q + 1 + 1 by omega) (by omega) (mx (u.length : Int) 1)
  refine Ev_bindP h3 ?_
  obtain ⟨v4, h4, _⟩ := pick_ev hb hl (show 0 ≤ q + 1 + 1 + 1 by omega) (by omega) 30
  refine Ev_bindP h4 ?_
  exact Ev_retP h8
end Go.Proofs.Ytilgbnbeonlbnaa.Q

/-
  The statements' own helpers: sizes, copies, comparisons; 'alive'.
-/
namespace Go.Proofs.Ytilgbnbeonlbnaa.Q
open Go.RowKit Go.Proofs.YtilgbnbeonlbnaaW.PrintWords Go.Proofs.YtilgbnbeonlbnaaW.PrintLast Go.Proofs.YtilgbnbeonlbnaaW.PrintMore Go.Proofs.Ytilgbnbeonlbnaa.P Go.Proofs.Cl
set_option linter.unusedVariables false

theorem alive_ev : Ev (fun k => laws_alive.f k) true := by
  unfold laws_alive.f
  refine Ev.bind (impl_ord _) ?_
  refine Ev.tt (by decide) ?_
  refine Ev.bind (impl_ord _) ?_
  exact Ev.ret (by decide)
theorem rd_lt (xs : List Int) {i : Nat} (h : i < xs.length) : rd xs (i : Int) = xs[i] := by
  rw [rd_nat, List.getD_eq_getElem?_getD, List.getElem?_eq_getElem h, Option.getD_some]
theorem row_lt (u : List (List Int)) {i : Nat} (h : i < u.length) : rd_L1 u (i : Int) = u[i] := by
  rw [row_nat, List.getD_eq_getElem?_getD, List.getElem?_eq_getElem h, Option.getD_some]
theorem wrap_succ' (i : Nat) (h : i < 9223372036854775807) : wrap64 ((i : Int) + 1) = ((i + 1 : Nat) : Int) := by
  rw [wrap_of _ (by omega) (by omega)]
  omega
theorem toIntS_ev (xs : List Int) (h : xs.length ≤ 35184372088832) : Ev (fun k => laws_toIntS.f k xs) xs := by
  unfold laws_toIntS.f
  refine Ev.pos (by omega) (Ev.pos (by omega) ?_)
  have key : ∀ i, i ≤ xs.length → Ev (fun k => laws_toIntS.l0 k xs (xs.take i ++ List.replicate (xs.length - i) 0) i) xs := by
    intro i hi
    refine down xs.length (fun i => Ev (fun k => laws_toIntS.l0 k xs (xs.take i ++ List.replicate (xs.length - i) 0) i) xs) ?_ ?_ i hi
    · refine Ev.step (fun k => laws_toIntS.l0.eq_2 ..) ?_
      exact Ev.neg (by omega) (Ev.ret (by simp))
    · intro i hi ih
      refine Ev.step (fun k => laws_toIntS.l0.eq_2 ..) ?_
      refine Ev.pos (by omega) (Ev.pos (by omega) (Ev.pos (by simp; omega) ?_))
      rw [wrap_succ' i (by omega), rd_lt xs hi, show ((i : Int)).toNat = i from rfl, set_step xs 0 i hi]
      exact ih
  have := key 0 (Nat.zero_le _)
  simpa using this
theorem toIntSS_ev (u : List (List Int)) (h : u.length ≤ 11728124029610) (hr : ∀ i (k : i < u.length), u[i].length ≤ 35184372088832) : Ev (fun k => laws_toIntSS.f k u) u := by
  unfold laws_toIntSS.f
  refine Ev.pos (by omega) (Ev.pos (by omega) ?_)
  have key : ∀ i, i ≤ u.length → Ev (fun k => laws_toIntSS.l0 k u (u.take i ++ List.replicate (u.length - i) []) i) u := by
    intro i hi
    refine down u.length (fun i => Ev (fun k => laws_toIntSS.l0 k u (u.take i ++ List.replicate (u.length - i) []) i) u) ?_ ?_ i hi
    · refine Ev.step (fun k => laws_toIntSS.l0.eq_2 ..) ?_
      exact Ev.neg (by omega) (Ev.ret (by simp))
    · intro i hi ih
      refine Ev.step (fun k => laws_toIntSS.l0.eq_2 ..) ?_
      refine Ev.pos (by omega) (Ev.pos (by omega) ?_)
      rw [row_lt u hi]
      refine Ev.bind (toIntS_ev _ (hr i hi)) ?_
      refine Ev.pos (by simp; omega) ?_
      rw [wrap_succ' i (by omega), show ((i : Int)).toNat = i from rfl, set_step u [] i hi]
      exact ih
  have := key 0 (Nat.zero_le _)
  simpa using this
theorem eqIntS_ev (xs : List Int) (h : xs.length < 9223372036854775807) : Ev (fun k => laws_eqIntS.f k xs xs) true := by
  unfold laws_eqIntS.f
  refine Ev.pos rfl ?_
  refine down xs.length (fun i => Ev (fun k => laws_eqIntS.l0 k xs xs i) true) ?_ ?_ 0 (Nat.zero_le _)
  · refine Ev.step (fun k => laws_eqIntS.l0.eq_2 ..) ?_
    exact Ev.neg (by omega) (Ev.ret rfl)
  · intro i hi ih
    refine Ev.step (fun k => laws_eqIntS.l0.eq_2 ..) ?_
    refine Ev.pos (by omega) (Ev.pos (by omega) (Ev.pos (by omega) (Ev.pos rfl ?_)))
    rw [wrap_succ' i (by omega)]
    exact ih
theorem eqIntSS_ev (u : List (List Int)) (h : u.length < 9223372036854775807) (hr : ∀ i (k : i < u.length), u[i].length < 9223372036854775807) : Ev (fun k => laws_eqIntSS.f k u u) true := by
  unfold laws_eqIntSS.f
  refine Ev.pos rfl ?_
  refine down u.length (fun i => Ev (fun k => laws_eqIntSS.l0 k u u i) true) ?_ ?_ 0 (Nat.zero_le _)
  · refine Ev.step (fun k => laws_eqIntSS.l0.eq_2 ..) ?_
    exact Ev.neg (by omega) (Ev.ret rfl)
  · intro i hi ih
    refine Ev.step (fun k => laws_eqIntSS.l0.eq_2 ..) ?_
    refine Ev.pos (by omega) (Ev.pos (by omega) (Ev.pos (by omega) ?_))
    rw [row_lt u hi]
    refine Ev.bind (eqIntS_ev _ (hr i hi)) (Ev.pos rfl ?_)
    rw [wrap_succ' i (by omega)]
    exact ih
theorem szIntS_eq (xs : List Int) (a : Int) (h0 : 0 ≤ a) (h1 : a ≤ 1048576) (hx : xs.length ≤ 9223372036854775807) : laws_szIntS.f xs a = some (if a - xs.length < 0 then -1 else a - xs.length) := by
  unfold laws_szIntS.f
  rw [wrap_of _ (by omega) (by omega)]
  by_cases h : a - xs.length < 0
  · rw [if_pos h, if_pos h]
  · rw [if_neg h, if_neg h]
/-- what the size is told to be: -1, or each row is short -/
theorem szIntSS_ev (u : List (List Int)) (a : Int) (h0 : 0 ≤ a) (h1 : a ≤ 1048576) (hu : u.length ≤ 9223372036854775806) (hr : ∀ i (k : i < u.length), u[i].length ≤ 9223372036854775807) :
    ∃ r, Ev (fun k => laws_szIntSS.f k u a) r ∧ r ≤ 1048576 ∧ (0 ≤ r → u.length ≤ 1048576 ∧ ∀ i (k : i < u.length), u[i].length ≤ 1048576) := by
  unfold laws_szIntSS.f
  rw [wrap_of _ (by omega) (by omega)]
  by_cases e : a - u.length < 0
  · exact ⟨-1, Ev.pos e (Ev.ret rfl), by omega, fun h => by omega⟩
  · have key : ∀ i, i ≤ u.length → ∀ b : Int, 0 ≤ b → b ≤ 1048576 → ∃ r, Ev (fun k => laws_szIntSS.l0 k u b i) r ∧ r ≤ 1048576 ∧ (0 ≤ r → ∀ j (k : j < u.length), i ≤ j → u[j].length ≤ 1048576) := by
      intro i hi
      refine down u.length (fun i => ∀ b : Int, 0 ≤ b → b ≤ 1048576 → ∃ r, Ev (fun k => laws_szIntSS.l0 k u b i) r ∧ r ≤ 1048576 ∧ (0 ≤ r → ∀ j (k : j < u.length), i ≤ j → u[j].length ≤ 1048576)) ?_ ?_ i hi
      · intro b b0 b1
        refine ⟨b, Ev.step (fun k => laws_szIntSS.l0.eq_2 ..) (Ev.neg (by omega) (Ev.ret rfl)), b1, fun _ j hj k => by omega⟩
      · intro i hi ih b b0 b1
        have hs := szIntS_eq u[i] b b0 b1 (hr i hi)
        by_cases e2 : b - u[i].length < 0
        · rw [if_pos e2] at hs
          refine ⟨-1, Ev.step (fun k => laws_szIntSS.l0.eq_2 ..) ?_, by omega, fun h => by omega⟩
          refine Ev.pos (by omega) (Ev.pos (by omega) ?_)
          rw [row_lt u hi]
          exact Ev.bindc hs (Ev.pos (by omega) (Ev.ret rfl))
        · rw [if_neg e2] at hs
          obtain ⟨r, k1, k3, k2⟩ := ih (b - u[i].length) (by omega) (by omega)
          refine ⟨r, Ev.step (fun k => laws_szIntSS.l0.eq_2 ..) ?_, k3, fun h j hj k => ?_⟩
          · refine Ev.pos (by omega) (Ev.pos (by omega) ?_)
            rw [row_lt u hi]
            refine Ev.bindc hs (Ev.neg (by omega) ?_)
            rw [wrap_succ' i (by omega)]
            exact k1
          · by_cases e3 : j = i
            · subst e3
              omega
            · exact k2 h j hj (by omega)
    obtain ⟨r, k1, k3, k2⟩ := key 0 (Nat.zero_le _) (a - u.length) (by omega) (by omega)
    exact ⟨r, Ev.neg e k1, k3, fun h => ⟨by omega, fun i hi => k2 h i hi (Nat.zero_le _)⟩⟩
end Go.Proofs.Ytilgbnbeonlbnaa.Q

/-
  The seven statements about orders, over numbers and lists.
-/
namespace Go.Proofs.Ytilgbnbeonlbnaa.Q
open Go.RowKit Go.Proofs.YtilgbnbeonlbnaaW.PrintWords Go.Proofs.YtilgbnbeonlbnaaW.PrintLast Go.Proofs.YtilgbnbeonlbnaaW.PrintMore Go.Proofs.Ytilgbnbeonlbnaa.P Go.Proofs.Cl
set_option linter.unusedVariables false

theorem sameInts_ev (xs : List Int) (h : xs.length < 9223372036854775807) : Ev (fun k => laws_sameInts.f k xs xs) true := by
  unfold laws_sameInts.f
  refine Ev.pos rfl ?_
  refine down xs.length (fun i => Ev (fun k => laws_sameInts.l0 k xs xs i) true) ?_ ?_ 0 (Nat.zero_le _)
  · refine Ev.step (fun k => laws_sameInts.l0.eq_2 ..) ?_
    exact Ev.neg (by omega) (Ev.ret rfl)
  · intro i hi ih
    refine Ev.step (fun k => laws_sameInts.l0.eq_2 ..) ?_
    refine Ev.pos (by omega) (Ev.pos (by omega) (Ev.pos (by omega) (Ev.pos rfl ?_)))
    rw [wrap_succ' i (by omega)]
    exact ih
theorem sameRows_ev (u : List (List Int)) (h : u.length < 9223372036854775807) (hr : ∀ i (k : i < u.length), u[i].length < 9223372036854775807) : Ev (fun k => laws_sameRows.f k u u) true := by
  unfold laws_sameRows.f
  refine Ev.pos rfl ?_
  refine down u.length (fun i => Ev (fun k => laws_sameRows.l0 k u u i) true) ?_ ?_ 0 (Nat.zero_le _)
  · refine Ev.step (fun k => laws_sameRows.l0.eq_2 ..) ?_
    exact Ev.neg (by omega) (Ev.ret rfl)
  · intro i hi ih
    refine Ev.step (fun k => laws_sameRows.l0.eq_2 ..) ?_
    refine Ev.pos (by omega) (Ev.pos (by omega) (Ev.pos (by omega) ?_))
    rw [row_lt u hi]
    refine Ev.bind (sameInts_ev _ (hr i hi)) (Ev.pos rfl ?_)
    rw [wrap_succ' i (by omega)]
    exact ih
theorem ord_rows {u : List (List Int)} (h : Ord u) : ∀ i (k : i < u.length), u[i].length < 9223372036854775807 := by
  intro i k
  have := h.row k
  rw [List.getD_eq_getElem?_getD, List.getElem?_eq_getElem k, Option.getD_some] at this
  have := h.le12
  omega
theorem sameTurn_ev (u : List (List Int)) : Ev (fun k => laws_sameRows.f k (turnOf u) (turnOf u)) true := by
  unfold turnOf
  by_cases h : Ord u
  · rw [if_pos h]
    have := (turn_ord h).le12
    exact sameRows_ev _ (by omega) (ord_rows (turn_ord h))
  · rw [if_neg h]
    exact sameRows_ev _ (by simp) (fun i k => by simp at k)
theorem draw_ev {code : List Int} (h : Bytes code) (n : Int) : ∃ u : List (List Int), Ev (fun k => (spec_l20Open.f code).bind fun bt => ((spec_l20Order.f k bt.1 bt.2 n).bind fun bt2 => (some bt2.1))) u ∧ u.length ≤ 8 := by
  obtain ⟨b, e, hb, hl⟩ := open_eq h
  obtain ⟨r, hr, h8, _, _⟩ := order20_ev hb hl (show (0 : Int) ≤ 0 by omega) (by omega) n
  exact ⟨r.1, Ev.bindc e (Ev.bind hr (Ev.ret rfl)), h8⟩
theorem drawPair_ev {code : List Int} (h : Bytes code) : ∃ r : List (List Int) × Int × Int, Ev (fun k => (spec_l20Open.f code).bind fun bt => ((spec_l20Pair.f k bt.1 bt.2).bind fun bt2 => (some (bt2.1, bt2.2.1, bt2.2.2.1)))) r ∧ r.1.length ≤ 8 := by
  obtain ⟨b, e, hb, hl⟩ := open_eq h
  obtain ⟨r, hr, h8⟩ := pair20_ev hb hl
  exact ⟨_, Ev.bindc e (Ev.bind hr (Ev.ret rfl)), h8⟩
theorem meetOfP_tt {u : List (List Int)} {a b : Int} (h : (meetOfP u a b).2 = true) : Ord u ∧ ∃ (x y c : Nat), a = x ∧ b = y ∧ x < u.length ∧ y < u.length ∧ meetOfP u a b = ((c : Int), true) ∧ IsMeet u x y c := by
  by_cases k : Ord u ∧ (0 ≤ a ∧ a < u.length) ∧ (0 ≤ b ∧ b < u.length)
  · obtain ⟨o, ha, hb⟩ := k
    obtain ⟨a, rfl, ha'⟩ := nat_of ha
    obtain ⟨b, rfl, hb'⟩ := nat_of hb
    rw [meetOfP_nat o ha' hb'] at h ⊢
    rcases meetI_cases u a b with ⟨e, _⟩ | ⟨c, e, hc⟩
    · rw [e] at h
      exact absurd h (by decide)
    · exact ⟨o, a, b, c, rfl, rfl, ha', hb', by rw [e]; simp, hc⟩
  · rw [meetOfP_no k] at h
    exact absurd h (by decide)
theorem meetOfP_ff {u : List (List Int)} {a b : Int} (h : (meetOfP u a b).2 = false) : meetOfP u a b = (-1, false) := by
  by_cases k : Ord u ∧ (0 ≤ a ∧ a < u.length) ∧ (0 ≤ b ∧ b < u.length)
  · obtain ⟨o, ha, hb⟩ := k
    obtain ⟨a, rfl, ha'⟩ := nat_of ha
    obtain ⟨b, rfl, hb'⟩ := nat_of hb
    rw [meetOfP_nat o ha' hb'] at h ⊢
    rcases meetI_cases u a b with ⟨e, _⟩ | ⟨c, e, hc⟩
    · rw [e]; rfl
    · rw [e] at h
      simp at h
  · exact meetOfP_no k
theorem joinOfP_tt {u : List (List Int)} {a b : Int} (h : (joinOfP u a b).2 = true) : Ord u ∧ ∃ (x y c : Nat), a = x ∧ b = y ∧ x < u.length ∧ y < u.length ∧ joinOfP u a b = ((c : Int), true) ∧ IsJoin u x y c := by
  by_cases k : Ord u ∧ (0 ≤ a ∧ a < u.length) ∧ (0 ≤ b ∧ b < u.length)
  · obtain ⟨o, ha, hb⟩ := k
    obtain ⟨a, rfl, ha'⟩ := nat_of ha
    obtain ⟨b, rfl, hb'⟩ := nat_of hb
    rw [joinOfP_nat o ha' hb'] at h ⊢
    rcases joinI_cases u a b with ⟨e, _⟩ | ⟨c, e, hc⟩
    · rw [e] at h
      exact absurd h (by decide)
    · exact ⟨o, a, b, c, rfl, rfl, ha', hb', by rw [e]; simp, hc⟩
  · rw [joinOfP_no k] at h
    exact absurd h (by decide)
theorem joinOfP_ff {u : List (List Int)} {a b : Int} (h : (joinOfP u a b).2 = false) : joinOfP u a b = (-1, false) := by
  by_cases k : Ord u ∧ (0 ≤ a ∧ a < u.length) ∧ (0 ≤ b ∧ b < u.length)
  · obtain ⟨o, ha, hb⟩ := k
    obtain ⟨a, rfl, ha'⟩ := nat_of ha
    obtain ⟨b, rfl, hb'⟩ := nat_of hb
    rw [joinOfP_nat o ha' hb'] at h ⊢
    rcases joinI_cases u a b with ⟨e, _⟩ | ⟨c, e, hc⟩
    · rw [e]; rfl
    · rw [e] at h
      simp at h
  · exact joinOfP_no k
theorem meetOfP_of {u : List (List Int)} (h : Ord u) {a b c : Nat} (ha : a < u.length) (hb : b < u.length) (hc : IsMeet u a b c) : meetOfP u a b = ((c : Int), true) := by
  rw [meetOfP_nat h ha hb, meetI_of h hc]
  simp
theorem joinOfP_of {u : List (List Int)} (h : Ord u) {a b c : Nat} (ha : a < u.length) (hb : b < u.length) (hc : IsJoin u a b c) : joinOfP u a b = ((c : Int), true) := by
  rw [joinOfP_nat h ha hb, joinI_of h hc]
  simp

theorem FnOrderOk_pure : laws_FnOrderOk.Pure := by
  intro code _ _ hw
  refine Ev.rounds ?_
  unfold laws_FnOrderOk.f
  by_cases hl : (code.length : Int) > 1048576
  · exact Ev.pos hl (Ev.ret rfl)
  · refine Ev.neg hl ?_
    obtain ⟨u, hu, _⟩ := draw_ev (bytes_of_wf hw) 2
    refine Ev.bind hu (Ev.bind (impl_ord u) (Ev.bind (spec_ord u) ?_))
    refine Ev.ff (by simp) ?_
    refine Ev.bind (impl_ord _) (Ev.tt (by decide) ?_)
    by_cases h : Ord u
    · refine Ev.tt (decide_eq_true h) ?_
      refine Ev.bind (impl_turnedOf_ev u) (Ev.bind (impl_ord _) (Ev.tt ?_ ?_))
      · rw [turnOf, if_pos h]
        exact decide_eq_true (turn_ord h)
      · exact Ev.bind alive_ev (Ev.ret rfl)
    · exact Ev.ff (decide_eq_false h) (Ev.bind alive_ev (Ev.ret rfl))
theorem FnTurnedOf_pure : laws_FnTurnedOf.Pure := by
  intro code _ _ hw
  refine Ev.rounds ?_
  unfold laws_FnTurnedOf.f
  by_cases hl : (code.length : Int) > 1048576
  · exact Ev.pos hl (Ev.ret rfl)
  · refine Ev.neg hl ?_
    obtain ⟨u, hu, _⟩ := draw_ev (bytes_of_wf hw) 9
    refine Ev.bind hu (Ev.bind (impl_turnedOf_ev u) (Ev.bind (spec_turnedOf_ev u) (Ev.bind (sameTurn_ev u) (Ev.pos rfl ?_))))
    by_cases h : Ord u
    · have e : turnOf u = turn u := by rw [turnOf, if_pos h]
      have := h.pos
      refine Ev.neg (by rw [e, turn_len]; omega) ?_
      rw [e]
      refine Ev.bind (impl_ord _) (Ev.tt (decide_eq_true (turn_ord h)) ?_)
      refine Ev.bind (impl_turnedOf_ev _) ?_
      have e2 : turnOf (turn u) = u := by rw [turnOf, if_pos (turn_ord h), turn_turn h]
      rw [e2]
      have := h.le12
      exact Ev.bind (sameRows_ev u (by omega) (ord_rows h)) (Ev.ret rfl)
    · have e : turnOf u = [] := by rw [turnOf, if_neg h]
      refine Ev.pos (by rw [e]; rfl) ?_
      exact Ev.bind (impl_ord u) (Ev.ff (decide_eq_false h) (Ev.bind alive_ev (Ev.ret rfl)))
theorem FnMeetOf_pure : laws_FnMeetOf.Pure := by
  intro code _ _ hw
  refine Ev.rounds ?_
  unfold laws_FnMeetOf.f
  by_cases hl : (code.length : Int) > 1048576
  · exact Ev.pos hl (Ev.ret rfl)
  · refine Ev.neg hl ?_
    obtain ⟨⟨u, a, b⟩, hu, _⟩ := drawPair_ev (bytes_of_wf hw)
    refine Ev.bind hu (Ev.bind (impl_meetOf_ev u a b) (Ev.bind (spec_meetOf_ev u a b) (Ev.pos rfl ?_)))
    refine Ev.step (fun k => laws_FnMeetOf.j0.eq_2 ..) (Ev.ff (by simp) ?_)
    cases ho : (meetOfP u a b).2 with
    | false =>
      rw [meetOfP_ff ho]
      exact Ev.neg Bool.false_ne_true (Ev.pos rfl (Ev.bind alive_ev (Ev.ret rfl)))
    | true =>
      obtain ⟨o, x, y, c, rfl, rfl, hx, hy, e, hc⟩ := meetOfP_tt ho
      rw [e]
      refine Ev.pos rfl ?_
      have hn := o.le12
      have rc := row_len o hc.1
      refine down u.length (fun i => Ev (fun k => laws_FnMeetOf.l0 k u x y c i) true) ?_ ?_ 0 (Nat.zero_le _)
      · refine Ev.step (fun k => laws_FnMeetOf.l0.eq_2 ..) (Ev.neg (by omega) ?_)
        refine Ev.bind (impl_meetOf_ev u y x) (Ev.bind (impl_meetOf_ev u x x) ?_)
        rw [meetOfP_of o hy hx hc.comm, meetOfP_of o hx hx (isMeet_self o hx hx (o.refl hx))]
        have hc1 := hc.1
        repeat (refine Ev.pos (by omega) ?_)
        refine Ev.pos hc.2.1 ?_
        repeat (refine Ev.pos (by omega) ?_)
        refine Ev.pos hc.2.2.1 (Ev.pos rfl (Ev.pos rfl (Ev.pos rfl (Ev.ret ?_))))
        simp
      · intro i hi ih
        have ri := row_len o hi
        refine Ev.step (fun k => laws_FnMeetOf.l0.eq_2 ..) ?_
        repeat (refine Ev.pos (by omega) ?_)
        rw [wrap_succ i (by omega)]
        have hc1 := hc.1
        by_cases k1 : rdN u i x = 1
        · refine Ev.pos k1 ?_
          repeat (refine Ev.pos (by omega) ?_)
          by_cases k2 : rdN u i y = 1
          · refine Ev.pos k2 ?_
            repeat (refine Ev.pos (by omega) ?_)
            have := hc.2.2.2 i hi k1 k2
            refine Ev.neg (fun z => ?_) ih
            rw [at_nat] at z
            omega
          · exact Ev.neg k2 ih
        · exact Ev.neg k1 ih
theorem FnJoinOf_pure : laws_FnJoinOf.Pure := by
  intro code _ _ hw
  refine Ev.rounds ?_
  unfold laws_FnJoinOf.f
  by_cases hl : (code.length : Int) > 1048576
  · exact Ev.pos hl (Ev.ret rfl)
  · refine Ev.neg hl ?_
    obtain ⟨⟨u, a, b⟩, hu, _⟩ := drawPair_ev (bytes_of_wf hw)
    refine Ev.bind hu (Ev.bind (impl_joinOf_ev u a b) (Ev.bind (spec_joinOf_ev u a b) (Ev.pos rfl ?_)))
    refine Ev.step (fun k => laws_FnJoinOf.j0.eq_2 ..) (Ev.ff (by simp) ?_)
    refine Ev.bind (impl_turnedOf_ev u) (Ev.bind (impl_meetOf_ev _ a b) ?_)
    rw [meetOf_turn]
    refine Ev.pos rfl ?_
    refine Ev.step (fun k => laws_FnJoinOf.j1.eq_2 ..) (Ev.ff (by simp) ?_)
    cases ho : (joinOfP u a b).2 with
    | false =>
      rw [joinOfP_ff ho]
      exact Ev.neg Bool.false_ne_true (Ev.pos rfl (Ev.bind alive_ev (Ev.ret rfl)))
    | true =>
      obtain ⟨o, x, y, c, rfl, rfl, hx, hy, e, hc⟩ := joinOfP_tt ho
      rw [e]
      refine Ev.pos rfl ?_
      have hn := o.le12
      have rx := row_len o hx
      have ry := row_len o hy
      have hc1 := hc.1
      dsimp only
      repeat (refine Ev.pos (by omega) ?_)
      refine Ev.pos hc.2.1 ?_
      repeat (refine Ev.pos (by omega) ?_)
      refine Ev.pos hc.2.2.1 ?_
      repeat (refine Ev.pos (by omega) ?_)
      by_cases k : rdN u x y = 0
      · exact Ev.pos k (Ev.ret rfl)
      · refine Ev.neg k (Ev.ret ?_)
        have := (isJoin_self o hx hy ((o.ne0 hx hy).1 k)).uniq o hc
        rw [this]
        simp
theorem leastOfP_tt {u : List (List Int)} (h : (leastOfP u).2 = true) : Ord u ∧ ∃ c : Nat, leastOfP u = ((c : Int), true) ∧ leastI u = c ∧ c < u.length ∧ IsLeast u c := by
  by_cases k : Ord u ∧ 0 ≤ leastI u
  · rcases leastI_cases u with ⟨e, _⟩ | ⟨c, e, hc, hl⟩
    · omega
    · refine ⟨k.1, c, ?_, e, hc, hl⟩
      rw [leastOfP, if_pos k.1, e]
      simp
  · rw [leastOfP_no k] at h
    exact absurd h (by decide)
theorem leastOfP_ff {u : List (List Int)} (h : (leastOfP u).2 = false) : leastOfP u = (-1, false) ∧ ¬ (Ord u ∧ 0 ≤ leastI u) := by
  by_cases k : Ord u ∧ 0 ≤ leastI u
  · rw [leastOfP, if_pos k.1, decide_eq_true k.2] at h
    simp at h
  · exact ⟨leastOfP_no k, k⟩
theorem FnLeastOf_pure : laws_FnLeastOf.Pure := by
  intro code _ _ hw
  refine Ev.rounds ?_
  unfold laws_FnLeastOf.f
  by_cases hl : (code.length : Int) > 1048576
  · exact Ev.pos hl (Ev.ret rfl)
  · refine Ev.neg hl ?_
    obtain ⟨u, hu, _⟩ := draw_ev (bytes_of_wf hw) 9
    refine Ev.bind hu (Ev.bind (impl_least_ev u) (Ev.bind (spec_least_ev u) (Ev.pos rfl ?_)))
    refine Ev.step (fun k => laws_FnLeastOf.j0.eq_2 ..) (Ev.ff (by simp) ?_)
    cases ho : (leastOfP u).2 with
    | false =>
      rw [(leastOfP_ff ho).1]
      exact Ev.neg Bool.false_ne_true (Ev.pos rfl (Ev.bind alive_ev (Ev.ret rfl)))
    | true =>
      obtain ⟨o, c, e, _, hc, hl⟩ := leastOfP_tt ho
      rw [e]
      refine Ev.pos rfl ?_
      have hn := o.le12
      have rc := row_len o hc
      refine down u.length (fun i => Ev (fun k => laws_FnLeastOf.l0 k u c i) true) ?_ ?_ 0 (Nat.zero_le _)
      · exact Ev.step (fun k => laws_FnLeastOf.l0.eq_2 ..) (Ev.neg (by omega) (Ev.ret rfl))
      · intro i hi ih
        refine Ev.step (fun k => laws_FnLeastOf.l0.eq_2 ..) (Ev.pos (by omega) ?_)
        refine Ev.bind (impl_meetOf_ev u c i) ?_
        rw [meetOfP_of o hc hi (isMeet_self o hc hi (hl i hi)), wrap_succ i (by omega)]
        repeat (refine Ev.pos (by omega) ?_)
        exact Ev.pos (hl i hi) (Ev.pos rfl (Ev.pos rfl ih))
theorem FnLatticeOk_pure : laws_FnLatticeOk.Pure := by
  intro code _ _ hw
  refine Ev.rounds ?_
  unfold laws_FnLatticeOk.f
  by_cases hl : (code.length : Int) > 1048576
  · exact Ev.pos hl (Ev.ret rfl)
  · refine Ev.neg hl ?_
    obtain ⟨u, hu, _⟩ := draw_ev (bytes_of_wf hw) 9
    refine Ev.bind hu (Ev.bind (impl_lat_ev u) (Ev.bind (spec_lat_ev u) (Ev.ff (by simp) ?_)))
    refine Ev.bind (impl_turnedOf_ev u) (Ev.bind (impl_lat_ev _) (Ev.ff ?_ ?_))
    · have : decide (Lat (turnOf u)) = decide (Lat u) := by
        rw [decide_eq_decide, turnOf]
        by_cases h : Ord u
        · rw [if_pos h]
          exact lat_turn h
        · rw [if_neg h]
          exact ⟨fun k => absurd k.1 not_ord_nil, fun k => absurd k.1 h⟩
      rw [this]
      simp
    · by_cases h : Lat u
      · refine Ev.tt (decide_eq_true h) ?_
        have o := h.1
        have hn := o.le12
        have et : turnOf u = turn u := by rw [turnOf, if_pos o]
        rw [et]
        obtain ⟨l, e1, hl1, _⟩ := h.least
        obtain ⟨m, e2, hm1, _⟩ := ((lat_turn o).2 h).least
        refine Ev.bind (impl_least_ev u) (Ev.bind (impl_least_ev (turn u)) ?_)
        rw [leastOfP, if_pos o, e1, leastOfP, if_pos (turn_ord o), e2]
        refine down u.length (fun i => Ev (fun k => laws_FnLatticeOk.l0 k u (decide (0 ≤ (l : Int))) (decide (0 ≤ (m : Int))) i) true) ?_ ?_ 0 (Nat.zero_le _)
        · refine Ev.step (fun k => laws_FnLatticeOk.l0.eq_2 ..) (Ev.neg (by omega) ?_)
          exact Ev.tt (decide_eq_true (by omega)) (Ev.ret (decide_eq_true (by omega)))
        · intro i hi ih
          refine Ev.step (fun k => laws_FnLatticeOk.l0.eq_2 ..) (Ev.pos (by omega) ?_)
          have w : wrap64 (wrap64 ((u.length : Int) - 1) - (i : Int)) = ((u.length - 1 - i : Nat) : Int) := by
            rw [len_pred o, wrap_of _ (by omega) (by omega)]
            omega
          rw [w]
          obtain ⟨j, _, hj⟩ := h.join hi (show u.length - 1 - i < u.length by omega)
          refine Ev.bind (impl_joinOf_ev u i _) ?_
          rw [joinOfP_of o hi (by omega) hj]
          refine Ev.bind (impl_meetOf_ev u i j) ?_
          rw [meetOfP_of o hi hj.1 (isMeet_self o hi hj.1 hj.2.1), wrap_succ i (by omega)]
          exact Ev.pos rfl (Ev.pos rfl (Ev.pos rfl ih))
      · exact Ev.ff (decide_eq_false h) (Ev.bind alive_ev (Ev.ret rfl))
theorem FnAtomsOf_pure : laws_FnAtomsOf.Pure := by
  intro code _ _ hw
  refine Ev.rounds ?_
  unfold laws_FnAtomsOf.f
  by_cases hl : (code.length : Int) > 1048576
  · exact Ev.pos hl (Ev.ret rfl)
  · refine Ev.neg hl ?_
    obtain ⟨u, hu, h8⟩ := draw_ev (bytes_of_wf hw) 9
    have hlen : (atomsL u).length ≤ 8 := by
      unfold atomsL
      split
      · rw [List.length_map]
        have := List.length_filter_le (atomB u (leastI u)) (List.range u.length)
        rw [List.length_range] at this
        omega
      · simp
    refine Ev.bind hu (Ev.bind (impl_atoms_ev u) (Ev.bind (spec_atoms_ev u) (Ev.bind (sameInts_ev _ (by omega)) (Ev.pos rfl (Ev.bind (spec_least_ev u) ?_)))))
    cases ho : (leastOfP u).2 with
    | false =>
      obtain ⟨e1, e2⟩ := leastOfP_ff ho
      rw [e1]
      refine Ev.neg Bool.false_ne_true (Ev.pos ?_ (Ev.bind alive_ev (Ev.ret rfl)))
      rw [atomsL, if_neg e2]
      rfl
    | true =>
      obtain ⟨o, c, e, el, hc, hl⟩ := leastOfP_tt ho
      rw [e]
      refine Ev.pos rfl ?_
      have hn := o.le12
      -- the atoms' pairs
      have l2 : Ev (fun k => laws_FnAtomsOf.l2 k u (atomsL u) c 1) true := by
        have key : ∀ i, 1 ≤ i → i ≤ (atomsL u).length → Ev (fun k => laws_FnAtomsOf.l2 k u (atomsL u) c i) true := by
          intro i h1 hi
          refine down (atomsL u).length (fun i => 1 ≤ i → Ev (fun k => laws_FnAtomsOf.l2 k u (atomsL u) c i) true) ?_ ?_ i hi h1
          · intro h1
            refine Ev.step (fun k => laws_FnAtomsOf.l2.eq_2 ..) (Ev.neg (by omega) ?_)
            refine Ev.bind ?_ (Ev.pos rfl (Ev.bind alive_ev (Ev.ret rfl)))
            unfold laws_ascend.f
            have asc : ∀ j, 1 ≤ j → j ≤ (atomsL u).length → Ev (fun k => laws_ascend.l0 k (atomsL u) j) true := by
              intro j k1 hj
              refine down (atomsL u).length (fun j => 1 ≤ j → Ev (fun k => laws_ascend.l0 k (atomsL u) j) true) ?_ ?_ j hj k1
              · exact fun _ => Ev.step (fun k => laws_ascend.l0.eq_2 ..) (Ev.neg (by omega) (Ev.ret rfl))
              · intro j hj ih k1
                have w : wrap64 ((j : Int) - 1) = ((j - 1 : Nat) : Int) := by
                  rw [wrap_of _ (by omega) (by omega)]
                  omega
                refine Ev.step (fun k => laws_ascend.l0.eq_2 ..) ?_
                rw [w, wrap_succ j (by omega)]
                repeat (refine Ev.pos (by omega) ?_)
                refine Ev.neg ?_ (ih (by omega))
                have := atomsL_asc o el (j - 1) j (by omega) hj
                rw [rd_nat, rd_nat]
                omega
            exact asc 1 (Nat.le_refl _) (by omega)
          · intro i hi ih h1
            have w : wrap64 ((i : Int) - 1) = ((i - 1 : Nat) : Int) := by
              rw [wrap_of _ (by omega) (by omega)]
              omega
            refine Ev.step (fun k => laws_FnAtomsOf.l2.eq_2 ..) ?_
            rw [w, wrap_succ i (by omega)]
            repeat (refine Ev.pos (by omega) ?_)
            obtain ⟨x, ex, hx, atx⟩ := atomsL_mem o el (i - 1) (by omega)
            obtain ⟨y, ey, hy, aty⟩ := atomsL_mem o el i hi
            have lt := atomsL_asc o el (i - 1) i (by omega) hi
            rw [rd_nat, rd_nat, ex, ey]
            refine Ev.bind (impl_meetOf_ev u x y) ?_
            rw [meetOfP_of o hx hy (atoms_meet o hc hl hx hy (by omega) atx aty)]
            exact Ev.pos rfl (Ev.pos rfl (ih (by omega)))
        by_cases h1 : 1 ≤ (atomsL u).length
        · exact key 1 (Nat.le_refl _) h1
        · refine Ev.step (fun k => laws_FnAtomsOf.l2.eq_2 ..) (Ev.neg (by omega) ?_)
          refine Ev.bind ?_ (Ev.pos rfl (Ev.bind alive_ev (Ev.ret rfl)))
          unfold laws_ascend.f
          exact Ev.step (fun k => laws_ascend.l0.eq_2 ..) (Ev.neg (by omega) (Ev.ret rfl))
      refine down u.length (fun i => Ev (fun k => laws_FnAtomsOf.l0 k u (atomsL u) c i) true) ?_ ?_ 0 (Nat.zero_le _)
      · exact Ev.step (fun k => laws_FnAtomsOf.l0.eq_2 ..) (Ev.neg (by omega) l2)
      · intro i hi ih
        refine Ev.step (fun k => laws_FnAtomsOf.l0.eq_2 ..) (Ev.pos (by omega) ?_)
        have key : ∀ j, j ≤ (atomsL u).length → ∀ g : Bool, (g = true ∨ ∃ q, j ≤ q ∧ q < (atomsL u).length ∧ ∃ a : Nat, (atomsL u).getD q 0 = a ∧ rdN u a i = 1) → Ev (fun k => laws_FnAtomsOf.l1 k u (atomsL u) c i g j) true := by
          intro j hj
          refine down (atomsL u).length (fun j => ∀ g : Bool, (g = true ∨ ∃ q, j ≤ q ∧ q < (atomsL u).length ∧ ∃ a : Nat, (atomsL u).getD q 0 = a ∧ rdN u a i = 1) → Ev (fun k => laws_FnAtomsOf.l1 k u (atomsL u) c i g j) true) ?_ ?_ j hj
          · intro g hg
            refine Ev.step (fun k => laws_FnAtomsOf.l1.eq_2 ..) (Ev.neg (by omega) ?_)
            rw [wrap_succ i (by omega)]
            rcases hg with rfl | ⟨q, h1, h2, _⟩
            · exact Ev.pos rfl ih
            · omega
          · intro j hj ih2 g hg
            refine Ev.step (fun k => laws_FnAtomsOf.l1.eq_2 ..) (Ev.pos (by omega) ?_)
            rw [wrap_succ j (by omega)]
            cases g with
            | true => exact Ev.pos rfl (ih2 true (.inl rfl))
            | false =>
              refine Ev.neg Bool.false_ne_true ?_
              obtain ⟨a, ea, ha, _⟩ := atomsL_mem o el j hj
              have ra := row_len o ha
              rw [rd_nat, ea]
              repeat (refine Ev.pos (by omega) ?_)
              refine ih2 _ ?_
              rcases hg with hg | ⟨q, h1, h2, b, eb, hb⟩
              · exact absurd hg (by decide)
              · by_cases e3 : q = j
                · subst e3
                  left
                  have : a = b := by omega
                  rw [this]
                  exact beq_iff_eq.2 hb
                · exact .inr ⟨q, by omega, h2, b, eb, hb⟩
        refine key 0 (Nat.zero_le _) _ ?_
        by_cases e3 : i = c
        · exact .inl (by rw [e3]; simp)
        · obtain ⟨a, ha, hat, hai⟩ := atom_exists o hc hl (belowN u i u.length).toNat i hi e3 (by omega)
          obtain ⟨q, hq, eq⟩ := atomsL_has o el ha hat
          exact .inr ⟨q, Nat.zero_le _, hq, a, eq, hai⟩
end Go.Proofs.Ytilgbnbeonlbnaa.Q

/-
  The exact statements about orders (those that hand back no rows), over numbers and lists.
-/
namespace Go.Proofs.Ytilgbnbeonlbnaa.Q
open Go.RowKit Go.Proofs.YtilgbnbeonlbnaaW.PrintWords Go.Proofs.YtilgbnbeonlbnaaW.PrintLast Go.Proofs.YtilgbnbeonlbnaaW.PrintMore Go.Proofs.Ytilgbnbeonlbnaa.P Go.Proofs.Cl
set_option linter.unusedVariables false

/-- what a slice of slices that came in keeps to -/
def InRows (u : List (List Int)) : Prop := u.length * 24 ≤ 140737488351232 ∧ ∀ i (k : i < u.length), u[i].length ≤ 9223372036854775807
/-- the size is told, and where it isn't too great, whatever follows a copy -/
theorem sized {α : Type} {u : List (List Int)} (h : InRows u) {g : Nat → Int → Option α} {r : α} (neg : ∀ x : Int, x < 0 → Ev (fun k => g k x) r)
    (pos : ∀ x : Int, ¬ x < 0 → u.length ≤ 1048576 → (∀ i (k : i < u.length), u[i].length ≤ 1048576) → Ev (fun k => g k x) r) :
    Ev (fun k => (laws_szIntSS.f k u 1048576).bind (g k)) r := by
  obtain ⟨x, hx, _, h2⟩ := szIntSS_ev u 1048576 (by omega) (by omega) (by have := h.1; omega) h.2
  refine Ev.bind hx ?_
  by_cases e : x < 0
  · exact neg x e
  · exact pos x e (h2 (by omega)).1 (h2 (by omega)).2
theorem copy_ev {u : List (List Int)} (h1 : u.length ≤ 1048576) (h2 : ∀ i (k : i < u.length), u[i].length ≤ 1048576) : Ev (fun k => laws_toIntSS.f k u) u :=
  toIntSS_ev u (by omega) (fun i k => by have := h2 i k; omega)
theorem same_ev {u : List (List Int)} (h1 : u.length ≤ 1048576) (h2 : ∀ i (k : i < u.length), u[i].length ≤ 1048576) : Ev (fun k => laws_eqIntSS.f k u u) true :=
  eqIntSS_ev u (by omega) (fun i k => by have := h2 i k; omega)
theorem FnExactOrderOk_ev {u : List (List Int)} (h : InRows u) : Ev (fun k => laws_FnExactOrderOk.f k u) true := by
  unfold laws_FnExactOrderOk.f
  refine sized h (fun x e => Ev.pos e (Ev.ret rfl)) (fun x e h1 h2 => Ev.neg e ?_)
  have c := copy_ev h1 h2
  refine Ev.bind c (Ev.bind (spec_ord u) (Ev.bind c (Ev.bind (impl_ord u) (Ev.ff (by simp) ?_))))
  exact Ev.bind c (Ev.bind (same_ev h1 h2) (Ev.pos rfl (Ev.ret rfl)))
theorem FnExactLatticeOk_ev {u : List (List Int)} (h : InRows u) : Ev (fun k => laws_FnExactLatticeOk.f k u) true := by
  unfold laws_FnExactLatticeOk.f
  refine sized h (fun x e => Ev.pos e (Ev.ret rfl)) (fun x e h1 h2 => Ev.neg e ?_)
  have c := copy_ev h1 h2
  refine Ev.bind c (Ev.bind (spec_lat_ev u) (Ev.bind c (Ev.bind (impl_lat_ev u) (Ev.ff (by simp) ?_))))
  exact Ev.bind c (Ev.bind (same_ev h1 h2) (Ev.pos rfl (Ev.ret rfl)))
theorem FnExactLeastOf_ev {u : List (List Int)} (h : InRows u) : Ev (fun k => laws_FnExactLeastOf.f k u) true := by
  unfold laws_FnExactLeastOf.f
  refine sized h (fun x e => Ev.pos e (Ev.ret rfl)) (fun x e h1 h2 => Ev.neg e ?_)
  have c := copy_ev h1 h2
  refine Ev.bind c (Ev.bind (spec_least_ev u) (Ev.bind c (Ev.bind (impl_least_ev u) (Ev.pos rfl ?_))))
  refine Ev.step (fun k => laws_FnExactLeastOf.j0.eq_2 ..) (Ev.ff (by simp) ?_)
  exact Ev.bind c (Ev.bind (same_ev h1 h2) (Ev.pos rfl (Ev.ret rfl)))
theorem FnExactMeetOf_ev {u : List (List Int)} (h : InRows u) (a b : Int) : Ev (fun k => laws_FnExactMeetOf.f k u a b) true := by
  unfold laws_FnExactMeetOf.f
  refine sized h (fun x e => Ev.pos e (Ev.ret rfl)) (fun x e h1 h2 => Ev.neg e ?_)
  have c := copy_ev h1 h2
  refine Ev.bind c (Ev.bind (spec_meetOf_ev u a b) (Ev.bind c (Ev.bind (impl_meetOf_ev u a b) (Ev.pos rfl ?_))))
  refine Ev.step (fun k => laws_FnExactMeetOf.j0.eq_2 ..) (Ev.ff (by simp) ?_)
  exact Ev.bind c (Ev.bind (same_ev h1 h2) (Ev.pos rfl (Ev.ret rfl)))
theorem FnExactJoinOf_ev {u : List (List Int)} (h : InRows u) (a b : Int) : Ev (fun k => laws_FnExactJoinOf.f k u a b) true := by
  unfold laws_FnExactJoinOf.f
  refine sized h (fun x e => Ev.pos e (Ev.ret rfl)) (fun x e h1 h2 => Ev.neg e ?_)
  have c := copy_ev h1 h2
  refine Ev.bind c (Ev.bind (spec_joinOf_ev u a b) (Ev.bind c (Ev.bind (impl_joinOf_ev u a b) (Ev.pos rfl ?_))))
  refine Ev.step (fun k => laws_FnExactJoinOf.j0.eq_2 ..) (Ev.ff (by simp) ?_)
  exact Ev.bind c (Ev.bind (same_ev h1 h2) (Ev.pos rfl (Ev.ret rfl)))
end Go.Proofs.Ytilgbnbeonlbnaa.Q

/-
  What a slice of slices of whole numbers that came in reads as, in the print's words.
-/
namespace Go.Proofs.Ytilgbnbeonlbnaa.Q
open Go.RowKit Go.ChangeShapes Go.WideShapes Go.Deep Go.Proofs.YtilgbnbeonlbnaaW.PrintWords
set_option linter.unusedVariables false

/-- the rows' places, lengths, numbers; the words of open_int_rows -/
def IsRows (W : World) (a : Option Addr) (len cap : Nat) : Prop :=
  (a = none ∧ len = 0 ∧ cap = 0) ∨ ∃ (x : Addr) (A : Nat → Option Addr) (L C : Nat → Nat) (Z : Nat → List Int), a = some x ∧ len ≤ cap ∧ cap ≤ maxLen ∧
    ∀ r, r < cap → W.cell? (x.add r) = some (.slice (A r) (L r) (C r)) ∧ L r ≤ C r ∧ C r ≤ maxLen ∧ (Z r).length = C r ∧ (A r = none → C r = 0) ∧
      ∀ a', A r = some a' → ∀ c, c < C r → W.cell? (a'.add c) = some (.int .i64 ((Z r).getD c 0))
theorem IsRows.reads {W : World} {a : Option Addr} {len cap : Nat} (h : IsRows W a len cap) (e : Nat) :
    ∃ u : List (List Int), u.length = len ∧ len ≤ cap ∧ Kd.C (Kd.slice e (Kd.int .i64)) W a u.length u ∧ ∀ i (k : i < u.length), u[i].length ≤ maxLen := by
  rcases h with ⟨rfl, rfl, rfl⟩ | ⟨x, A, L, C, Z, rfl, hl, hm, hr⟩
  · exact ⟨[], rfl, Nat.le_refl _, ⟨rfl, by simp, fun h => absurd h (Nat.lt_irrefl 0)⟩, fun i k => absurd k (by simp)⟩
  · refine ⟨(List.range len).map fun r => (Z r).take (L r), by simp, hl, ⟨rfl, ?_, fun _ => ⟨x, rfl, fun j p hj => ?_⟩⟩, fun i k => ?_⟩
    · simp only [List.length_map, List.length_range]
      exact Nat.le_trans hl (by unfold maxLen at hm; omega)
    · rw [List.getElem?_map] at hj
      have hjl : j < len := by
        rcases Nat.lt_or_ge j len with z | z
        · exact z
        · rw [List.getElem?_eq_none (by simpa using z)] at hj
          simp at hj
      rw [List.getElem?_range hjl] at hj
      have hp : (Z j).take (L j) = p := by simpa using hj
      obtain ⟨hc, h1, h2, h3, h4, h5⟩ := hr j (by omega)
      have hlen : p.length = L j := by rw [← hp, List.length_take]; omega
      refine ⟨[.slice (A j) (L j) (C j)], rfl, ⟨A j, C j, by rw [hlen], by rw [hlen]; exact h1, ?_⟩, fun i w hw => ?_⟩
      · rw [hlen]
        have hn : L j ≤ 9223372036854775807 := by unfold maxLen at h2; omega
        refine Kd.C_of_reads (d := (0 : Int)) (h1 := fun _ => rfl) ⟨hlen, hn, fun h0 => ?_⟩
        cases ha : A j with
        | none => have := h4 ha; omega
        | some a' =>
          refine ⟨a', rfl, fun c hcl => ?_⟩
          have := h5 a' ha c (by omega)
          rw [this, ← hp, List.getD_eq_getElem?_getD, List.getD_eq_getElem?_getD, List.getElem?_take_of_lt hcl]
      · cases i with
        | zero =>
          have : w = .slice (A j) (L j) (C j) := by simpa using hw.symm
          rw [this]
          simpa [Kd.slice] using hc
        | succ i => simp at hw
    · simp only [List.length_map, List.length_range] at k
      rw [List.getElem_map, List.getElem_range, List.length_take]
      obtain ⟨_, h1, h2, h3, _⟩ := hr i (by omega)
      omega
theorem rows_of {H : Type} {enc : TypeId × Value → H} {P : Program} {W : World} {base : Nat} {t e q : TypeId} {fuel : Nat} {a : Option Addr} {len cap : Nat} {x : DataW H × List MemPlace}
    (ht : P.underlying t = some (.slice e)) (he : P.underlying e = some (.slice q)) (hq : P.underlying q = some (.int .i64)) (ce : P.cellsOf e = 1) (cq : P.cellsOf q = 1)
    (h : DataW.trod enc P W base (fun _ => true) true fuel t [.slice a len cap] = some x) : IsRows W a len cap := by
  rcases open_int_rows ht he hq ce cq h with ⟨hcs, _⟩ | ⟨x, l, c, A, L, C, Z, hcs, _, hl, hm, _, hr⟩
  · simp only [List.cons.injEq, Value.slice.injEq, and_true] at hcs
    exact .inl ⟨hcs.1, hcs.2.1, hcs.2.2⟩
  · simp only [List.cons.injEq, Value.slice.injEq, and_true] at hcs
    obtain ⟨rfl, rfl, rfl⟩ := hcs
    refine .inr ⟨x, A, L, C, Z, rfl, hl, hm, fun r k => ?_⟩
    obtain ⟨h1, h2, h3, h4, _, h6, h7⟩ := hr r k
    exact ⟨h1, h2, h3, h4, h6, fun a' ha c hc => (h7 a' ha).2 c hc⟩
/-- how long a slice of slices may be -/
theorem rows_sized {H : Type} {enc : TypeId × Value → H} {P : Program} {W : World} {base : Nat} {t e q : TypeId} {a : Option Addr} {len cap : Nat} {d : DataW H} {ps : List MemPlace} {ts : List TypeId} {ds : List (DataW H)} {j : Nat}
    (hsz : (DataW.weightsEach P ts ds).all (· ≤ reachBytes) = true) (hj : ts[j]? = some t) (hd : ds[j]? = some d) (ht : P.underlying t = some (.slice e)) (he : P.underlying e = some (.slice q)) (hq : P.underlying q = some (.int .i64)) (ce : P.cellsOf e = 1) (cq : P.cellsOf q = 1)
    (hB : P.bytesOf e = 24) (h : DataW.Trod enc P W base (fun _ => true) true t (.slice a len cap) d ps) : len * 24 ≤ 140737488351232 := by
  obtain ⟨fuel, hf⟩ := h
  rcases open_int_rows ht he hq ce cq hf with ⟨hcs, _⟩ | ⟨x, l, c, A, L, C, Z, hcs, _, hl, hm, hx, hr⟩
  · simp [Value.cells] at hcs
    omega
  · simp [Value.cells] at hcs
    obtain ⟨rfl, rfl, rfl⟩ := hcs
    obtain ⟨hx, _⟩ := Prod.mk.inj hx
    subst hx
    have z := sized_slice hsz hj hd ht
    rw [hB] at z
    simp only [List.length_map, List.length_range] at z
    have z2 : len * 24 ≤ (len + (cap - len)) * 24 := Nat.mul_le_mul_right _ (by omega)
    exact Nat.le_trans z2 z
end Go.Proofs.Ytilgbnbeonlbnaa.Q
