/- 21 texts of this seat joined: walks, and the laws of what they compute. -/
import Derived.Below
import Derived.Deep.Draws
import Derived.Deep.AppendLies
import Derived.Maps.AppendAt
import Derived.OwnWalk
import Derived.Laws.BytesArg
import Derived.Laws.MakeOwn
import Derived.Laws.OwnMore
import Derived.Deep.OwnRows
import Derived.Tactics
import Derived.Lib.ConvBytes
import Derived.Laws.Slices
import Derived.WalkKit
import Derived.KernelRfl
import Derived.RowKit3
import Derived.Deep.LoopGhost
import Derived.Deep.QuietTactic
import Derived.BigQuiet
import Derived.WideLaws
import Derived.Deep.DeepCutAuto
import Derived.Deep.CutBlock
import Derived.Deep.RegionHeld3
import Derived.Laws.Rows
import Derived.Lib.AppendStr
import Derived.ArgAppend
import Derived.Laws.IdiomCopy
import Derived.OrdersHeld
import Derived.Laws.BitsLemmas
import Derived.RowKit
import Derived.Test.YtacifhahfamipaaPk1
import Derived.Test.YtacifhahfamipaaProg
namespace Go.Proofs.Cl
set_option linter.unusedVariables false

def allG (p : Nat → Bool) : Nat → Nat → Bool
  | 0, _ => true
  | d + 1, i => p i && allG p d (i + 1)
def allF (n : Nat) (p : Nat → Bool) (i : Nat) : Bool := allG p (n - i) i
theorem allF_end {n : Nat} {p : Nat → Bool} {i : Nat} (h : n ≤ i) : allF n p i = true := by
  unfold allF
  rw [show n - i = 0 by omega]
  rfl
theorem allF_step {n : Nat} {p : Nat → Bool} {i : Nat} (h : i < n) : allF n p i = (p i && allF n p (i + 1)) := by
  unfold allF
  rw [show n - i = (n - (i + 1)) + 1 by omega]
  rfl
theorem allG_iff (p : Nat → Bool) : ∀ d i, allG p d i = true ↔ ∀ c, i ≤ c → c < i + d → p c = true
  | 0, i => by simp only [allG, true_iff]; intro c h1 h2; omega
  | d + 1, i => by
    simp only [allG, Bool.and_eq_true, allG_iff p d (i + 1)]
    constructor
    · intro ⟨h1, h2⟩ c h3 h4
      by_cases e : c = i
      · rw [e]; exact h1
      · exact h2 c (by omega) (by omega)
    · intro h
      exact ⟨h i (by omega) (by omega), fun c h3 h4 => h c (by omega) (by omega)⟩
theorem allF_iff {n : Nat} {p : Nat → Bool} {i : Nat} : allF n p i = true ↔ ∀ c, i ≤ c → c < n → p c = true := by
  unfold allF
  rw [allG_iff]
  constructor
  · intro h c h1 h2
    exact h c h1 (by omega)
  · intro h c h1 h2
    exact h c h1 (by omega)
theorem allF0 {n : Nat} {p : Nat → Bool} : allF n p 0 = true ↔ ∀ c, c < n → p c = true := by
  rw [allF_iff]
  exact ⟨fun h c => h c (Nat.zero_le _), fun h c _ => h c⟩
def firstG (p : Nat → Bool) : Nat → Nat → Int
  | 0, _ => -1
  | d + 1, i => if p i = true then (i : Int) else firstG p d (i + 1)
def firstF (n : Nat) (p : Nat → Bool) (i : Nat) : Int := firstG p (n - i) i
theorem firstF_end {n : Nat} {p : Nat → Bool} {i : Nat} (h : n ≤ i) : firstF n p i = -1 := by
  unfold firstF
  rw [show n - i = 0 by omega]
  rfl
theorem firstF_step {n : Nat} {p : Nat → Bool} {i : Nat} (h : i < n) : firstF n p i = if p i = true then (i : Int) else firstF n p (i + 1) := by
  unfold firstF
  rw [show n - i = (n - (i + 1)) + 1 by omega]
  rfl
theorem down (n : Nat) (P : Nat → Prop) (hend : P n) (hstep : ∀ i, i < n → P (i + 1) → P i) (i : Nat) (hi : i ≤ n) : P i := by
  obtain ⟨d, hd⟩ : ∃ d, n - i = d := ⟨_, rfl⟩
  induction d generalizing i with
  | zero => obtain rfl : i = n := by omega
            exact hend
  | succ d ih => exact hstep i (by omega) (ih (i + 1) (by omega) (by omega))
theorem firstF_spec {n : Nat} {p : Nat → Bool} : ∀ i, i ≤ n → (firstF n p i = -1 ∧ ∀ c, i ≤ c → c < n → p c = false) ∨ (∃ c : Nat, firstF n p i = c ∧ i ≤ c ∧ c < n ∧ p c = true ∧ ∀ c', i ≤ c' → c' < c → p c' = false) := by
  intro i hi
  refine down n (fun i => (firstF n p i = -1 ∧ ∀ c, i ≤ c → c < n → p c = false) ∨ (∃ c : Nat, firstF n p i = c ∧ i ≤ c ∧ c < n ∧ p c = true ∧ ∀ c', i ≤ c' → c' < c → p c' = false)) ?_ ?_ i hi
  · exact .inl ⟨firstF_end (Nat.le_refl _), fun c h1 h2 => by omega⟩
  · intro i hi ih
    rw [firstF_step hi]
    cases hp : p i with
    | true => exact .inr ⟨i, by simp, Nat.le_refl _, hi, hp, fun c' h1 h2 => by omega⟩
    | false =>
      simp only [Bool.false_eq_true, if_false]
      rcases ih with ⟨h1, h2⟩ | ⟨c, h1, h2, h3, h4, h5⟩
      · refine .inl ⟨h1, fun c h3 h4 => ?_⟩
        by_cases e : c = i
        · rw [e]; exact hp
        · exact h2 c (by omega) h4
      · refine .inr ⟨c, h1, by omega, h3, h4, fun c' h6 h7 => ?_⟩
        by_cases e : c' = i
        · rw [e]; exact hp
        · exact h5 c' (by omega) h7

def rdN (u : List (List Int)) (a b : Nat) : Int := (u.getD a []).getD b 0
def Ord (u : List (List Int)) : Prop :=
  1 ≤ u.length ∧ u.length ≤ 12 ∧ (∀ a, a < u.length → (u.getD a []).length = u.length) ∧
  (∀ a, a < u.length → ∀ b, b < u.length → rdN u a b = 0 ∨ rdN u a b = 1) ∧
  (∀ a, a < u.length → rdN u a a = 1) ∧
  (∀ a, a < u.length → ∀ b, b < u.length → rdN u a b = 1 → rdN u b a = 1 → a = b) ∧
  (∀ a, a < u.length → ∀ b, b < u.length → ∀ c, c < u.length → rdN u a b = 1 → rdN u b c = 1 → rdN u a c = 1)
instance (u : List (List Int)) : Decidable (Ord u) := by
  have d1 : Decidable (∀ a, a < u.length → (u.getD a []).length = u.length) := inferInstance
  have d2 : Decidable (∀ a, a < u.length → ∀ b, b < u.length → rdN u a b = 0 ∨ rdN u a b = 1) := inferInstance
  have d3 : Decidable (∀ a, a < u.length → rdN u a a = 1) := inferInstance
  have d4 : Decidable (∀ a, a < u.length → ∀ b, b < u.length → rdN u a b = 1 → rdN u b a = 1 → a = b) := inferInstance
  have d5 : Decidable (∀ a, a < u.length → ∀ b, b < u.length → ∀ c, c < u.length → rdN u a b = 1 → rdN u b c = 1 → rdN u a c = 1) := inferInstance
  unfold Ord
  exact instDecidableAnd

namespace Ord
variable {u : List (List Int)} (h : Ord u)
theorem pos (h : Ord u) : 1 ≤ u.length := h.1
theorem le12 (h : Ord u) : u.length ≤ 12 := h.2.1
theorem row (h : Ord u) {a : Nat} (ha : a < u.length) : (u.getD a []).length = u.length := h.2.2.1 a ha
theorem bit (h : Ord u) {a b : Nat} (ha : a < u.length) (hb : b < u.length) : rdN u a b = 0 ∨ rdN u a b = 1 := h.2.2.2.1 a ha b hb
theorem refl (h : Ord u) {a : Nat} (ha : a < u.length) : rdN u a a = 1 := h.2.2.2.2.1 a ha
theorem anti (h : Ord u) {a b : Nat} (ha : a < u.length) (hb : b < u.length) (k : rdN u a b = 1) (l : rdN u b a = 1) : a = b := h.2.2.2.2.2.1 a ha b hb k l
theorem trans (h : Ord u) {a b c : Nat} (ha : a < u.length) (hb : b < u.length) (hc : c < u.length) (k : rdN u a b = 1) (l : rdN u b c = 1) : rdN u a c = 1 := h.2.2.2.2.2.2 a ha b hb c hc k l
theorem ne0 (h : Ord u) {a b : Nat} (ha : a < u.length) (hb : b < u.length) : rdN u a b ≠ 0 ↔ rdN u a b = 1 := by
  rcases h.bit ha hb with k | k <;> omega
theorem ne1 (h : Ord u) {a b : Nat} (ha : a < u.length) (hb : b < u.length) : rdN u a b ≠ 1 ↔ rdN u a b = 0 := by
  rcases h.bit ha hb with k | k <;> omega
end Ord

def IsMeet (u : List (List Int)) (a b c : Nat) : Prop :=
  c < u.length ∧ rdN u c a = 1 ∧ rdN u c b = 1 ∧ ∀ d, d < u.length → rdN u d a = 1 → rdN u d b = 1 → rdN u d c = 1
def IsJoin (u : List (List Int)) (a b c : Nat) : Prop :=
  c < u.length ∧ rdN u a c = 1 ∧ rdN u b c = 1 ∧ ∀ d, d < u.length → rdN u a d = 1 → rdN u b d = 1 → rdN u c d = 1
instance (u : List (List Int)) (a b c : Nat) : Decidable (IsMeet u a b c) := by unfold IsMeet; infer_instance
instance (u : List (List Int)) (a b c : Nat) : Decidable (IsJoin u a b c) := by unfold IsJoin; infer_instance
def meetI (u : List (List Int)) (a b : Nat) : Int := firstF u.length (fun c => decide (IsMeet u a b c)) 0
def joinI (u : List (List Int)) (a b : Nat) : Int := firstF u.length (fun c => decide (IsJoin u a b c)) 0
theorem IsMeet.uniq {u : List (List Int)} (h : Ord u) {a b c d : Nat} (hc : IsMeet u a b c) (hd : IsMeet u a b d) : c = d :=
  h.anti hc.1 hd.1 (hd.2.2.2 c hc.1 hc.2.1 hc.2.2.1) (hc.2.2.2 d hd.1 hd.2.1 hd.2.2.1)
theorem IsJoin.uniq {u : List (List Int)} (h : Ord u) {a b c d : Nat} (hc : IsJoin u a b c) (hd : IsJoin u a b d) : c = d :=
  h.anti hc.1 hd.1 (hc.2.2.2 d hd.1 hd.2.1 hd.2.2.1) (hd.2.2.2 c hc.1 hc.2.1 hc.2.2.1)
theorem meetI_of {u : List (List Int)} (h : Ord u) {a b c : Nat} (hc : IsMeet u a b c) : meetI u a b = c := by
  rcases firstF_spec (n := u.length) (p := fun c => decide (IsMeet u a b c)) 0 (Nat.zero_le _) with ⟨_, k⟩ | ⟨d, e, _, hd, k, _⟩
  · have := k c (Nat.zero_le _) hc.1
    simp [hc] at this
  · unfold meetI
    rw [e, (of_decide_eq_true k).uniq h hc]
theorem joinI_of {u : List (List Int)} (h : Ord u) {a b c : Nat} (hc : IsJoin u a b c) : joinI u a b = c := by
  rcases firstF_spec (n := u.length) (p := fun c => decide (IsJoin u a b c)) 0 (Nat.zero_le _) with ⟨_, k⟩ | ⟨d, e, _, hd, k, _⟩
  · have := k c (Nat.zero_le _) hc.1
    simp [hc] at this
  · unfold joinI
    rw [e, (of_decide_eq_true k).uniq h hc]
theorem meetI_cases (u : List (List Int)) (a b : Nat) : (meetI u a b = -1 ∧ ∀ c, ¬ IsMeet u a b c) ∨ ∃ c : Nat, meetI u a b = c ∧ IsMeet u a b c := by
  rcases firstF_spec (n := u.length) (p := fun c => decide (IsMeet u a b c)) 0 (Nat.zero_le _) with ⟨e, k⟩ | ⟨d, e, _, hd, k, _⟩
  · exact .inl ⟨e, fun c hc => by have := k c (Nat.zero_le _) hc.1; simp [hc] at this⟩
  · exact .inr ⟨d, e, of_decide_eq_true k⟩
theorem joinI_cases (u : List (List Int)) (a b : Nat) : (joinI u a b = -1 ∧ ∀ c, ¬ IsJoin u a b c) ∨ ∃ c : Nat, joinI u a b = c ∧ IsJoin u a b c := by
  rcases firstF_spec (n := u.length) (p := fun c => decide (IsJoin u a b c)) 0 (Nat.zero_le _) with ⟨e, k⟩ | ⟨d, e, _, hd, k, _⟩
  · exact .inl ⟨e, fun c hc => by have := k c (Nat.zero_le _) hc.1; simp [hc] at this⟩
  · exact .inr ⟨d, e, of_decide_eq_true k⟩
theorem IsMeet.comm {u : List (List Int)} {a b c : Nat} (h : IsMeet u a b c) : IsMeet u b a c := ⟨h.1, h.2.2.1, h.2.1, fun d hd k l => h.2.2.2 d hd l k⟩
theorem IsJoin.comm {u : List (List Int)} {a b c : Nat} (h : IsJoin u a b c) : IsJoin u b a c := ⟨h.1, h.2.2.1, h.2.1, fun d hd k l => h.2.2.2 d hd l k⟩
theorem meetI_comm {u : List (List Int)} (h : Ord u) (a b : Nat) : meetI u a b = meetI u b a := by
  rcases meetI_cases u b a with ⟨e, k⟩ | ⟨c, e, k⟩
  · rcases meetI_cases u a b with ⟨e', _⟩ | ⟨c, e', k'⟩
    · rw [e, e']
    · exact absurd k'.comm (k c)
  · rw [e, meetI_of h k.comm]
theorem joinI_comm {u : List (List Int)} (h : Ord u) (a b : Nat) : joinI u a b = joinI u b a := by
  rcases joinI_cases u b a with ⟨e, k⟩ | ⟨c, e, k⟩
  · rcases joinI_cases u a b with ⟨e', _⟩ | ⟨c, e', k'⟩
    · rw [e, e']
    · exact absurd k'.comm (k c)
  · rw [e, joinI_of h k.comm]
theorem isMeet_self {u : List (List Int)} (h : Ord u) {a b : Nat} (ha : a < u.length) (hb : b < u.length) (k : rdN u a b = 1) : IsMeet u a b a := ⟨ha, h.refl ha, k, fun _ _ l _ => l⟩
theorem isJoin_self {u : List (List Int)} (h : Ord u) {a b : Nat} (ha : a < u.length) (hb : b < u.length) (k : rdN u a b = 1) : IsJoin u a b b := ⟨hb, k, h.refl hb, fun _ _ _ l => l⟩

def turn (u : List (List Int)) : List (List Int) := (List.range u.length).map fun a => (List.range u.length).map fun b => rdN u b a
theorem turn_len (u : List (List Int)) : (turn u).length = u.length := by simp [turn]
theorem getD_map_range {α : Type} (f : Nat → α) (z : α) {n a : Nat} (h : a < n) : ((List.range n).map f).getD a z = f a := by
  simp [List.getD_eq_getElem?_getD, h]
theorem turn_row (u : List (List Int)) {a : Nat} (ha : a < u.length) : (turn u).getD a [] = (List.range u.length).map fun b => rdN u b a := by
  unfold turn
  rw [getD_map_range _ _ ha]
theorem turn_at (u : List (List Int)) {a b : Nat} (ha : a < u.length) (hb : b < u.length) : rdN (turn u) a b = rdN u b a := by
  unfold rdN
  rw [turn_row u ha, getD_map_range _ _ hb]
  rfl
theorem turn_ord {u : List (List Int)} (h : Ord u) : Ord (turn u) := by
  refine ⟨by rw [turn_len]; exact h.1, by rw [turn_len]; exact h.2.1, ?_, ?_, ?_, ?_, ?_⟩
  · intro a ha
    rw [turn_len] at *
    rw [turn_row u ha]
    simp
  · intro a ha b hb
    rw [turn_len] at *
    rw [turn_at u ha hb]
    exact h.bit hb ha
  · intro a ha
    rw [turn_len] at *
    rw [turn_at u ha ha]
    exact h.refl ha
  · intro a ha b hb
    rw [turn_len] at *
    rw [turn_at u ha hb, turn_at u hb ha]
    exact fun k l => h.anti ha hb l k
  · intro a ha b hb c hc
    rw [turn_len] at *
    rw [turn_at u ha hb, turn_at u hb hc, turn_at u ha hc]
    exact fun k l => h.trans hc hb ha l k
theorem isMeet_turn {u : List (List Int)} {a b c : Nat} (ha : a < u.length) (hb : b < u.length) : IsMeet (turn u) a b c ↔ IsJoin u a b c := by
  unfold IsMeet IsJoin
  rw [turn_len]
  constructor
  · intro ⟨h1, h2, h3, h4⟩
    rw [turn_at u h1 ha] at h2
    rw [turn_at u h1 hb] at h3
    refine ⟨h1, h2, h3, fun d hd k l => ?_⟩
    have := h4 d hd (by rw [turn_at u hd ha]; exact k) (by rw [turn_at u hd hb]; exact l)
    rwa [turn_at u hd h1] at this
  · intro ⟨h1, h2, h3, h4⟩
    refine ⟨h1, by rw [turn_at u h1 ha]; exact h2, by rw [turn_at u h1 hb]; exact h3, fun d hd k l => ?_⟩
    rw [turn_at u hd ha] at k
    rw [turn_at u hd hb] at l
    rw [turn_at u hd h1]
    exact h4 d hd k l
theorem firstF_congr {n : Nat} {p q : Nat → Bool} (h : ∀ c, c < n → p c = q c) (i : Nat) (hi : i ≤ n) : firstF n p i = firstF n q i := by
  refine down n (fun i => firstF n p i = firstF n q i) ?_ ?_ i hi
  · rw [firstF_end (Nat.le_refl _), firstF_end (Nat.le_refl _)]
  · intro i hi ih
    rw [firstF_step hi, firstF_step hi, h i hi, ih]
theorem meetI_turn {u : List (List Int)} {a b : Nat} (ha : a < u.length) (hb : b < u.length) : meetI (turn u) a b = joinI u a b := by
  unfold meetI joinI
  rw [turn_len]
  exact firstF_congr (fun c _ => by rw [decide_eq_decide]; exact isMeet_turn ha hb) 0 (Nat.zero_le _)

def Lat (u : List (List Int)) : Prop := Ord u ∧ ∀ a, a < u.length → ∀ b, b < u.length → 0 ≤ meetI u a b ∧ 0 ≤ joinI u a b
instance (u : List (List Int)) : Decidable (Lat u) := by unfold Lat; infer_instance
def IsLeast (u : List (List Int)) (a : Nat) : Prop := ∀ b, b < u.length → rdN u a b = 1
instance (u : List (List Int)) (a : Nat) : Decidable (IsLeast u a) := by unfold IsLeast; infer_instance
def leastI (u : List (List Int)) : Int := firstF u.length (fun a => decide (IsLeast u a)) 0
theorem leastI_cases (u : List (List Int)) : (leastI u = -1 ∧ ∀ a, a < u.length → ¬ IsLeast u a) ∨ ∃ a : Nat, leastI u = a ∧ a < u.length ∧ IsLeast u a := by
  rcases firstF_spec (n := u.length) (p := fun a => decide (IsLeast u a)) 0 (Nat.zero_le _) with ⟨e, k⟩ | ⟨d, e, _, hd, k, _⟩
  · exact .inl ⟨e, fun c hc hl => by have := k c (Nat.zero_le _) hc; simp [hl] at this⟩
  · exact .inr ⟨d, e, hd, of_decide_eq_true k⟩
theorem leastI_of {u : List (List Int)} (h : Ord u) {a : Nat} (ha : a < u.length) (hl : IsLeast u a) : leastI u = a := by
  rcases leastI_cases u with ⟨_, k⟩ | ⟨d, e, hd, k⟩
  · exact absurd hl (k a ha)
  · rw [e, h.anti hd ha (k a ha) (hl d hd)]
namespace Lat
variable {u : List (List Int)}
theorem meet (h : Lat u) {a b : Nat} (ha : a < u.length) (hb : b < u.length) : ∃ c : Nat, meetI u a b = c ∧ IsMeet u a b c := by
  rcases meetI_cases u a b with ⟨e, _⟩ | k
  · have := (h.2 a ha b hb).1
    omega
  · exact k
theorem low (h : Lat u) : ∀ m, m ≤ u.length → ∃ a, a < u.length ∧ ∀ b, b < m → rdN u a b = 1
  | 0, _ => ⟨0, h.1.pos, fun b hb => by omega⟩
  | m + 1, hm => by
    obtain ⟨a, ha, k⟩ := low h m (by omega)
    obtain ⟨c, _, hc⟩ := h.meet ha (show m < u.length by omega)
    refine ⟨c, hc.1, fun b hb => ?_⟩
    by_cases e : b = m
    · rw [e]; exact hc.2.2.1
    · exact h.1.trans hc.1 ha (by omega) hc.2.1 (k b (by omega))
theorem least (h : Lat u) : ∃ a : Nat, leastI u = a ∧ a < u.length ∧ IsLeast u a := by
  obtain ⟨a, ha, k⟩ := h.low u.length (Nat.le_refl _)
  exact ⟨a, leastI_of h.1 ha k, ha, k⟩
end Lat
def leastOfP (u : List (List Int)) : Int × Bool := if Ord u then (leastI u, decide (0 ≤ leastI u)) else (-1, false)
end Go.Proofs.Cl


-- written by gen.py (a program of this session) out of the kit's print of this seat's translation
namespace Go.Proofs.Ytacifhahfamipaa.P
open Go.RowKit Go.Proofs.YtacifhahfamipaaW.PrintWords Go.Proofs.YtacifhahfamipaaW.PrintLast Go.Proofs.YtacifhahfamipaaW.PrintMore
set_option linter.unusedVariables false
set_option linter.unusedSimpArgs false
def errW : Option Int → Value
  | none => .nilIface
  | some c => .iface 0 (.int .i64 c)
theorem errW_none : errW none = .nilIface := rfl
theorem errW_some (c : Int) : errW (some c) = .iface 0 (.int .i64 c) := rfl

def rd_L1 (xs : List (List Int)) (i : Int) : (List Int) := xs.getD i.toNat ([] : List Int)
theorem at_L1 {w : World} {A : Option Addr} {n : Nat} {xs : List (List Int)} (h : Kd.C (Kd.slice 3 (Kd.int .i64)) w A n xs) (i : Int) (h0 : 0 ≤ i) (h1 : i < n) : ∃ ad A0 c0, A = some ad ∧ w.cell? (ad.add i.toNat) = some (.slice A0 (rd_L1 xs i).length c0) ∧ (rd_L1 xs i).length ≤ c0 ∧ (Kd.int .i64).C w A0 (rd_L1 xs i).length (rd_L1 xs i) := by
  obtain ⟨ad, c, e, _, hK, hc0⟩ := Kd.C_get h ([] : List Int) i h0 h1
  have hc : ∀ j u, c[j]? = some u → w.cell? (ad.add (i.toNat * 1 + j)) = some u := hc0
  obtain ⟨A0, c0, rfl, l0, g0⟩ := hK
  exact ⟨ad, A0, c0, e, by have hq := hc 0 _ rfl; rwa [Nat.mul_one, Nat.add_zero] at hq, l0, g0⟩

def rd_L3 (xs : List (List (List Int))) (i : Int) : (List (List Int)) := xs.getD i.toNat ([] : List (List Int))
theorem at_L3 {w : World} {A : Option Addr} {n : Nat} {xs : List (List (List Int))} (h : Kd.C (Kd.slice 25 (Kd.slice 3 (Kd.int .i64))) w A n xs) (i : Int) (h0 : 0 ≤ i) (h1 : i < n) : ∃ ad A0 c0, A = some ad ∧ w.cell? (ad.add i.toNat) = some (.slice A0 (rd_L3 xs i).length c0) ∧ (rd_L3 xs i).length ≤ c0 ∧ (Kd.slice 3 (Kd.int .i64)).C w A0 (rd_L3 xs i).length (rd_L3 xs i) := by
  obtain ⟨ad, c, e, _, hK, hc0⟩ := Kd.C_get h ([] : List (List Int)) i h0 h1
  have hc : ∀ j u, c[j]? = some u → w.cell? (ad.add (i.toNat * 1 + j)) = some u := hc0
  obtain ⟨A0, c0, rfl, l0, g0⟩ := hK
  exact ⟨ad, A0, c0, e, by have hq := hc 0 _ rfl; rwa [Nat.mul_one, Nat.add_zero] at hq, l0, g0⟩

/-! #### struct type 27 -/
structure S27 where
  f0 : (List (List Int))
  f1 : (List Int)
def z27 : S27 := ⟨([] : List (List Int)), ([] : List Int)⟩
def k27 : Kd S27 := Kd.iso (Kd.pair (Kd.slice 25 (Kd.slice 3 (Kd.int .i64))) (Kd.slice 3 (Kd.int .i64))) (fun x : S27 => (x.f0, x.f1))
theorem k27_open {w : World} {x : S27} {cs : List Value} (h : k27.K w x cs) : ∃ A0 c0 A1 c1, cs = [.slice A0 x.f0.length c0, .slice A1 x.f1.length c1] ∧ x.f0.length ≤ c0 ∧ (Kd.slice 3 (Kd.int .i64)).C w A0 x.f0.length x.f0 ∧ x.f1.length ≤ c1 ∧ (Kd.int .i64).C w A1 x.f1.length x.f1 := by
  obtain ⟨_, _, rfl, ⟨A0, c0, rfl, l0, g0⟩, ⟨A1, c1, rfl, l1, g1⟩⟩ := h
  exact ⟨A0, c0, A1, c1, rfl, l0, g0, l1, g1⟩
theorem k27_openM {w : World} {base : Nat} {ok : Nat → Prop} {x : S27} {cs : List Value} (h : k27.M w base ok x cs) : ∃ v0 v1, cs = [v0, v1] ∧ (Kd.slice 3 (Kd.int .i64)).R 25 w base ok v0 x.f0 ∧ (Kd.int .i64).R 3 w base ok v1 x.f1 := by
  obtain ⟨_, _, rfl, ⟨v0, rfl, g0⟩, ⟨v1, rfl, g1⟩⟩ := h
  exact ⟨v0, v1, rfl, g0, g1⟩
theorem k27_mk (w : World) (x : S27) {A0 : Option Addr} {c0 : Nat} (l0 : x.f0.length ≤ c0) (g0 : (Kd.slice 3 (Kd.int .i64)).C w A0 x.f0.length x.f0) {A1 : Option Addr} {c1 : Nat} (l1 : x.f1.length ≤ c1) (g1 : (Kd.int .i64).C w A1 x.f1.length x.f1) : k27.K w x [.slice A0 x.f0.length c0, .slice A1 x.f1.length c1] := ⟨[.slice A0 x.f0.length c0], [.slice A1 x.f1.length c1], rfl, ⟨A0, c0, rfl, l0, g0⟩, ⟨A1, c1, rfl, l1, g1⟩⟩
theorem k27_mkM (w : World) (base : Nat) (ok : Nat → Prop) (x : S27) {v0 : Value} (g0 : (Kd.slice 3 (Kd.int .i64)).R 25 w base ok v0 x.f0) {v1 : Value} (g1 : (Kd.int .i64).R 3 w base ok v1 x.f1) : k27.M w base ok x [v0, v1] := ⟨[v0], [v1], rfl, ⟨v0, rfl, g0⟩, ⟨v1, rfl, g1⟩⟩
theorem k27_openF {W : World} {ok : Nat → Prop} {x : S27} {cs : List Value} (h : Kd.FK k27 W ok x cs) : ∃ A0 c0 A1 c1, cs = [.slice A0 x.f0.length c0, .slice A1 x.f1.length c1] ∧ x.f0.length ≤ c0 ∧ Kd.F (Kd.slice 3 (Kd.int .i64)) W ok A0 x.f0.length x.f0 ∧ x.f1.length ≤ c1 ∧ Kd.F (Kd.int .i64) W ok A1 x.f1.length x.f1 := by
  obtain ⟨A0, c0, A1, c1, rfl, l0, _, l1, _⟩ := k27_open (Kd.FK_now h)
  exact ⟨A0, c0, A1, c1, rfl, l0, (fun W' hW => by obtain ⟨A0_, c0_, A1_, c1_, he, l0_, g0_, l1_, g1_⟩ := k27_open (h W' hW); injection (Option.some.inj (show some (Value.slice A0 x.f0.length c0) = some (Value.slice A0_ x.f0.length c0_) from congrArg (fun l => l[0]?) he)) with ha_ _ _; rw [ha_]; exact g0_), l1, (fun W' hW => by obtain ⟨A0_, c0_, A1_, c1_, he, l0_, g0_, l1_, g1_⟩ := k27_open (h W' hW); injection (Option.some.inj (show some (Value.slice A1 x.f1.length c1) = some (Value.slice A1_ x.f1.length c1_) from congrArg (fun l => l[1]?) he)) with ha_ _ _; rw [ha_]; exact g1_)⟩
theorem k27_mkF (W : World) (ok : Nat → Prop) (x : S27) {A0 : Option Addr} {c0 : Nat} (l0 : x.f0.length ≤ c0) (g0 : Kd.F (Kd.slice 3 (Kd.int .i64)) W ok A0 x.f0.length x.f0) {A1 : Option Addr} {c1 : Nat} (l1 : x.f1.length ≤ c1) (g1 : Kd.F (Kd.int .i64) W ok A1 x.f1.length x.f1) : Kd.FK k27 W ok x [.slice A0 x.f0.length c0, .slice A1 x.f1.length c1] := fun W2 hW => k27_mk W2 x l0 (g0 W2 hW) l1 (g1 W2 hW)
def rd_T27 (xs : List S27) (i : Int) : S27 := xs.getD i.toNat z27
theorem at_T27 {w : World} {A : Option Addr} {n : Nat} {xs : List S27} (h : Kd.C k27 w A n xs) (i : Int) (h0 : 0 ≤ i) (h1 : i < n) : ∃ ad A0 c0 A1 c1, A = some ad ∧ w.cell? (ad.add (i.toNat * 2)) = some (.slice A0 (rd_T27 xs i).f0.length c0) ∧ w.cell? ⟨(ad.add (i.toNat * 2)).block, (ad.add (i.toNat * 2)).off + 1, none⟩ = some (.slice A1 (rd_T27 xs i).f1.length c1) ∧ (rd_T27 xs i).f0.length ≤ c0 ∧ (Kd.slice 3 (Kd.int .i64)).C w A0 (rd_T27 xs i).f0.length (rd_T27 xs i).f0 ∧ (rd_T27 xs i).f1.length ≤ c1 ∧ (Kd.int .i64).C w A1 (rd_T27 xs i).f1.length (rd_T27 xs i).f1 := by
  obtain ⟨ad, c, e, _, hK, hc0⟩ := Kd.C_get h z27 i h0 h1
  have hc : ∀ j u, c[j]? = some u → w.cell? (ad.add (i.toNat * 2 + j)) = some u := hc0
  obtain ⟨A0, c0, A1, c1, rfl, l0, g0, l1, g1⟩ := k27_open hK
  exact ⟨ad, A0, c0, A1, c1, e, hc 0 _ rfl, by rw [← add_field _ _ 1 (by omega)]; exact hc 1 _ rfl, l0, g0, l1, g1⟩

end Go.Proofs.Ytacifhahfamipaa.P

namespace Go.Proofs.Ytacifhahfamipaa.P
open Go.RowKit Go.Proofs.YtacifhahfamipaaW.PrintWords Go.Proofs.YtacifhahfamipaaW.PrintLast Go.Proofs.YtacifhahfamipaaW.PrintMore Go.Proofs.Cl
set_option linter.unusedVariables false
def mrow (u : List (List Int)) (a : Nat) : List Int := (List.range u.length).map fun b => meetI u a b
def jrow (u : List (List Int)) (a : Nat) : List Int := (List.range u.length).map fun b => joinI u a b
def mtab (u : List (List Int)) : List (List Int) := (List.range u.length).map (mrow u)
def jtab (u : List (List Int)) : List (List Int) := (List.range u.length).map (jrow u)
def OppAt (u : List (List Int)) (nt : List Int) (c : Nat) : Prop := (0 ≤ rd nt c ∧ rd nt c < u.length) ∧ rd nt (rd nt c) = c ∧ meetI u c (rd nt c).toNat = leastI u
def OppTo (u : List (List Int)) (nt : List Int) (c d : Nat) : Prop := rdN u c d = 1 → rdN u (rd nt d).toNat (rd nt c).toNat = 1
def OL (u : List (List Int)) (nt : List Int) : Prop := Lat u ∧ nt.length = u.length ∧ (∀ c, c < u.length → OppAt u nt c) ∧ (∀ c, c < u.length → ∀ d, d < u.length → OppTo u nt c d)
instance (u : List (List Int)) (nt : List Int) (c : Nat) : Decidable (OppAt u nt c) := by unfold OppAt; infer_instance
instance (u : List (List Int)) (nt : List Int) (c d : Nat) : Decidable (OppTo u nt c d) := by unfold OppTo; infer_instance
instance (u : List (List Int)) (nt : List Int) : Decidable (OL u nt) := by unfold OL; infer_instance
def okAll (n : Nat) (xs : List Int) : Bool := xs.all fun a => decide (0 ≤ a ∧ a < n)
abbrev mt (u : List (List Int)) (a b : Int) : Int := meetI u a.toNat b.toNat
abbrev jn (u : List (List Int)) (a b : Int) : Int := joinI u a.toNat b.toNat
def logicF (u : List (List Int)) (nt : List Int) : Bool := decide (OL u nt)
def noF (u : List (List Int)) (nt : List Int) : Int := if OL u nt then leastI u else -1
def yesF (u : List (List Int)) (nt : List Int) : Int := if OL u nt then rd nt (leastI u) else -1
def andF (u : List (List Int)) (nt : List Int) (a b : Int) : Int := if OL u nt ∧ okAll u.length [a, b] = true then mt u a b else -1
def withB (u : List (List Int)) (nt : List Int) (a b : Int) : Prop := jn u (mt u a b) (mt u a (rd nt b)) = a
instance (u : List (List Int)) (nt : List Int) (a b : Int) : Decidable (withB u nt a b) := by unfold withB; infer_instance
end Go.Proofs.Ytacifhahfamipaa.P


namespace Go.Proofs.Ytacifhahfamipaa.P
open Go.RowKit Go.Proofs.YtacifhahfamipaaW.PrintWords Go.Proofs.YtacifhahfamipaaW.PrintLast Go.Proofs.YtacifhahfamipaaW.PrintMore Go.Proofs.Cl
set_option linter.unusedVariables false
def Cls (u : List (List Int)) (nt : List Int) (S : Nat) : Prop :=
  ∀ a, a < u.length → S.testBit a = true → S.testBit (rd nt a).toNat = true ∧ ∀ b, b < u.length → S.testBit b = true → S.testBit (mt u a b).toNat = true ∧ S.testBit (jn u a b).toNat = true
instance (u : List (List Int)) (nt : List Int) (S : Nat) : Decidable (Cls u nt S) := by unfold Cls; infer_instance
def SubS (n S T : Nat) : Prop := ∀ a, a < n → S.testBit a = true → T.testBit a = true
instance (n S T : Nat) : Decidable (SubS n S T) := by unfold SubS; infer_instance
def AgreeS (u : List (List Int)) (nt : List Int) (S : Nat) : Prop := ∀ a, a < u.length → S.testBit a = true → ∀ b, b < u.length → S.testBit b = true → withB u nt a b ∧ withB u nt b a
instance (u : List (List Int)) (nt : List Int) (a b : Int) : Decidable (withB u nt a b) := by unfold withB; infer_instance
instance (u : List (List Int)) (nt : List Int) (S : Nat) : Decidable (AgreeS u nt S) := by unfold AgreeS; infer_instance
def splitB (u : List (List Int)) (a b c : Int) : Prop := mt u a (jn u b c) = jn u (mt u a b) (mt u a c)
instance (u : List (List Int)) (a b c : Int) : Decidable (splitB u a b c) := by unfold splitB; infer_instance
def sixU : List (List Int) := [[1, 1, 1, 1, 1, 1], [0, 1, 1, 0, 0, 1], [0, 0, 1, 0, 0, 1], [0, 0, 0, 1, 1, 1], [0, 0, 0, 0, 1, 1], [0, 0, 0, 0, 0, 1]]
def sixN : List Int := [5, 4, 3, 2, 1, 0]
def madeU (n : Nat) (U : Nat → Nat → Bool) : List (List Int) := (List.range n).map fun a => (List.range n).map fun b => if U a b = true then 1 else 0
def madeN (n : Nat) (N : Nat → Int) : List Int := (List.range n).map N
def setsU (t : Nat) : List (List Int) := madeU (2 ^ t) (fun a b => decide (a &&& b = a))
def setsN (t : Nat) : List Int := madeN (2 ^ t) (fun a => ((2 ^ t - 1 - a : Nat) : Int))
def setsF (t : Int) : List (List Int) × List Int × Bool := if 0 ≤ t ∧ t ≤ 3 then (setsU t.toNat, setsN t.toNat, true) else ([], [], false)
def ringB (a b : Nat) : Bool := decide (a = b ∨ a = 0 ∨ b = 5 ∨ (a = 1 ∧ b = 2) ∨ (a = 3 ∧ b = 4))
def ringF (n : Int) : List (List Int) × List Int × Bool := if n = 6 then (madeU 6 ringB, madeN 6 (fun a => 5 - (a : Int)), true) else ([], [], false)
def renB (n : Nat) (o : List Int) : Prop := o.length = n ∧ okAll n o = true ∧ o.Nodup
instance (n : Nat) (o : List Int) : Decidable (renB n o) := by unfold renB; infer_instance
end Go.Proofs.Ytacifhahfamipaa.P


-- written by gen.py (a program of this session) out of the kit's print of this seat's translation
namespace Go.Proofs.Ytacifhahfamipaa.P
open Go.RowKit Go.Proofs.YtacifhahfamipaaW.PrintWords Go.Proofs.YtacifhahfamipaaW.PrintLast Go.Proofs.YtacifhahfamipaaW.PrintMore
set_option linter.unusedVariables false
set_option linter.unusedSimpArgs false
open Go.Proofs.Cl
/-- A state of type 80 at block g of W; what its slices lead to came in by w0. -/
def IsS80 (w0 W : World) (g : Nat) (f0 : List Int) (f1 : Int) : Prop := ∃ A0 c0, W.heap[g]? = some (.cells #[.slice A0 f0.length c0, .int .i64 f1] 80 (0, 0)) ∧ w0.heap.size ≤ g ∧ Kd.C (Kd.int .u8) w0 A0 f0.length f0
/-! ### spec_l20Open: function 61 -/
def spec_l20Open.f (l0 : List Int) : Option (List Int × Int) := if (l0.length : Int) > 2000 then (if 2000 ≤ (l0.length : Int) then (some (l0.take 2000, 0)) else (none)) else (some (l0, 0))
/-! ### spec_l20Rd_pick: function 62 -/
def spec_l20Rd_pick.j0 : Nat → Int → Bool → List Int → Int → Option (Int × Int)
  | 0, _, _, _, _ => none
  | k + 1, x1, x24, x1000, x1001 => if x24 = true then (some (0, x1001)) else (if (wrap64 (x1001 - 1)) < (x1000.length : Int) then (if 0 ≤ (wrap64 (x1001 - 1)) then (if x1 = 0 then (none) else (some (Int.tmod (wrap64 (rd x1000 (wrap64 (x1001 - 1)))) x1, x1001))) else (none)) else (if (x1000.length : Int) = 0 then (none) else (if 0 ≤ (Int.tmod (wrap64 (x1001 - 1)) (x1000.length : Int)) then (if (Int.tmod (wrap64 (x1001 - 1)) (x1000.length : Int)) < (x1000.length : Int) then (if 0 ≤ (Int.tmod (wrap64 ((wrap64 ((wrap64 (x1001 - 1)) * 7)) + 3)) (x1000.length : Int)) then (if (Int.tmod (wrap64 ((wrap64 ((wrap64 (x1001 - 1)) * 7)) + 3)) (x1000.length : Int)) < (x1000.length : Int) then (if x1 = 0 then (none) else (some (Int.tmod (Go.bits .xor .i64 (wrap64 ((wrap64 ((wrap64 ((wrap64 ((wrap64 (rd x1000 (Int.tmod (wrap64 (x1001 - 1)) (x1000.length : Int)))) * 131)) + (wrap64 ((wrap64 (rd x1000 (Int.tmod (wrap64 ((wrap64 ((wrap64 (x1001 - 1)) * 7)) + 3)) (x1000.length : Int)))) * 1117)))) + (wrap64 ((wrap64 (x1001 - 1)) * 29)))) + (wrap64 ((wrap64 (Int.tdiv (wrap64 (x1001 - 1)) (x1000.length : Int))) * 53)))) (wrap64 (Int.tdiv (wrap64 ((wrap64 ((wrap64 ((wrap64 ((wrap64 (rd x1000 (Int.tmod (wrap64 (x1001 - 1)) (x1000.length : Int)))) * 131)) + (wrap64 ((wrap64 (rd x1000 (Int.tmod (wrap64 ((wrap64 ((wrap64 (x1001 - 1)) * 7)) + 3)) (x1000.length : Int)))) * 1117)))) + (wrap64 ((wrap64 (x1001 - 1)) * 29)))) + (wrap64 ((wrap64 (Int.tdiv (wrap64 (x1001 - 1)) (x1000.length : Int))) * 53)))) 64))) x1, x1001))) else (none)) else (none)) else (none)) else (none))))
def spec_l20Rd_pick.f (k : Nat) (s0_0 : List Int) (s0_1 : Int) (a1 : Int) : Option (Int × Int) := if a1 < 1 then (spec_l20Rd_pick.j0 k a1 true s0_0 (wrap64 (s0_1 + 1))) else (spec_l20Rd_pick.j0 k a1 ((s0_0.length : Int) == 0) s0_0 (wrap64 (s0_1 + 1)))
/-! ### spec_DrawRingOf: function 14 -/
def spec_DrawRingOf.f (k : Nat) (l0 : List Int) : Option (Int) := (spec_l20Open.f l0).bind fun bt107 => ((spec_l20Rd_pick.f k bt107.1 bt107.2 4).bind fun bt110 => (some (wrap64 (4 + bt110.1))))
/-! ### impl_RingOf: own -/
def impl_RingOf.f (a0 : Int) : Option ((List (List Int)) × List Int × Bool) := some (ringF a0)
/-! ### spec_RingOf: function 16 -/
def spec_RingOf.f (a0 : Int) : Option ((List (List Int)) × List Int × Bool) := if a0 = 6 then (some ((([(([1, 1, 1, 1, 1, 1] : List Int)), (([0, 1, 1, 0, 0, 1] : List Int)), (([0, 0, 1, 0, 0, 1] : List Int)), (([0, 0, 0, 1, 1, 1] : List Int)), (([0, 0, 0, 0, 1, 1] : List Int)), (([0, 0, 0, 0, 0, 1] : List Int))] : List (List Int))), (([5, 4, 3, 2, 1, 0] : List Int)), true)) else (some (([] : List (List Int)), ([] : List Int), false))
/-! ### laws_sameInts: function 58 -/
def laws_sameInts.l0 : Nat → List Int → List Int → Int → Option (Bool)
  | 0, _, _, _ => none
  | k + 1, x0, x1, x5 => if x5 < (x0.length : Int) then (if 0 ≤ x5 then (if x5 < (x1.length : Int) then (if (rd x0 x5) = (rd x1 x5) then (laws_sameInts.l0 k x0 x1 (wrap64 (x5 + 1))) else (some false)) else (none)) else (none)) else (some true)
def laws_sameInts.f (k : Nat) (l0 : List Int) (l1 : List Int) : Option (Bool) := if (l0.length : Int) = (l1.length : Int) then (laws_sameInts.l0 k l0 l1 0) else (some false)
/-! ### laws_sameRows: function 66 -/
def laws_sameRows.l0 : Nat → List (List Int) → List (List Int) → Int → Option (Bool)
  | 0, _, _, _ => none
  | k + 1, x0, x1, x5 => if x5 < (x0.length : Int) then (if 0 ≤ x5 then (if x5 < (x1.length : Int) then ((laws_sameInts.f k (rd_L1 x0 x5) (rd_L1 x1 x5)).bind fun t141 => (if t141 = true then (laws_sameRows.l0 k x0 x1 (wrap64 (x5 + 1))) else (some false))) else (none)) else (none)) else (some true)
def laws_sameRows.f (k : Nat) (l0 : List (List Int)) (l1 : List (List Int)) : Option (Bool) := if (l0.length : Int) = (l1.length : Int) then (laws_sameRows.l0 k l0 l1 0) else (some false)
/-! ### laws_sameLogic: function 17 -/
def laws_sameLogic.f (k : Nat) (l0_0 : List (List Int)) (l0_1 : List Int) (l1_0 : List (List Int)) (l1_1 : List Int) : Option (Bool) := (laws_sameRows.f k l0_0 l1_0).bind fun t144 => (if t144 = true then ((laws_sameInts.f k l0_1 l1_1).bind fun t145 => (some t145)) else (some false))
/-! ### laws_noLogic: function 18 -/
def laws_noLogic.f (k : Nat) (l0_0 : List (List Int)) (l0_1 : List Int) : Option (Bool) := (laws_sameLogic.f k l0_0 l0_1 ([] : List (List Int)) ([] : List Int)).bind fun t147 => (some t147)
/-! ### impl_OrderOk: function 67 -/
mutual
def impl_OrderOk.j0 : Nat → List (List Int) → Int → Bool → Option (Bool)
  | 0, _, _, _ => none
  | k + 1, x0, x3, x18 => if x18 = true then (some false) else (impl_OrderOk.l0 k x0 x3 x0 (x0.length : Int) 0)
def impl_OrderOk.l0 : Nat → List (List Int) → Int → List (List Int) → Int → Int → Option (Bool)
  | 0, _, _, _, _, _ => none
  | k + 1, x0, x3, x19, x20, x21 => if x21 < x20 then (if 0 ≤ x21 then (if x21 < (x19.length : Int) then (if ((rd_L1 x19 x21).length : Int) = x3 then (if x21 < ((rd_L1 x19 x21).length : Int) then (impl_OrderOk.j2 k x0 x3 x21 (rd_L1 x19 x21) x19 x20 x21 ((rd (rd_L1 x19 x21) x21) != 1)) else (none)) else (impl_OrderOk.j2 k x0 x3 x21 (rd_L1 x19 x21) x19 x20 x21 true)) else (none)) else (none)) else (impl_OrderOk.l2 k x0 x3 x3 0)
def impl_OrderOk.j2 : Nat → List (List Int) → Int → Int → List Int → List (List Int) → Int → Int → Bool → Option (Bool)
  | 0, _, _, _, _, _, _, _, _ => none
  | k + 1, x0, x3, x4, x5, x19, x20, x21, x36 => if x36 = true then (some false) else (impl_OrderOk.l1 k x0 x3 x4 x19 x20 x21 x5 (x5.length : Int) 0)
def impl_OrderOk.l1 : Nat → List (List Int) → Int → Int → List (List Int) → Int → Int → List Int → Int → Int → Option (Bool)
  | 0, _, _, _, _, _, _, _, _, _ => none
  | k + 1, x0, x3, x4, x19, x20, x21, x37, x38, x39 => if x39 < x38 then (if 0 ≤ x39 then (if x39 < (x37.length : Int) then (if (rd x37 x39) = 0 then (impl_OrderOk.j4 k x0 x3 x4 x39 (rd x37 x39) x19 x20 x21 x37 x38 x39 false) else (impl_OrderOk.j4 k x0 x3 x4 x39 (rd x37 x39) x19 x20 x21 x37 x38 x39 ((rd x37 x39) != 1))) else (none)) else (none)) else (impl_OrderOk.l0 k x0 x3 x19 x20 (wrap64 (x21 + 1)))
def impl_OrderOk.j4 : Nat → List (List Int) → Int → Int → Int → Int → List (List Int) → Int → Int → List Int → Int → Int → Bool → Option (Bool)
  | 0, _, _, _, _, _, _, _, _, _, _, _, _ => none
  | k + 1, x0, x3, x4, x6, x7, x19, x20, x21, x37, x38, x39, x49 => if x49 = true then (some false) else (if 0 ≤ x6 then (if x6 < (x0.length : Int) then (if ((rd_L1 x0 x6).length : Int) = x3 then (if x7 = 1 then (if x4 = x6 then (impl_OrderOk.l1 k x0 x3 x4 x19 x20 x21 x37 x38 (wrap64 (x39 + 1))) else (if 0 ≤ x4 then (if x4 < ((rd_L1 x0 x6).length : Int) then (if (rd (rd_L1 x0 x6) x4) = 1 then (some false) else (impl_OrderOk.l1 k x0 x3 x4 x19 x20 x21 x37 x38 (wrap64 (x39 + 1)))) else (none)) else (none))) else (impl_OrderOk.l1 k x0 x3 x4 x19 x20 x21 x37 x38 (wrap64 (x39 + 1)))) else (some false)) else (none)) else (none))
def impl_OrderOk.l2 : Nat → List (List Int) → Int → Int → Int → Option (Bool)
  | 0, _, _, _, _ => none
  | k + 1, x0, x3, x78, x79 => if x79 < x78 then (impl_OrderOk.l3 k x0 x3 x79 x78 x79 x3 0) else (some true)
def impl_OrderOk.l3 : Nat → List (List Int) → Int → Int → Int → Int → Int → Int → Option (Bool)
  | 0, _, _, _, _, _, _, _ => none
  | k + 1, x0, x3, x8, x78, x79, x82, x83 => if x83 < x82 then (impl_OrderOk.l4 k x0 x3 x8 x83 x78 x79 x82 x83 x3 0) else (impl_OrderOk.l2 k x0 x3 x78 (wrap64 (x79 + 1)))
def impl_OrderOk.l4 : Nat → List (List Int) → Int → Int → Int → Int → Int → Int → Int → Int → Int → Option (Bool)
  | 0, _, _, _, _, _, _, _, _, _, _ => none
  | k + 1, x0, x3, x8, x9, x78, x79, x82, x83, x86, x87 => if x87 < x86 then (if 0 ≤ x8 then (if x8 < (x0.length : Int) then (if 0 ≤ x9 then (if x9 < ((rd_L1 x0 x8).length : Int) then (if (rd (rd_L1 x0 x8) x9) = 1 then (if x9 < (x0.length : Int) then (if 0 ≤ x87 then (if x87 < ((rd_L1 x0 x9).length : Int) then (if (rd (rd_L1 x0 x9) x87) = 1 then (if x87 < ((rd_L1 x0 x8).length : Int) then (if (rd (rd_L1 x0 x8) x87) = 1 then (impl_OrderOk.l4 k x0 x3 x8 x9 x78 x79 x82 x83 x86 (wrap64 (x87 + 1))) else (some false)) else (none)) else (impl_OrderOk.l4 k x0 x3 x8 x9 x78 x79 x82 x83 x86 (wrap64 (x87 + 1)))) else (none)) else (none)) else (none)) else (impl_OrderOk.l4 k x0 x3 x8 x9 x78 x79 x82 x83 x86 (wrap64 (x87 + 1)))) else (none)) else (none)) else (none)) else (none)) else (impl_OrderOk.l3 k x0 x3 x8 x78 x79 x82 (wrap64 (x83 + 1)))
end
def impl_OrderOk.f (k : Nat) (l0 : List (List Int)) : Option (Bool) := if (l0.length : Int) < 1 then (impl_OrderOk.j0 k l0 (l0.length : Int) true) else (impl_OrderOk.j0 k l0 (l0.length : Int) (decide ((l0.length : Int) > 12)))
/-! ### laws_alive: function 19 -/
def laws_alive.f (k : Nat)  : Option (Bool) := (impl_OrderOk.f k (([(([1] : List Int))] : List (List Int)))).bind fun t166 => (if t166 = true then ((impl_OrderOk.f k (([(([0] : List Int))] : List (List Int)))).bind fun t173 => (some (!t173))) else (some false))
/-! ### impl_LeastOf: function 69 -/
mutual
def impl_LeastOf.l0 : Nat → List (List Int) → Int → Int → Option (Int × Bool)
  | 0, _, _, _ => none
  | k + 1, x12, x13, x14 => if x14 < x13 then (if 0 ≤ x14 then (if x14 < (x12.length : Int) then (impl_LeastOf.l1 k x14 true x12 x13 x14 (rd_L1 x12 x14) ((rd_L1 x12 x14).length : Int) 0) else (none)) else (none)) else (some ((-1), false))
def impl_LeastOf.l1 : Nat → Int → Bool → List (List Int) → Int → Int → List Int → Int → Int → Option (Int × Bool)
  | 0, _, _, _, _, _, _, _, _ => none
  | k + 1, x4, x6, x12, x13, x14, x19, x20, x21 => if x21 < x20 then (if 0 ≤ x21 then (if x21 < (x19.length : Int) then (if x6 = true then (impl_LeastOf.l1 k x4 ((rd x19 x21) == 1) x12 x13 x14 x19 x20 (wrap64 (x21 + 1))) else (impl_LeastOf.l1 k x4 false x12 x13 x14 x19 x20 (wrap64 (x21 + 1)))) else (none)) else (none)) else (if x6 = true then (some (x4, true)) else (impl_LeastOf.l0 k x12 x13 (wrap64 (x14 + 1))))
end
def impl_LeastOf.f (k : Nat) (l0 : List (List Int)) : Option (Int × Bool) := (impl_OrderOk.f k l0).bind fun t174 => (if t174 = true then (impl_LeastOf.l0 k l0 (l0.length : Int) 0) else (some ((-1), false)))
/-! ### impl_turned: function 105 -/
mutual
def impl_turned.l0 : Nat → List (List Int) → List (List Int) → Int → Int → Option ((List (List Int)))
  | 0, _, _, _, _ => none
  | k + 1, x0, x3, x10, x11 => if x11 < x10 then (if 0 ≤ (x0.length : Int) then (if ((x0.length : Int) : Int).toNat ≤ 35184372088832 then (if 0 ≤ x11 then (if x11 < (x3.length : Int) then (impl_turned.l1 k x0 (x3.set (x11 : Int).toNat (List.replicate ((x0.length : Int) : Int).toNat 0)) x11 x10 x11 (x0.length : Int) 0) else (none)) else (none)) else (none)) else (none)) else (some x3)
def impl_turned.l1 : Nat → List (List Int) → List (List Int) → Int → Int → Int → Int → Int → Option ((List (List Int)))
  | 0, _, _, _, _, _, _, _ => none
  | k + 1, x0, x3, x4, x10, x11, x21, x22 => if x22 < x21 then (if 0 ≤ x4 then (if x4 < (x3.length : Int) then (if 0 ≤ x22 then (if x22 < (x0.length : Int) then (if x4 < ((rd_L1 x0 x22).length : Int) then (if x22 < ((rd_L1 x3 x4).length : Int) then (impl_turned.l1 k x0 (x3.set (x4 : Int).toNat ((rd_L1 x3 x4).set (x22 : Int).toNat (rd (rd_L1 x0 x22) x4))) x4 x10 x11 x21 (wrap64 (x22 + 1))) else (none)) else (none)) else (none)) else (none)) else (none)) else (none)) else (impl_turned.l0 k x0 x3 x10 (wrap64 (x11 + 1)))
end
def impl_turned.f (k : Nat) (l0 : List (List Int)) : Option ((List (List Int))) := if 0 ≤ (l0.length : Int) then (if ((l0.length : Int) : Int).toNat ≤ 11728124029610 then (impl_turned.l0 k l0 (List.replicate ((l0.length : Int) : Int).toNat []) (l0.length : Int) 0) else (none)) else (none)
/-! ### impl_meet: function 106 -/
mutual
def impl_meet.l0 : Nat → List (List Int) → Int → Int → Int → Int → Option (Int)
  | 0, _, _, _, _, _ => none
  | k + 1, x0, x1, x2, x11, x12 => if x12 < x11 then (if 0 ≤ x12 then (if x12 < (x0.length : Int) then (if 0 ≤ x1 then (if x1 < ((rd_L1 x0 x12).length : Int) then (if (rd (rd_L1 x0 x12) x1) = 0 then (impl_meet.j1 k x0 x1 x2 x12 x11 x12 true) else (if 0 ≤ x2 then (if x2 < ((rd_L1 x0 x12).length : Int) then (impl_meet.j1 k x0 x1 x2 x12 x11 x12 ((rd (rd_L1 x0 x12) x2) == 0)) else (none)) else (none))) else (none)) else (none)) else (none)) else (none)) else (some (-1))
def impl_meet.j1 : Nat → List (List Int) → Int → Int → Int → Int → Int → Bool → Option (Int)
  | 0, _, _, _, _, _, _, _ => none
  | k + 1, x0, x1, x2, x7, x11, x12, x32 => if x32 = true then (impl_meet.l0 k x0 x1 x2 x11 (wrap64 (x12 + 1))) else (impl_meet.l1 k x0 x1 x2 x7 true x11 x12 (x0.length : Int) 0)
def impl_meet.l1 : Nat → List (List Int) → Int → Int → Int → Bool → Int → Int → Int → Int → Option (Int)
  | 0, _, _, _, _, _, _, _, _, _ => none
  | k + 1, x0, x1, x2, x7, x8, x11, x12, x34, x35 => if x35 < x34 then (if x8 = true then (if 0 ≤ x35 then (if x35 < (x0.length : Int) then (if 0 ≤ x1 then (if x1 < ((rd_L1 x0 x35).length : Int) then (if (rd (rd_L1 x0 x35) x1) = 0 then (impl_meet.l1 k x0 x1 x2 x7 true x11 x12 x34 (wrap64 (x35 + 1))) else (if 0 ≤ x2 then (if x2 < ((rd_L1 x0 x35).length : Int) then (if (rd (rd_L1 x0 x35) x2) = 0 then (impl_meet.l1 k x0 x1 x2 x7 true x11 x12 x34 (wrap64 (x35 + 1))) else (if 0 ≤ x7 then (if x7 < ((rd_L1 x0 x35).length : Int) then (impl_meet.l1 k x0 x1 x2 x7 ((rd (rd_L1 x0 x35) x7) == 1) x11 x12 x34 (wrap64 (x35 + 1))) else (none)) else (none))) else (none)) else (none))) else (none)) else (none)) else (none)) else (none)) else (impl_meet.l1 k x0 x1 x2 x7 false x11 x12 x34 (wrap64 (x35 + 1)))) else (if x8 = true then (some x7) else (impl_meet.l0 k x0 x1 x2 x11 (wrap64 (x12 + 1))))
end
def impl_meet.f (k : Nat) (l0 : List (List Int)) (a1 : Int) (a2 : Int) : Option (Int) := impl_meet.l0 k l0 a1 a2 (l0.length : Int) 0
/-! ### impl_LatticeOk: function 104 -/
mutual
def impl_LatticeOk.l0 : Nat → List (List Int) → List (List Int) → Int → Int → Option (Bool)
  | 0, _, _, _, _ => none
  | k + 1, x0, x3, x12, x13 => if x13 < x12 then (impl_LatticeOk.l1 k x0 x3 x13 x12 x13 (x0.length : Int) 0) else (some true)
def impl_LatticeOk.l1 : Nat → List (List Int) → List (List Int) → Int → Int → Int → Int → Int → Option (Bool)
  | 0, _, _, _, _, _, _, _ => none
  | k + 1, x0, x3, x4, x12, x13, x17, x18 => if x18 < x17 then ((impl_meet.f k x0 x4 x18).bind fun t204 => (if t204 < 0 then (some false) else ((impl_meet.f k x3 x4 x18).bind fun t205 => (if t205 < 0 then (some false) else (impl_LatticeOk.l1 k x0 x3 x4 x12 x13 x17 (wrap64 (x18 + 1))))))) else (impl_LatticeOk.l0 k x0 x3 x12 (wrap64 (x13 + 1)))
end
def impl_LatticeOk.f (k : Nat) (l0 : List (List Int)) : Option (Bool) := (impl_OrderOk.f k l0).bind fun t200 => (if t200 = true then ((impl_turned.f k l0).bind fun t201 => (impl_LatticeOk.l0 k l0 t201 (l0.length : Int) 0)) else (some false))
/-! ### impl_isAnswer: function 107 -/
def impl_isAnswer.f (l0 : List (List Int)) (a1 : Int) : Option (Bool) := if a1 ≥ 0 then (some (decide (a1 < (l0.length : Int)))) else (some false)
/-! ### impl_LogicOk: own -/
def impl_LogicOk.f (l0_0 : List (List Int)) (l0_1 : List Int) : Option (Bool) := some (logicF l0_0 l0_1)
/-! ### impl_AtomsOf: function 21 -/
mutual
def impl_AtomsOf.l0 : Nat → List (List Int) → Int → List Int → Int → Int → Option (List Int)
  | 0, _, _, _, _, _ => none
  | k + 1, x0, x3, x5, x18, x19 => if x19 < x18 then (impl_AtomsOf.l1 k x0 x3 x5 x19 0 x18 x19 (x0.length : Int) 0) else (some x5)
def impl_AtomsOf.l1 : Nat → List (List Int) → Int → List Int → Int → Int → Int → Int → Int → Int → Option (List Int)
  | 0, _, _, _, _, _, _, _, _, _ => none
  | k + 1, x0, x3, x5, x6, x7, x18, x19, x23, x24 => if x24 < x23 then (if 0 ≤ x24 then (if x24 < (x0.length : Int) then (if 0 ≤ x6 then (if x6 < ((rd_L1 x0 x24).length : Int) then (impl_AtomsOf.l1 k x0 x3 x5 x6 (wrap64 (x7 + (rd (rd_L1 x0 x24) x6))) x18 x19 x23 (wrap64 (x24 + 1))) else (none)) else (none)) else (none)) else (none)) else (if x6 = x3 then (impl_AtomsOf.l0 k x0 x3 x5 x18 (wrap64 (x19 + 1))) else (if x7 = 2 then (if x5.length < 17592186044416 then (impl_AtomsOf.l0 k x0 x3 (x5 ++ [x6]) x18 (wrap64 (x19 + 1))) else (none)) else (impl_AtomsOf.l0 k x0 x3 x5 x18 (wrap64 (x19 + 1)))))
end
def impl_AtomsOf.f (k : Nat) (l0 : List (List Int)) : Option (List Int) := (impl_LeastOf.f k l0).bind fun bt208 => (if bt208.2 = true then (impl_AtomsOf.l0 k l0 bt208.1 (([] : List Int)) (l0.length : Int) 0) else (some ([] : List Int)))
/-! ### laws_FnRingOf: function 3 -/
def laws_FnRingOf.j0 : Nat → Bool → Bool → List (List Int) → List Int → Option (Bool)
  | 0, _, _, _, _ => none
  | k + 1, x5, x31, x227000, x227001 => if x31 = true then (some false) else (if x5 = true then ((impl_LogicOk.f x227000 x227001).bind fun t236 => (if t236 = true then ((impl_AtomsOf.f k x227000).bind fun t237 => (if (t237.length : Int) = 2 then (some ((x227001.length : Int) == 6)) else (some false))) else (some false))) else ((laws_noLogic.f k x227000 x227001).bind fun t240 => (if t240 = true then ((laws_alive.f k).bind fun t241 => (some t241)) else (some false))))
def laws_FnRingOf.f (k : Nat) (l0 : List Int) : Option (Bool) := if (l0.length : Int) > 1048576 then (some true) else ((spec_DrawRingOf.f k l0).bind fun t218 => ((impl_RingOf.f t218).bind fun bt219 => ((spec_RingOf.f t218).bind fun bt227 => ((laws_sameLogic.f k bt219.1 bt219.2.1 bt227.1 bt227.2.1).bind fun t235 => (if t235 = true then (laws_FnRingOf.j0 k bt219.2.2 (bt219.2.2 != bt227.2.2) bt219.1 bt219.2.1) else (laws_FnRingOf.j0 k bt219.2.2 true bt219.1 bt219.2.1))))))
/-- THE ONE PURE STATEMENT of laws_FnRingOf: yours. -/
def laws_FnRingOf.Pure : Prop := ∀ (l0 : List Int), l0.length ≤ maxLen → l0.length * 1 ≤ 140737488351232 → (∀ x ∈ l0, (Lit.int .u8 x).wf = true) → ∃ k, laws_FnRingOf.f k l0 = some true
/-! ### spec_DrawSetsOf: function 22 -/
def spec_DrawSetsOf.f (k : Nat) (l0 : List Int) : Option (Int) := (spec_l20Open.f l0).bind fun bt242 => ((spec_l20Rd_pick.f k bt242.1 bt242.2 6).bind fun bt245 => (some (wrap64 (bt245.1 - 1))))
/-! ### impl_SetsOf: own -/
def impl_SetsOf.f (a0 : Int) : Option ((List (List Int)) × List Int × Bool) := some (setsF a0)
/-! ### spec_l1In: function 72 -/
def spec_l1In.f (a0 : Int) (a1 : Int) (a2 : Int) : Option (Bool) := if a0 ≥ a1 then (some (decide (a0 ≤ a2))) else (some false)
/-! ### spec_SetsOf: function 24 -/
mutual
def spec_SetsOf.l0 : Nat → Int → Int → List (List Int) → List Int → Option ((List (List Int)) × List Int × Bool)
  | 0, _, _, _, _ => none
  | k + 1, x0, x5, x249000, x249001 => if 0 ≤ x0 then (if x5 < (shl .i64 1 x0) then (spec_SetsOf.l1 k x0 x5 (([] : List Int)) 0 x249000 x249001) else (some (x249000, x249001, true))) else (none)
def spec_SetsOf.l1 : Nat → Int → Int → List Int → Int → List (List Int) → List Int → Option ((List (List Int)) × List Int × Bool)
  | 0, _, _, _, _, _, _ => none
  | k + 1, x0, x5, x6, x7, x249000, x249001 => if 0 ≤ x0 then (if x7 < (shl .i64 1 x0) then (if (Go.bits .and .i64 x5 x7) = x5 then (if x6.length < 17592186044416 then (spec_SetsOf.l1 k x0 x5 (x6 ++ [1]) (wrap64 (x7 + 1)) x249000 x249001) else (none)) else (if x6.length < 17592186044416 then (spec_SetsOf.l1 k x0 x5 (x6 ++ [0]) (wrap64 (x7 + 1)) x249000 x249001) else (none))) else (if x249000.length < 5864062014805 then (if x249001.length < 17592186044416 then (spec_SetsOf.l0 k x0 (wrap64 (x5 + 1)) (x249000 ++ [x6]) (x249001 ++ [wrap64 ((wrap64 ((shl .i64 1 x0) - 1)) - x5)])) else (none)) else (none))) else (none)
end
def spec_SetsOf.f (k : Nat) (a0 : Int) : Option ((List (List Int)) × List Int × Bool) := (spec_l1In.f a0 0 3).bind fun t249 => (if t249 = true then (spec_SetsOf.l0 k a0 0 ([] : List (List Int)) ([] : List Int)) else (some (([] : List (List Int)), ([] : List Int), false)))
/-! ### laws_FnSetsOf: function 4 -/
def laws_FnSetsOf.j0 : Nat → Int → Bool → Bool → List (List Int) → List Int → Option (Bool)
  | 0, _, _, _, _, _ => none
  | k + 1, x3, x5, x31, x274000, x274001 => if x31 = true then (some false) else (if x5 = true then ((impl_LogicOk.f x274000 x274001).bind fun t283 => (if t283 = true then ((impl_AtomsOf.f k x274000).bind fun t284 => (if (t284.length : Int) = x3 then (if 0 ≤ x3 then (some ((x274001.length : Int) == (shl .i64 1 x3))) else (none)) else (some false))) else (some false))) else ((laws_noLogic.f k x274000 x274001).bind fun t287 => (if t287 = true then ((laws_alive.f k).bind fun t288 => (some t288)) else (some false))))
def laws_FnSetsOf.f (k : Nat) (l0 : List Int) : Option (Bool) := if (l0.length : Int) > 1048576 then (some true) else ((spec_DrawSetsOf.f k l0).bind fun t265 => ((impl_SetsOf.f t265).bind fun bt266 => ((spec_SetsOf.f k t265).bind fun bt274 => ((laws_sameLogic.f k bt266.1 bt266.2.1 bt274.1 bt274.2.1).bind fun t282 => (if t282 = true then (laws_FnSetsOf.j0 k t265 bt266.2.2 (bt266.2.2 != bt274.2.2) bt266.1 bt266.2.1) else (laws_FnSetsOf.j0 k t265 bt266.2.2 true bt266.1 bt266.2.1))))))
/-- THE ONE PURE STATEMENT of laws_FnSetsOf: yours. -/
def laws_FnSetsOf.Pure : Prop := ∀ (l0 : List Int), l0.length ≤ maxLen → l0.length * 1 ≤ 140737488351232 → (∀ x ∈ l0, (Lit.int .u8 x).wf = true) → ∃ k, laws_FnSetsOf.f k l0 = some true
/-! ### spec_l20Sets: function 114 -/
mutual
def spec_l20Sets.l0 : Nat → Int → List (List Int) → Int → Option ((List (List Int)))
  | 0, _, _, _ => none
  | k + 1, x0, x3, x4 => if 0 ≤ x0 then (if x4 < (shl .i64 1 x0) then (spec_l20Sets.l1 k x0 x3 x4 (([] : List Int)) 0) else (some x3)) else (none)
def spec_l20Sets.l1 : Nat → Int → List (List Int) → Int → List Int → Int → Option ((List (List Int)))
  | 0, _, _, _, _, _ => none
  | k + 1, x0, x3, x4, x5, x6 => if 0 ≤ x0 then (if x6 < (shl .i64 1 x0) then (if (Go.bits .and .i64 x4 x6) = x4 then (if x5.length < 17592186044416 then (spec_l20Sets.l1 k x0 x3 x4 (x5 ++ [1]) (wrap64 (x6 + 1))) else (none)) else (if x5.length < 17592186044416 then (spec_l20Sets.l1 k x0 x3 x4 (x5 ++ [0]) (wrap64 (x6 + 1))) else (none))) else (if x3.length < 5864062014805 then (spec_l20Sets.l0 k x0 (x3 ++ [x5]) (wrap64 (x4 + 1))) else (none))) else (none)
end
def spec_l20Sets.f (k : Nat) (a0 : Int) : Option ((List (List Int))) := spec_l20Sets.l0 k a0 (([] : List (List Int))) 0
/-! ### spec_l20Boole: function 91 -/
def spec_l20Boole.l0 : Nat → Int → Int → List (List Int) → List Int → Option ((List (List Int)) × List Int)
  | 0, _, _, _, _ => none
  | k + 1, x0, x4, x309000, x309001 => if 0 ≤ x0 then (if x4 < (shl .i64 1 x0) then (if x309001.length < 17592186044416 then (spec_l20Boole.l0 k x0 (wrap64 (x4 + 1)) x309000 (x309001 ++ [wrap64 ((wrap64 ((shl .i64 1 x0) - 1)) - x4)])) else (none)) else (some (x309000, x309001))) else (none)
def spec_l20Boole.f (k : Nat) (a0 : Int) : Option ((List (List Int)) × List Int) := (spec_l20Sets.f k a0).bind fun t305 => (spec_l20Boole.l0 k a0 0 t305 ([] : List Int))
/-! ### spec_l20Rd_odd: function 95 -/
def spec_l20Rd_odd.f (k : Nat) (s0_0 : List Int) (s0_1 : Int) (a1 : Int) : Option (Bool × Int) := if a1 > 0 then ((spec_l20Rd_pick.f k s0_0 s0_1 a1).bind fun bt312 => (some ((bt312.1 == (wrap64 (a1 - 1))), bt312.2))) else (some (false, s0_1))
/-! ### spec_l20Glued: function 108 -/
mutual
def spec_l20Glued.l0 : Nat → Int → Int → Int → List (List Int) → List Int → List (List Int) → List Int → List (List Int) → List Int → Option ((List (List Int)) × List Int)
  | 0, _, _, _, _, _, _, _, _, _ => none
  | k + 1, x5, x6, x8, x315000, x315001, x316000, x316001, x318000, x318001 => if x8 < (wrap64 ((wrap64 (x5 + x6)) - 2)) then (spec_l20Glued.l1 k x5 x6 x8 (([] : List Int)) 0 x315000 x315001 x316000 x316001 x318000 x318001) else (some (x318000, x318001))
def spec_l20Glued.l1 : Nat → Int → Int → Int → List Int → Int → List (List Int) → List Int → List (List Int) → List Int → List (List Int) → List Int → Option ((List (List Int)) × List Int)
  | 0, _, _, _, _, _, _, _, _, _, _, _ => none
  | k + 1, x5, x6, x8, x9, x10, x315000, x315001, x316000, x316001, x318000, x318001 => if x10 < (wrap64 ((wrap64 (x5 + x6)) - 2)) then (if x8 = 0 then (spec_l20Glued.j2 k x5 x6 x8 x9 x10 0 true x315000 x315001 x316000 x316001 x318000 x318001) else (spec_l20Glued.j2 k x5 x6 x8 x9 x10 0 (x10 == (wrap64 ((wrap64 (x5 + x6)) - 3))) x315000 x315001 x316000 x316001 x318000 x318001)) else (if x318000.length < 5864062014805 then ((some (x318000 ++ [x9] : List (List Int))).bind fun y340 => (if x8 = 0 then (if x318001.length < 17592186044416 then (spec_l20Glued.l0 k x5 x6 (wrap64 (x8 + 1)) x315000 x315001 x316000 x316001 y340 (x318001 ++ [wrap64 ((wrap64 (x5 + x6)) - 3)])) else (none)) else (if x8 = (wrap64 ((wrap64 (x5 + x6)) - 3)) then (if x318001.length < 17592186044416 then (spec_l20Glued.l0 k x5 x6 (wrap64 (x8 + 1)) x315000 x315001 x316000 x316001 y340 (x318001 ++ [0])) else (none)) else (if x8 < (wrap64 (x5 - 1)) then (if 0 ≤ x8 then (if x8 < (x315001.length : Int) then (if x318001.length < 17592186044416 then (spec_l20Glued.l0 k x5 x6 (wrap64 (x8 + 1)) x315000 x315001 x316000 x316001 y340 (x318001 ++ [rd x315001 x8])) else (none)) else (none)) else (none)) else (if 0 ≤ (wrap64 ((wrap64 (x8 - x5)) + 2)) then (if (wrap64 ((wrap64 (x8 - x5)) + 2)) < (x316001.length : Int) then (if x318001.length < 17592186044416 then (spec_l20Glued.l0 k x5 x6 (wrap64 (x8 + 1)) x315000 x315001 x316000 x316001 y340 (x318001 ++ [wrap64 ((wrap64 ((rd x316001 (wrap64 ((wrap64 (x8 - x5)) + 2))) + x5)) - 2)])) else (none)) else (none)) else (none)))))) else (none))
def spec_l20Glued.j2 : Nat → Int → Int → Int → List Int → Int → Int → Bool → List (List Int) → List Int → List (List Int) → List Int → List (List Int) → List Int → Option ((List (List Int)) × List Int)
  | 0, _, _, _, _, _, _, _, _, _, _, _, _, _ => none
  | k + 1, x5, x6, x8, x9, x10, x11, x36, x315000, x315001, x316000, x316001, x318000, x318001 => if x36 = true then (if x9.length < 17592186044416 then (spec_l20Glued.l1 k x5 x6 x8 (x9 ++ [1]) (wrap64 (x10 + 1)) x315000 x315001 x316000 x316001 x318000 x318001) else (none)) else (if x8 < (wrap64 (x5 - 1)) then (spec_l20Glued.j3 k x5 x6 x8 x9 x10 x11 (decide (x10 < (wrap64 (x5 - 1)))) x315000 x315001 x316000 x316001 x318000 x318001) else (spec_l20Glued.j3 k x5 x6 x8 x9 x10 x11 false x315000 x315001 x316000 x316001 x318000 x318001))
def spec_l20Glued.j3 : Nat → Int → Int → Int → List Int → Int → Int → Bool → List (List Int) → List Int → List (List Int) → List Int → List (List Int) → List Int → Option ((List (List Int)) × List Int)
  | 0, _, _, _, _, _, _, _, _, _, _, _, _, _ => none
  | k + 1, x5, x6, x8, x9, x10, x11, x47, x315000, x315001, x316000, x316001, x318000, x318001 => if x47 = true then (if 0 ≤ x8 then (if x8 < (x315000.length : Int) then (if 0 ≤ x10 then (if x10 < ((rd_L1 x315000 x8).length : Int) then (if x9.length < 17592186044416 then (spec_l20Glued.l1 k x5 x6 x8 (x9 ++ [rd (rd_L1 x315000 x8) x10]) (wrap64 (x10 + 1)) x315000 x315001 x316000 x316001 x318000 x318001) else (none)) else (none)) else (none)) else (none)) else (none)) else (if x8 ≥ (wrap64 (x5 - 1)) then (if x10 ≥ (wrap64 (x5 - 1)) then (spec_l20Glued.j4 k x5 x6 x8 x9 x10 x11 (decide (x8 < (wrap64 ((wrap64 (x5 + x6)) - 3)))) x315000 x315001 x316000 x316001 x318000 x318001) else (spec_l20Glued.j4 k x5 x6 x8 x9 x10 x11 false x315000 x315001 x316000 x316001 x318000 x318001)) else (spec_l20Glued.j4 k x5 x6 x8 x9 x10 x11 false x315000 x315001 x316000 x316001 x318000 x318001))
def spec_l20Glued.j4 : Nat → Int → Int → Int → List Int → Int → Int → Bool → List (List Int) → List Int → List (List Int) → List Int → List (List Int) → List Int → Option ((List (List Int)) × List Int)
  | 0, _, _, _, _, _, _, _, _, _, _, _, _, _ => none
  | k + 1, x5, x6, x8, x9, x10, x11, x66, x315000, x315001, x316000, x316001, x318000, x318001 => if x66 = true then (if 0 ≤ (wrap64 ((wrap64 (x8 - x5)) + 2)) then (if (wrap64 ((wrap64 (x8 - x5)) + 2)) < (x316000.length : Int) then (if 0 ≤ (wrap64 ((wrap64 (x10 - x5)) + 2)) then (if (wrap64 ((wrap64 (x10 - x5)) + 2)) < ((rd_L1 x316000 (wrap64 ((wrap64 (x8 - x5)) + 2))).length : Int) then (if x9.length < 17592186044416 then (spec_l20Glued.l1 k x5 x6 x8 (x9 ++ [rd (rd_L1 x316000 (wrap64 ((wrap64 (x8 - x5)) + 2))) (wrap64 ((wrap64 (x10 - x5)) + 2))]) (wrap64 (x10 + 1)) x315000 x315001 x316000 x316001 x318000 x318001) else (none)) else (none)) else (none)) else (none)) else (none)) else (if x8 = x10 then (if x9.length < 17592186044416 then (spec_l20Glued.l1 k x5 x6 x8 (x9 ++ [1]) (wrap64 (x10 + 1)) x315000 x315001 x316000 x316001 x318000 x318001) else (none)) else (if x9.length < 17592186044416 then (spec_l20Glued.l1 k x5 x6 x8 (x9 ++ [x11]) (wrap64 (x10 + 1)) x315000 x315001 x316000 x316001 x318000 x318001) else (none)))
end
def spec_l20Glued.f (k : Nat) (l0_0 : List (List Int)) (l0_1 : List Int) (l1_0 : List (List Int)) (l1_1 : List Int) : Option ((List (List Int)) × List Int) := spec_l20Glued.l0 k (l0_1.length : Int) (l1_1.length : Int) 0 l0_0 l0_1 l1_0 l1_1 ([] : List (List Int)) ([] : List Int)
/-! ### spec_l20Six: own -/
def spec_l20Six.f  : Option ((List (List Int)) × List Int) := some (sixU, sixN)
/-! ### spec_l20Pasted: function 110 -/
mutual
def spec_l20Pasted.l0 : Nat → Int → List (List Int) → Option ((List (List Int)) × List Int)
  | 0, _, _ => none
  | k + 1, x2, x359000 => if x2 < 12 then (spec_l20Pasted.l1 k x2 (([] : List Int)) 0 x359000) else (some (x359000, (([11, 6, 7, 8, 9, 10, 1, 2, 3, 4, 5, 0] : List Int))))
def spec_l20Pasted.l1 : Nat → Int → List Int → Int → List (List Int) → Option ((List (List Int)) × List Int)
  | 0, _, _, _, _ => none
  | k + 1, x2, x3, x4, x359000 => if x4 < 12 then (if x2 = x4 then (spec_l20Pasted.j2 k x2 x3 x4 0 true x359000) else (if x2 = 0 then (spec_l20Pasted.j2 k x2 x3 x4 0 true x359000) else (spec_l20Pasted.j2 k x2 x3 x4 0 (x4 == 11) x359000))) else (if x359000.length < 5864062014805 then (spec_l20Pasted.l0 k (wrap64 (x2 + 1)) (x359000 ++ [x3])) else (none))
def spec_l20Pasted.j2 : Nat → Int → List Int → Int → Int → Bool → List (List Int) → Option ((List (List Int)) × List Int)
  | 0, _, _, _, _, _, _ => none
  | k + 1, x2, x3, x4, x5, x17, x359000 => if x17 = true then (if x3.length < 17592186044416 then (spec_l20Pasted.l1 k x2 (x3 ++ [1]) (wrap64 (x4 + 1)) x359000) else (none)) else ((spec_l1In.f x2 1 5).bind fun t371 => (if t371 = true then ((spec_l1In.f x4 6 10).bind fun t372 => (if t372 = true then (spec_l20Pasted.j3 k x2 x3 x4 x5 (x2 != (wrap64 (x4 - 5))) x359000) else (spec_l20Pasted.j3 k x2 x3 x4 x5 false x359000))) else (spec_l20Pasted.j3 k x2 x3 x4 x5 false x359000)))
def spec_l20Pasted.j3 : Nat → Int → List Int → Int → Int → Bool → List (List Int) → Option ((List (List Int)) × List Int)
  | 0, _, _, _, _, _, _ => none
  | k + 1, x2, x3, x4, x5, x29, x359000 => if x29 = true then (if x2 ≤ 3 then (if (wrap64 (x4 - 5)) ≤ 3 then (if x3.length < 17592186044416 then (spec_l20Pasted.l1 k x2 (x3 ++ [1]) (wrap64 (x4 + 1)) x359000) else (none)) else (if x2 ≥ 3 then (if (wrap64 (x4 - 5)) ≥ 3 then (if x3.length < 17592186044416 then (spec_l20Pasted.l1 k x2 (x3 ++ [1]) (wrap64 (x4 + 1)) x359000) else (none)) else (if x3.length < 17592186044416 then (spec_l20Pasted.l1 k x2 (x3 ++ [x5]) (wrap64 (x4 + 1)) x359000) else (none))) else (if x3.length < 17592186044416 then (spec_l20Pasted.l1 k x2 (x3 ++ [x5]) (wrap64 (x4 + 1)) x359000) else (none)))) else (if x2 ≥ 3 then (if (wrap64 (x4 - 5)) ≥ 3 then (if x3.length < 17592186044416 then (spec_l20Pasted.l1 k x2 (x3 ++ [1]) (wrap64 (x4 + 1)) x359000) else (none)) else (if x3.length < 17592186044416 then (spec_l20Pasted.l1 k x2 (x3 ++ [x5]) (wrap64 (x4 + 1)) x359000) else (none))) else (if x3.length < 17592186044416 then (spec_l20Pasted.l1 k x2 (x3 ++ [x5]) (wrap64 (x4 + 1)) x359000) else (none)))) else (if x3.length < 17592186044416 then (spec_l20Pasted.l1 k x2 (x3 ++ [x5]) (wrap64 (x4 + 1)) x359000) else (none))
end
def spec_l20Pasted.f (k : Nat)  : Option ((List (List Int)) × List Int) := spec_l20Pasted.l0 k 0 ([] : List (List Int))
/-! ### spec_l20Rename: function 111 -/
mutual
def spec_l20Rename.l0 : Nat → List Int → List Int → Int → List (List Int) → List Int → Option ((List (List Int)) × List Int)
  | 0, _, _, _, _, _ => none
  | k + 1, x1, x5, x6, x398000, x398001 => if x6 < (x1.length : Int) then (if 0 ≤ x6 then (if 0 ≤ (rd x1 x6) then (if (rd x1 x6) < (x5.length : Int) then (spec_l20Rename.l0 k x1 (x5.set ((rd x1 x6) : Int).toNat x6) (wrap64 (x6 + 1)) x398000 x398001) else (none)) else (none)) else (none)) else (spec_l20Rename.l1 k x1 x5 0 x398000 x398001 ([] : List (List Int)) ([] : List Int))
def spec_l20Rename.l1 : Nat → List Int → List Int → Int → List (List Int) → List Int → List (List Int) → List Int → Option ((List (List Int)) × List Int)
  | 0, _, _, _, _, _, _, _ => none
  | k + 1, x1, x5, x8, x398000, x398001, x405000, x405001 => if x8 < (x1.length : Int) then (spec_l20Rename.l2 k x1 x5 x8 (([] : List Int)) 0 x398000 x398001 x405000 x405001) else (some (x405000, x405001))
def spec_l20Rename.l2 : Nat → List Int → List Int → Int → List Int → Int → List (List Int) → List Int → List (List Int) → List Int → Option ((List (List Int)) × List Int)
  | 0, _, _, _, _, _, _, _, _, _ => none
  | k + 1, x1, x5, x8, x9, x10, x398000, x398001, x405000, x405001 => if x10 < (x1.length : Int) then (if 0 ≤ x8 then (if x8 < (x1.length : Int) then (if 0 ≤ (rd x1 x8) then (if (rd x1 x8) < (x398000.length : Int) then (if 0 ≤ x10 then (if 0 ≤ (rd x1 x10) then (if (rd x1 x10) < ((rd_L1 x398000 (rd x1 x8)).length : Int) then (if x9.length < 17592186044416 then (spec_l20Rename.l2 k x1 x5 x8 (x9 ++ [rd (rd_L1 x398000 (rd x1 x8)) (rd x1 x10)]) (wrap64 (x10 + 1)) x398000 x398001 x405000 x405001) else (none)) else (none)) else (none)) else (none)) else (none)) else (none)) else (none)) else (none)) else (if x405000.length < 5864062014805 then (if 0 ≤ x8 then (if x8 < (x1.length : Int) then (if 0 ≤ (rd x1 x8) then (if (rd x1 x8) < (x398001.length : Int) then (if 0 ≤ (rd x398001 (rd x1 x8)) then (if (rd x398001 (rd x1 x8)) < (x5.length : Int) then (if x405001.length < 17592186044416 then (spec_l20Rename.l1 k x1 x5 (wrap64 (x8 + 1)) x398000 x398001 (x405000 ++ [x9]) (x405001 ++ [rd x5 (rd x398001 (rd x1 x8))])) else (none)) else (none)) else (none)) else (none)) else (none)) else (none)) else (none)) else (none))
end
def spec_l20Rename.f (k : Nat) (l0_0 : List (List Int)) (l0_1 : List Int) (l1 : List Int) : Option ((List (List Int)) × List Int) := if 0 ≤ (l1.length : Int) then (if ((l1.length : Int) : Int).toNat ≤ 35184372088832 then (spec_l20Rename.l0 k l1 (List.replicate ((l1.length : Int) : Int).toNat 0) 0 l0_0 l0_1) else (none)) else (none)
/-! ### spec_l20Logic: function 73 -/
mutual
def spec_l20Logic.j2 : Nat → Int → List Int → Int → List (List Int) → List Int → Option ((List (List Int)) × List Int × Int)
  | 0, _, _, _, _, _ => none
  | k + 1, x1, x1000, x1001, x426000, x426001 => spec_l20Logic.l0 k x1 (([] : List Int)) 0 x1000 x1001 x426000 x426001
def spec_l20Logic.l0 : Nat → Int → List Int → Int → List Int → Int → List (List Int) → List Int → Option ((List (List Int)) × List Int × Int)
  | 0, _, _, _, _, _, _, _ => none
  | k + 1, x1, x6, x7, x1000, x1001, x426000, x426001 => if x7 < (x426001.length : Int) then ((spec_l20Rd_pick.f k x1000 x1001 (wrap64 (x7 + 1))).bind fun bt535 => (if x6.length < 17592186044416 then (spec_l20Logic.l1 k x1 (x6 ++ [x7]) x7 bt535.1 x7 x1000 bt535.2 x426000 x426001) else (none))) else ((spec_l20Rd_pick.f k x1000 x1001 2).bind fun bt543 => (if bt543.1 = 0 then ((spec_l20Rename.f k x426000 x426001 x6).bind fun bt545 => (spec_l20Logic.j5 k x1 x1000 bt543.2 bt545.1 bt545.2)) else (spec_l20Logic.j5 k x1 x1000 bt543.2 x426000 x426001)))
def spec_l20Logic.l1 : Nat → Int → List Int → Int → Int → Int → List Int → Int → List (List Int) → List Int → Option ((List (List Int)) × List Int × Int)
  | 0, _, _, _, _, _, _, _, _, _ => none
  | k + 1, x1, x6, x7, x8, x9, x1000, x1001, x426000, x426001 => if x9 > x8 then (if 0 ≤ (wrap64 (x9 - 1)) then (if (wrap64 (x9 - 1)) < (x6.length : Int) then (if 0 ≤ x9 then (if x9 < (x6.length : Int) then (spec_l20Logic.l1 k x1 (x6.set (x9 : Int).toNat (rd x6 (wrap64 (x9 - 1)))) x7 x8 (wrap64 (x9 - 1)) x1000 x1001 x426000 x426001) else (none)) else (none)) else (none)) else (none)) else (if 0 ≤ x8 then (if x8 < (x6.length : Int) then (spec_l20Logic.l0 k x1 (x6.set (x8 : Int).toNat x7) (wrap64 (x7 + 1)) x1000 x1001 x426000 x426001) else (none)) else (none))
def spec_l20Logic.j5 : Nat → Int → List Int → Int → List (List Int) → List Int → Option ((List (List Int)) × List Int × Int)
  | 0, _, _, _, _, _ => none
  | k + 1, x1, x1000, x1001, x426000, x426001 => (spec_l20Rd_odd.f k x1000 x1001 x1).bind fun bt551 => (if bt551.1 = true then ((spec_l20Rd_pick.f k x1000 bt551.2 4).bind fun bt553 => (if bt553.1 = 0 then (some (([] : List (List Int)), ([] : List Int), bt553.2)) else (if bt553.1 = 1 then (if 1 ≤ (x426001.length : Int) then (some (x426000, (x426001.drop (1 : Int).toNat), bt553.2)) else (none)) else (if bt553.1 = 2 then ((spec_l20Rd_pick.f k x1000 bt553.2 (x426001.length : Int)).bind fun bt558 => ((spec_l20Rd_pick.f k x1000 bt558.2 (wrap64 ((x426001.length : Int) + 1))).bind fun bt560 => (if 0 ≤ bt558.1 then (if bt558.1 < (x426001.length : Int) then (some (x426000, (x426001.set (bt558.1 : Int).toNat bt560.1), bt560.2)) else (none)) else (none)))) else (if 0 ≤ (wrap64 ((x426000.length : Int) - 1)) then (if (wrap64 ((x426000.length : Int) - 1)) < (x426000.length : Int) then (if 0 < ((rd_L1 x426000 (wrap64 ((x426000.length : Int) - 1))).length : Int) then (some ((x426000.set ((wrap64 ((x426000.length : Int) - 1)) : Int).toNat ((rd_L1 x426000 (wrap64 ((x426000.length : Int) - 1))).set (0 : Int).toNat 1)), x426001, bt553.2)) else (none)) else (none)) else (none)))))) else (some (x426000, x426001, bt551.2)))
def spec_l20Logic.j0 : Nat → Int → Int → Bool → List Int → Int → Option ((List (List Int)) × List Int × Int)
  | 0, _, _, _, _, _ => none
  | k + 1, x1, x12, x14, x1000, x1001 => if x14 = true then ((spec_l20Rd_pick.f k x1000 x1001 4).bind fun bt428 => ((spec_l20Boole.f k bt428.1).bind fun bt430 => (spec_l20Logic.j2 k x1 x1000 bt428.2 bt430.1 bt430.2))) else (if x12 = 2 then (spec_l20Logic.j1 k x1 x12 (x12 == 2) x1000 x1001) else (spec_l20Logic.j1 k x1 x12 (x12 == 3) x1000 x1001))
def spec_l20Logic.j1 : Nat → Int → Int → Bool → List Int → Int → Option ((List (List Int)) × List Int × Int)
  | 0, _, _, _, _, _ => none
  | k + 1, x1, x12, x20, x1000, x1001 => if x20 = true then ((spec_l20Boole.f k 2).bind fun bt436 => ((spec_l20Boole.f k 2).bind fun bt442 => ((spec_l20Glued.f k bt436.1 bt436.2 bt442.1 bt442.2).bind fun bt448 => (spec_l20Logic.j2 k x1 x1000 x1001 bt448.1 bt448.2)))) else (if x12 = 4 then ((spec_l20Boole.f k 2).bind fun bt454 => ((spec_l20Boole.f k 3).bind fun bt460 => ((spec_l20Glued.f k bt454.1 bt454.2 bt460.1 bt460.2).bind fun bt466 => (spec_l20Logic.j2 k x1 x1000 x1001 bt466.1 bt466.2)))) else (if x12 = 5 then ((spec_l20Boole.f k 2).bind fun bt472 => ((spec_l20Boole.f k 2).bind fun bt478 => ((spec_l20Glued.f k bt472.1 bt472.2 bt478.1 bt478.2).bind fun bt484 => ((spec_l20Boole.f k 2).bind fun bt490 => ((spec_l20Glued.f k bt484.1 bt484.2 bt490.1 bt490.2).bind fun bt496 => (spec_l20Logic.j2 k x1 x1000 x1001 bt496.1 bt496.2)))))) else (if x12 = 6 then ((spec_l20Six.f).bind fun bt502 => (spec_l20Logic.j2 k x1 x1000 x1001 bt502.1 bt502.2)) else (if x12 = 7 then ((spec_l20Six.f).bind fun bt508 => ((spec_l20Boole.f k 2).bind fun bt514 => ((spec_l20Glued.f k bt508.1 bt508.2 bt514.1 bt514.2).bind fun bt520 => (spec_l20Logic.j2 k x1 x1000 x1001 bt520.1 bt520.2)))) else ((spec_l20Pasted.f k).bind fun bt526 => (spec_l20Logic.j2 k x1 x1000 x1001 bt526.1 bt526.2))))))
end
def spec_l20Logic.f (k : Nat) (s0_0 : List Int) (s0_1 : Int) (a1 : Int) : Option ((List (List Int)) × List Int × Int) := (spec_l20Rd_pick.f k s0_0 s0_1 9).bind fun bt426 => (if bt426.1 = 0 then (spec_l20Logic.j0 k a1 bt426.1 (bt426.1 == 0) s0_0 bt426.2) else (spec_l20Logic.j0 k a1 bt426.1 (bt426.1 == 1) s0_0 bt426.2))
/-! ### spec_l1Meet: function 77 -/
mutual
def spec_l1Meet.l0 : Nat → List (List Int) → Int → Int → Int → Int → Option (Int)
  | 0, _, _, _, _, _ => none
  | k + 1, x0, x1, x2, x7, x8 => if x8 < (x0.length : Int) then (if 0 ≤ x8 then (if 0 ≤ x1 then (if x1 < ((rd_L1 x0 x8).length : Int) then (if (rd (rd_L1 x0 x8) x1) = 1 then (if 0 ≤ x2 then (if x2 < ((rd_L1 x0 x8).length : Int) then (if (rd (rd_L1 x0 x8) x2) = 1 then (if x7 < 0 then (spec_l1Meet.l0 k x0 x1 x2 x8 (wrap64 (x8 + 1))) else (if 0 ≤ x7 then (if x7 < (x0.length : Int) then (if x8 < ((rd_L1 x0 x7).length : Int) then (if (rd (rd_L1 x0 x7) x8) = 1 then (spec_l1Meet.l0 k x0 x1 x2 x8 (wrap64 (x8 + 1))) else (spec_l1Meet.l0 k x0 x1 x2 x7 (wrap64 (x8 + 1)))) else (none)) else (none)) else (none))) else (spec_l1Meet.l0 k x0 x1 x2 x7 (wrap64 (x8 + 1)))) else (none)) else (none)) else (spec_l1Meet.l0 k x0 x1 x2 x7 (wrap64 (x8 + 1)))) else (none)) else (none)) else (none)) else (spec_l1Meet.l1 k x0 x1 x2 x7 0)
def spec_l1Meet.l1 : Nat → List (List Int) → Int → Int → Int → Int → Option (Int)
  | 0, _, _, _, _, _ => none
  | k + 1, x0, x1, x2, x7, x9 => if x9 < (x0.length : Int) then (if 0 ≤ x9 then (if 0 ≤ x1 then (if x1 < ((rd_L1 x0 x9).length : Int) then (if (rd (rd_L1 x0 x9) x1) = 1 then (if 0 ≤ x2 then (if x2 < ((rd_L1 x0 x9).length : Int) then (if (rd (rd_L1 x0 x9) x2) = 1 then (if 0 ≤ x7 then (if x7 < ((rd_L1 x0 x9).length : Int) then (if (rd (rd_L1 x0 x9) x7) = 0 then (some (-1)) else (spec_l1Meet.l1 k x0 x1 x2 x7 (wrap64 (x9 + 1)))) else (none)) else (none)) else (spec_l1Meet.l1 k x0 x1 x2 x7 (wrap64 (x9 + 1)))) else (none)) else (none)) else (spec_l1Meet.l1 k x0 x1 x2 x7 (wrap64 (x9 + 1)))) else (none)) else (none)) else (none)) else (some x7)
end
def spec_l1Meet.f (k : Nat) (l0 : List (List Int)) (a1 : Int) (a2 : Int) : Option (Int) := spec_l1Meet.l0 k l0 a1 a2 (-1) 0
/-! ### spec_l1Join: function 76 -/
mutual
def spec_l1Join.l0 : Nat → List (List Int) → Int → Int → Int → Int → Option (Int)
  | 0, _, _, _, _, _ => none
  | k + 1, x0, x1, x2, x7, x8 => if x8 < (x0.length : Int) then (if 0 ≤ x1 then (if x1 < (x0.length : Int) then (if 0 ≤ x8 then (if x8 < ((rd_L1 x0 x1).length : Int) then (if (rd (rd_L1 x0 x1) x8) = 1 then (if 0 ≤ x2 then (if x2 < (x0.length : Int) then (if x8 < ((rd_L1 x0 x2).length : Int) then (if (rd (rd_L1 x0 x2) x8) = 1 then (if x7 < 0 then (spec_l1Join.l0 k x0 x1 x2 x8 (wrap64 (x8 + 1))) else (if 0 ≤ x7 then (if x7 < ((rd_L1 x0 x8).length : Int) then (if (rd (rd_L1 x0 x8) x7) = 1 then (spec_l1Join.l0 k x0 x1 x2 x8 (wrap64 (x8 + 1))) else (spec_l1Join.l0 k x0 x1 x2 x7 (wrap64 (x8 + 1)))) else (none)) else (none))) else (spec_l1Join.l0 k x0 x1 x2 x7 (wrap64 (x8 + 1)))) else (none)) else (none)) else (none)) else (spec_l1Join.l0 k x0 x1 x2 x7 (wrap64 (x8 + 1)))) else (none)) else (none)) else (none)) else (none)) else (spec_l1Join.l1 k x0 x1 x2 x7 0)
def spec_l1Join.l1 : Nat → List (List Int) → Int → Int → Int → Int → Option (Int)
  | 0, _, _, _, _, _ => none
  | k + 1, x0, x1, x2, x7, x9 => if x9 < (x0.length : Int) then (if 0 ≤ x1 then (if x1 < (x0.length : Int) then (if 0 ≤ x9 then (if x9 < ((rd_L1 x0 x1).length : Int) then (if (rd (rd_L1 x0 x1) x9) = 1 then (if 0 ≤ x2 then (if x2 < (x0.length : Int) then (if x9 < ((rd_L1 x0 x2).length : Int) then (if (rd (rd_L1 x0 x2) x9) = 1 then (if 0 ≤ x7 then (if x7 < (x0.length : Int) then (if x9 < ((rd_L1 x0 x7).length : Int) then (if (rd (rd_L1 x0 x7) x9) = 0 then (some (-1)) else (spec_l1Join.l1 k x0 x1 x2 x7 (wrap64 (x9 + 1)))) else (none)) else (none)) else (none)) else (spec_l1Join.l1 k x0 x1 x2 x7 (wrap64 (x9 + 1)))) else (none)) else (none)) else (none)) else (spec_l1Join.l1 k x0 x1 x2 x7 (wrap64 (x9 + 1)))) else (none)) else (none)) else (none)) else (none)) else (some x7)
end
def spec_l1Join.f (k : Nat) (l0 : List (List Int)) (a1 : Int) (a2 : Int) : Option (Int) := spec_l1Join.l0 k l0 a1 a2 (-1) 0
/-! ### spec_OrderOk: function 112 -/
mutual
def spec_OrderOk.l0 : Nat → List (List Int) → Int → Int → Option (Bool)
  | 0, _, _, _ => none
  | k + 1, x0, x3, x4 => if x4 < x3 then (if 0 ≤ x4 then (if x4 < (x0.length : Int) then (if ((rd_L1 x0 x4).length : Int) = x3 then (spec_OrderOk.l1 k x0 x3 x4 0) else (some false)) else (none)) else (none)) else (spec_OrderOk.l2 k x0 x3 0)
def spec_OrderOk.l1 : Nat → List (List Int) → Int → Int → Int → Option (Bool)
  | 0, _, _, _, _ => none
  | k + 1, x0, x3, x4, x5 => if x5 < x3 then (if 0 ≤ x4 then (if x4 < (x0.length : Int) then (if 0 ≤ x5 then (if x5 < ((rd_L1 x0 x4).length : Int) then ((spec_l1In.f (rd (rd_L1 x0 x4) x5) 0 1).bind fun t607 => (if t607 = true then (spec_OrderOk.l1 k x0 x3 x4 (wrap64 (x5 + 1))) else (some false))) else (none)) else (none)) else (none)) else (none)) else (spec_OrderOk.l0 k x0 x3 (wrap64 (x4 + 1)))
def spec_OrderOk.l2 : Nat → List (List Int) → Int → Int → Option (Bool)
  | 0, _, _, _ => none
  | k + 1, x0, x3, x6 => if x6 < x3 then (spec_OrderOk.l3 k x0 x3 x6 0) else (some true)
def spec_OrderOk.l3 : Nat → List (List Int) → Int → Int → Int → Option (Bool)
  | 0, _, _, _, _ => none
  | k + 1, x0, x3, x6, x7 => if x7 < x3 then (if x6 = x7 then (if 0 ≤ x6 then (if x6 < (x0.length : Int) then (if 0 ≤ x7 then (if x7 < ((rd_L1 x0 x6).length : Int) then (if (rd (rd_L1 x0 x6) x7) = 0 then (spec_OrderOk.j4 k x0 x3 x6 x7 true) else (spec_OrderOk.j4 k x0 x3 x6 x7 false)) else (none)) else (none)) else (none)) else (none)) else (if 0 ≤ x6 then (if x6 < (x0.length : Int) then (if 0 ≤ x7 then (if x7 < ((rd_L1 x0 x6).length : Int) then (if (rd (rd_L1 x0 x6) x7) = 1 then (if x7 < (x0.length : Int) then (if x6 < ((rd_L1 x0 x7).length : Int) then (spec_OrderOk.j4 k x0 x3 x6 x7 ((rd (rd_L1 x0 x7) x6) == 1)) else (none)) else (none)) else (spec_OrderOk.j4 k x0 x3 x6 x7 false)) else (none)) else (none)) else (none)) else (none))) else (spec_OrderOk.l2 k x0 x3 (wrap64 (x6 + 1)))
def spec_OrderOk.j4 : Nat → List (List Int) → Int → Int → Int → Bool → Option (Bool)
  | 0, _, _, _, _, _ => none
  | k + 1, x0, x3, x6, x7, x87 => if x87 = true then (some false) else (spec_OrderOk.l4 k x0 x3 x6 x7 0)
def spec_OrderOk.l4 : Nat → List (List Int) → Int → Int → Int → Int → Option (Bool)
  | 0, _, _, _, _, _ => none
  | k + 1, x0, x3, x6, x7, x8 => if x8 < x3 then (if 0 ≤ x6 then (if x6 < (x0.length : Int) then (if 0 ≤ x7 then (if x7 < ((rd_L1 x0 x6).length : Int) then (if (rd (rd_L1 x0 x6) x7) = 1 then (if x7 < (x0.length : Int) then (if 0 ≤ x8 then (if x8 < ((rd_L1 x0 x7).length : Int) then (if (rd (rd_L1 x0 x7) x8) = 1 then (if x8 < ((rd_L1 x0 x6).length : Int) then (if (rd (rd_L1 x0 x6) x8) = 0 then (some false) else (spec_OrderOk.l4 k x0 x3 x6 x7 (wrap64 (x8 + 1)))) else (none)) else (spec_OrderOk.l4 k x0 x3 x6 x7 (wrap64 (x8 + 1)))) else (none)) else (none)) else (none)) else (spec_OrderOk.l4 k x0 x3 x6 x7 (wrap64 (x8 + 1)))) else (none)) else (none)) else (none)) else (none)) else (spec_OrderOk.l3 k x0 x3 x6 (wrap64 (x7 + 1)))
end
def spec_OrderOk.f (k : Nat) (l0 : List (List Int)) : Option (Bool) := (spec_l1In.f (l0.length : Int) 1 12).bind fun t603 => (if t603 = true then (spec_OrderOk.l0 k l0 (l0.length : Int) 0) else (some false))
/-! ### spec_LatticeOk: function 80 -/
mutual
def spec_LatticeOk.l0 : Nat → List (List Int) → Int → Option (Bool)
  | 0, _, _ => none
  | k + 1, x0, x3 => if x3 < (x0.length : Int) then ((spec_OrderOk.f k x0).bind fun t620 => (spec_LatticeOk.j1 k x0 x3 t620)) else (spec_LatticeOk.j1 k x0 x3 false)
def spec_LatticeOk.j1 : Nat → List (List Int) → Int → Bool → Option (Bool)
  | 0, _, _, _ => none
  | k + 1, x0, x3, x12 => if x12 = true then (spec_LatticeOk.l1 k x0 x3 0) else ((spec_OrderOk.f k x0).bind fun t621 => (some t621))
def spec_LatticeOk.l1 : Nat → List (List Int) → Int → Int → Option (Bool)
  | 0, _, _, _ => none
  | k + 1, x0, x3, x4 => if x4 < x3 then ((spec_l1Meet.f k x0 x3 x4).bind fun t622 => (if t622 < 0 then (some false) else ((spec_l1Join.f k x0 x3 x4).bind fun t623 => (if t623 < 0 then (some false) else (spec_LatticeOk.l1 k x0 x3 (wrap64 (x4 + 1))))))) else (spec_LatticeOk.l0 k x0 (wrap64 (x3 + 1)))
end
def spec_LatticeOk.f (k : Nat) (l0 : List (List Int)) : Option (Bool) := spec_LatticeOk.l0 k l0 0
/-! ### spec_LeastOf: function 81 -/
mutual
def spec_LeastOf.l0 : Nat → List (List Int) → Int → Option (Int × Bool)
  | 0, _, _ => none
  | k + 1, x0, x4 => if x4 < (x0.length : Int) then ((spec_OrderOk.f k x0).bind fun t624 => (spec_LeastOf.j1 k x0 x4 t624)) else (spec_LeastOf.j1 k x0 x4 false)
def spec_LeastOf.j1 : Nat → List (List Int) → Int → Bool → Option (Int × Bool)
  | 0, _, _, _ => none
  | k + 1, x0, x4, x14 => if x14 = true then (spec_LeastOf.l1 k x0 x4 true 0) else (some ((-1), false))
def spec_LeastOf.l1 : Nat → List (List Int) → Int → Bool → Int → Option (Int × Bool)
  | 0, _, _, _, _ => none
  | k + 1, x0, x4, x5, x6 => if x6 < (x0.length : Int) then (if x5 = true then (if 0 ≤ x4 then (if x4 < (x0.length : Int) then (if 0 ≤ x6 then (if x6 < ((rd_L1 x0 x4).length : Int) then (spec_LeastOf.l1 k x0 x4 ((rd (rd_L1 x0 x4) x6) == 1) (wrap64 (x6 + 1))) else (none)) else (none)) else (none)) else (none)) else (spec_LeastOf.l1 k x0 x4 false (wrap64 (x6 + 1)))) else (if x5 = true then (some (x4, true)) else (spec_LeastOf.l0 k x0 (wrap64 (x4 + 1))))
end
def spec_LeastOf.f (k : Nat) (l0 : List (List Int)) : Option (Int × Bool) := spec_LeastOf.l0 k l0 0
/-! ### spec_LogicOk: function 30 -/
mutual
def spec_LogicOk.j0 : Nat → Int → Bool → List (List Int) → List Int → Option (Bool)
  | 0, _, _, _, _ => none
  | k + 1, x3, x22, x628000, x628001 => if x22 = true then (some false) else (spec_LogicOk.l0 k x3 0 x628000 x628001)
def spec_LogicOk.l0 : Nat → Int → Int → List (List Int) → List Int → Option (Bool)
  | 0, _, _, _, _ => none
  | k + 1, x3, x4, x628000, x628001 => if x4 < x3 then (if 0 ≤ x4 then (if x4 < (x628001.length : Int) then ((spec_l1In.f (rd x628001 x4) 0 (wrap64 (x3 - 1))).bind fun t630 => (if t630 = true then (spec_LogicOk.l0 k x3 (wrap64 (x4 + 1)) x628000 x628001) else (some false))) else (none)) else (none)) else ((spec_LeastOf.f k x628000).bind fun bt631 => (spec_LogicOk.l1 k x3 bt631.1 0 x628000 x628001))
def spec_LogicOk.l1 : Nat → Int → Int → Int → List (List Int) → List Int → Option (Bool)
  | 0, _, _, _, _, _ => none
  | k + 1, x3, x5, x7, x628000, x628001 => if x7 < x3 then (if 0 ≤ x7 then (if x7 < (x628001.length : Int) then (if 0 ≤ (rd x628001 x7) then (if (rd x628001 x7) < (x628001.length : Int) then (if (rd x628001 (rd x628001 x7)) = x7 then ((spec_l1Meet.f k x628000 x7 (rd x628001 x7)).bind fun t636 => (spec_LogicOk.j3 k x3 x5 x7 (t636 != x5) x628000 x628001)) else (spec_LogicOk.j3 k x3 x5 x7 true x628000 x628001)) else (none)) else (none)) else (none)) else (none)) else (some true)
def spec_LogicOk.j3 : Nat → Int → Int → Int → Bool → List (List Int) → List Int → Option (Bool)
  | 0, _, _, _, _, _, _ => none
  | k + 1, x3, x5, x7, x71, x628000, x628001 => if x71 = true then (some false) else (spec_LogicOk.l2 k x3 x5 x7 0 x628000 x628001)
def spec_LogicOk.l2 : Nat → Int → Int → Int → Int → List (List Int) → List Int → Option (Bool)
  | 0, _, _, _, _, _, _ => none
  | k + 1, x3, x5, x7, x8, x628000, x628001 => if x8 < x3 then (if 0 ≤ x7 then (if x7 < (x628000.length : Int) then (if 0 ≤ x8 then (if x8 < ((rd_L1 x628000 x7).length : Int) then (if (rd (rd_L1 x628000 x7) x8) = 1 then (if x8 < (x628001.length : Int) then (if 0 ≤ (rd x628001 x8) then (if (rd x628001 x8) < (x628000.length : Int) then (if x7 < (x628001.length : Int) then (if 0 ≤ (rd x628001 x7) then (if (rd x628001 x7) < ((rd_L1 x628000 (rd x628001 x8)).length : Int) then (if (rd (rd_L1 x628000 (rd x628001 x8)) (rd x628001 x7)) = 0 then (some false) else (spec_LogicOk.l2 k x3 x5 x7 (wrap64 (x8 + 1)) x628000 x628001)) else (none)) else (none)) else (none)) else (none)) else (none)) else (none)) else (spec_LogicOk.l2 k x3 x5 x7 (wrap64 (x8 + 1)) x628000 x628001)) else (none)) else (none)) else (none)) else (none)) else (spec_LogicOk.l1 k x3 x5 (wrap64 (x7 + 1)) x628000 x628001)
end
def spec_LogicOk.f (k : Nat) (l0_0 : List (List Int)) (l0_1 : List Int) : Option (Bool) := (spec_LatticeOk.f k l0_0).bind fun t628 => (if t628 = true then (spec_LogicOk.j0 k (l0_0.length : Int) ((l0_1.length : Int) != (l0_0.length : Int)) l0_0 l0_1) else (spec_LogicOk.j0 k (l0_0.length : Int) true l0_0 l0_1))
/-! ### spec_NoOf: function 37 -/
def spec_NoOf.f (k : Nat) (l0_0 : List (List Int)) (l0_1 : List Int) : Option (Int) := (spec_LogicOk.f k l0_0 l0_1).bind fun t771 => (if t771 = true then ((spec_LeastOf.f k l0_0).bind fun bt772 => (some bt772.1)) else (some (-1)))
/-! ### spec_l2Both: function 98 -/
def spec_l2Both.f (k : Nat) (l0_0 : List (List Int)) (l0_1 : List Int) (a1 : Int) (a2 : Int) : Option (Bool) := (spec_LogicOk.f k l0_0 l0_1).bind fun t775 => (if t775 = true then ((spec_l1In.f a1 0 (wrap64 ((l0_1.length : Int) - 1))).bind fun t776 => (if t776 = true then ((spec_l1In.f a2 0 (wrap64 ((l0_1.length : Int) - 1))).bind fun t777 => (some t777)) else (some false))) else (some false))
/-! ### spec_NotOf: function 85 -/
def spec_NotOf.f (k : Nat) (l0_0 : List (List Int)) (l0_1 : List Int) (a1 : Int) : Option (Int) := (spec_l2Both.f k l0_0 l0_1 a1 a1).bind fun t779 => (if t779 = true then (if 0 ≤ a1 then (if a1 < (l0_1.length : Int) then (some (rd l0_1 a1)) else (none)) else (none)) else (some (-1)))
/-! ### spec_YesOf: function 38 -/
def spec_YesOf.f (k : Nat) (l0_0 : List (List Int)) (l0_1 : List Int) : Option (Int) := (spec_NoOf.f k l0_0 l0_1).bind fun t782 => ((spec_NotOf.f k l0_0 l0_1 t782).bind fun t783 => (some t783))
/-! ### impl_AndOf: own -/
def impl_AndOf.f (l0_0 : List (List Int)) (l0_1 : List Int) (a1 : Int) (a2 : Int) : Option (Int) := some (andF l0_0 l0_1 a1 a2)
/-! ### spec_AndOf: function 51 -/
def spec_AndOf.f (k : Nat) (l0_0 : List (List Int)) (l0_1 : List Int) (a1 : Int) (a2 : Int) : Option (Int) := (spec_l2Both.f k l0_0 l0_1 a1 a2).bind fun t1092 => (if t1092 = true then ((spec_l1Meet.f k l0_0 a1 a2).bind fun t1093 => (some t1093)) else (some (-1)))
/-! ### impl_NoOf: own -/
def impl_NoOf.f (l0_0 : List (List Int)) (l0_1 : List Int) : Option (Int) := some (noF l0_0 l0_1)
/-! ### impl_YesOf: own -/
def impl_YesOf.f (l0_0 : List (List Int)) (l0_1 : List Int) : Option (Int) := some (yesF l0_0 l0_1)
/-! ### spec_l5With: function 103 -/
def spec_l5With.f (k : Nat) (l0_0 : List (List Int)) (l0_1 : List Int) (a1 : Int) (a2 : Int) : Option (Bool) := (spec_l1Meet.f k l0_0 a1 a2).bind fun t1268 => (if 0 ≤ a2 then (if a2 < (l0_1.length : Int) then ((spec_l1Meet.f k l0_0 a1 (rd l0_1 a2)).bind fun t1270 => ((spec_l1Join.f k l0_0 t1268 t1270).bind fun t1271 => (some (t1271 == a1)))) else (none)) else (none))
/-! ### spec_CentreOf: function 59 -/
mutual
def spec_CentreOf.l0 : Nat → List Int → Int → List (List Int) → List Int → Option (List Int)
  | 0, _, _, _, _ => none
  | k + 1, x3, x4, x1273000, x1273001 => if x4 < (x1273001.length : Int) then ((spec_LogicOk.f k x1273000 x1273001).bind fun t1276 => (spec_CentreOf.j1 k x3 x4 t1276 x1273000 x1273001)) else (spec_CentreOf.j1 k x3 x4 false x1273000 x1273001)
def spec_CentreOf.j1 : Nat → List Int → Int → Bool → List (List Int) → List Int → Option (List Int)
  | 0, _, _, _, _, _ => none
  | k + 1, x3, x4, x16, x1273000, x1273001 => if x16 = true then (spec_CentreOf.l1 k x3 x4 true 0 x1273000 x1273001) else (some x3)
def spec_CentreOf.l1 : Nat → List Int → Int → Bool → Int → List (List Int) → List Int → Option (List Int)
  | 0, _, _, _, _, _, _ => none
  | k + 1, x3, x4, x5, x6, x1273000, x1273001 => if x6 < (x1273001.length : Int) then (if x5 = true then ((spec_l5With.f k x1273000 x1273001 x4 x6).bind fun t1277 => (if t1277 = true then ((spec_l5With.f k x1273000 x1273001 x6 x4).bind fun t1278 => (spec_CentreOf.l1 k x3 x4 t1278 (wrap64 (x6 + 1)) x1273000 x1273001)) else (spec_CentreOf.l1 k x3 x4 false (wrap64 (x6 + 1)) x1273000 x1273001))) else (spec_CentreOf.l1 k x3 x4 false (wrap64 (x6 + 1)) x1273000 x1273001)) else (if x5 = true then (if x3.length < 17592186044416 then (spec_CentreOf.l0 k (x3 ++ [x4]) (wrap64 (x4 + 1)) x1273000 x1273001) else (none)) else (spec_CentreOf.l0 k x3 (wrap64 (x4 + 1)) x1273000 x1273001))
end
def spec_CentreOf.f (k : Nat) (l0_0 : List (List Int)) (l0_1 : List Int) : Option (List Int) := spec_CentreOf.l0 k (([] : List Int)) 0 l0_0 l0_1
end Go.Proofs.Ytacifhahfamipaa.P

-- written by gen.py (a program of this session) out of the kit's print of this seat's translation
namespace Go.Proofs.Ytacifhahfamipaa.P
open Go.RowKit Go.Proofs.YtacifhahfamipaaW.PrintWords Go.Proofs.YtacifhahfamipaaW.PrintLast Go.Proofs.YtacifhahfamipaaW.PrintMore
attribute [local go_sem] max2_int min2_int max_two min_two max_three min_three max_four min_four
set_option linter.unusedVariables false
set_option linter.unusedSimpArgs false
theorem info3 : (Try.prog.info? 3).map (fun i => (i.zero, i.size, i.bytes)) = some (some (.int .i64 0), 1, 8) := by kernel_rfl
theorem info5 : (Try.prog.info? 5).map (fun i => (i.zero, i.size, i.bytes)) = some (some (.int .u8 0), 1, 1) := by kernel_rfl
theorem info25 : (Try.prog.info? 25).map (fun i => (i.zero, i.size, i.bytes)) = some (some (.slice none 0 0), 1, 24) := by kernel_rfl
end Go.Proofs.Ytacifhahfamipaa.P

namespace Go.Proofs.Ytacifhahfamipaa.P
open Go.RowKit Go.Proofs.YtacifhahfamipaaW.PrintWords Go.Proofs.YtacifhahfamipaaW.PrintLast Go.Proofs.YtacifhahfamipaaW.PrintMore
set_option linter.unusedVariables false
def bA (n m : Nat) : Array Bool := ((List.range n).map fun i => m.testBit i).toArray
section
variable {P : Program} {md : Region.Mode} {ops : Array Oper} {Q : Exit → Act → World → Prop} {S : World → Prop} {ds : List Nat} {i : Nat} {N : Option Tmp} {oi : Oper} {v : Value} {fuel : Nat} {l : Array Bool} {a a' : Act} {w : World}
theorem pu_ (l' : Array Bool) (h : wpAnyLast P md ops Q S ds fuel l' a' w) (hi : ops[i]? = some oi := by rfl) (hN : oi.dst = N := by rfl) (hc : anyB md ops l l' i = true := by first | exact any_of HT_.out (by kernel_rfl) | kernel_rfl)
    (hQ : ∀ c a w, Q (.panic c) (a.put oi.dst v) w → Q (.panic c) a w := by exact fun _ _ _ h => h)
    (hy : Yields P ops oi v a := by (refine Or.inl ⟨by rfl, ?_⟩; intro w'; go_simp; with_reducible rfl))
    (ha : a.put N v = a' := by (simp only [Act.put, List.setIfInBounds_toArray, List.set_cons_zero, List.set_cons_succ, i64_w, i32_w]; rfl))
     : wpAnyLast P md ops Q S ds (fuel + 1) l a w := pure_ l' hi hN hc hQ hy ha h
theorem of_ (l' : Array Bool) (h : wpAnyLast P md ops Q S ds fuel l' a' w) (hi : ops[i]? = some oi := by rfl) (hN : oi.dst = N := by rfl) (hc : anyB md ops l l' i = true := by first | exact any_of HT_.out (by kernel_rfl) | kernel_rfl)
    (hQ : ∀ c a w, Q (.panic c) (a.put oi.dst undef) w → Q (.panic c) a w := by exact fun _ _ _ h => h)
    (hy : Yields P ops oi undef a := by exact Or.inr ⟨by rfl, rfl⟩)
    (ha : a.put N undef = a' := by (simp only [Act.put, List.setIfInBounds_toArray, List.set_cons_zero, List.set_cons_succ, i64_w, i32_w]; rfl))
     : wpAnyLast P md ops Q S ds (fuel + 1) l a w := pure_ l' hi hN hc hQ hy ha h
theorem tk_ (l' : Array Bool) (h : wpAnyLast P md ops Q S ds fuel l' a' w) (hi : ops[i]? = some oi := by rfl) (hN : oi.dst = N := by rfl) (hc : takeB md ops ds l l' i = true := by first | exact take_ofW HT_.out HW_.out (by kernel_rfl) | kernel_rfl)
    (hQ : ∀ c a w, Q (.panic c) (a.put oi.dst v) w → Q (.panic c) a w := by exact fun _ _ _ h => h)
    (hy : YieldsIf P ops S oi v a := by (refine Or.inl ⟨by rfl, ?_⟩; intro w' hs_; (repeat (obtain ⟨_, hs_⟩ := hs_)); go_simp; with_reducible rfl)) (hS : S w := by exact hHeld)
    (ha : a.put N v = a' := by (simp only [Act.put, List.setIfInBounds_toArray, List.set_cons_zero, List.set_cons_succ, i64_w, i32_w]; rfl))
     : wpAnyLast P md ops Q S ds (fuel + 1) l a w := take_ l' hi hN hc hQ hy hS ha h
theorem no_ (h : wpAnyLast P md ops Q S ds fuel l a' w) (h0 : a.put N v = a' := by (simp only [Act.put, List.setIfInBounds_toArray, List.set_cons_zero, List.set_cons_succ, i64_w, i32_w]; rfl))  : wpAnyLast P md ops Q S ds fuel l (a.put N v) w := norm_ h0 h
end
section
variable {P : Program} {ops : Array Oper} {rest : List Oper} {o : Oper} {a : Act} {Q : Exit → Act → World → Prop}
theorem bx_ {W : World} {N : Tmp} {cs : Array Value} {t : TypeId} (h : ∀ g, g = W.heap.size → ∀ w1, w1.heap[g]? = some (.cells cs t (0, 0)) → Below W.heap.size W w1 → wpList P ops Q rest (a.put o.dst (.pointer (some ⟨g, 0, none⟩))) w1) (hd : o.dst = some N := by rfl) (hgd : o.guard = none := by rfl)
    (hrun : (execOp a.eval o).run P W = .ok (.value (.pointer (some ⟨W.heap.size, 0, none⟩))) (W.alloc (.cells cs t (0, 0))) := by first | (go_simp; done) | (go_simp; rfl))
     : wpList P ops Q (o :: rest) a W := box_event hgd hd hrun h
theorem gl_ {w : World} (N : Option Tmp) {f : FuncId} {fn : Func} (hf : P.funcs[f]? = some fn) {as_ : Array Operand} {ts : Array TypeId} (args : Array Value) (h : Calls P f args w fun e w' => ∃ v, e = .returned v ∧ wpList P ops Q rest (a.put N v) w') (hd : o.dst = N := by rfl) (hg : o.guard = none := by rfl) (hname : (fn.name == "runtime.NumGoroutine") = false := by kernel_rfl) (hb : fn.body.isSome = true := by rfl)
    (hop : o.op = .call { callee := .value (.func f), args := as_, argTypes := ts } := by rfl) (hargs : as_.map a.eval = args := by (try simp only [List.map_toArray, List.map_cons, List.map_nil]); first | done | rfl | (simp only [List.length_drop, List.length_take]; rfl))
     : wpList P ops Q (o :: rest) a w := goesL_ N hd hg hf hname hb args hop hargs h
theorem ge_ {w : World} {N : Option Tmp} {K : Act → World → Prop} {f : FuncId} {fn : Func} {as_ : Array Operand} {ts : Array TypeId} (hf : P.funcs[f]? = some fn) (args : Array Value) (h : Calls P f args w fun e w' => ∃ v, e = .returned v ∧ K (a.put N v) w') (hname : (fn.name == "runtime.NumGoroutine") = false := by kernel_rfl) (hb : fn.body.isSome = true := by rfl)
    (hw : Region.wanted o (yielded ops a.tmps) = true := by rfl) (hN : o.dst = N := by rfl) (hop : o.op = .call { callee := .value (.func f), args := as_, argTypes := ts } := by rfl) (hargs : as_.map a.eval = args := by (try simp only [List.map_toArray, List.map_cons, List.map_nil]); first | done | rfl | (simp only [List.length_drop, List.length_take]; rfl))
     : if Region.wanted o (yielded ops a.tmps) = true then Oper.wp P o a w K Q else K (a.put N undef) w := goes_ hf hname hb args hw hN hop hargs h
end
theorem cz20 {w : World} {g : Nat} {t : TypeId} {x y : Value} (h : w.heap[g]? = some (.cells #[x, y] t (0, 0))) : w.cell? ⟨g, 0, none⟩ = some x := (blk_cell h 0).trans rfl
theorem cz21 {w : World} {g : Nat} {t : TypeId} {x y : Value} (h : w.heap[g]? = some (.cells #[x, y] t (0, 0))) : w.cell? ⟨g, 1, none⟩ = some y := (blk_cell h 1).trans rfl
theorem y1 {p q : Prop} (h0 : p) (h : p → q := by intro y0_; (repeat (first | exact (Kd.S_reads' y0_).2.2 | exact (Kd.Q_reads' y0_).2.2 | exact (Kd.R_reads' y0_).2.2 | exact (Kd.N_reads' y0_).2.2 | (with_reducible refine Kd.C_alloc ?_ _) | (with_reducible refine Kd.C_drewN ?_ _) | (with_reducible refine Kd.C_drew ?_)))) : q := h h0
theorem y2 {p q : Prop} (h0 : p) (h : p → q := by intro y0_; first | exact (Kd.S_reads' y0_).2.1 | exact (Kd.Q_reads' y0_).2.1 | exact (Kd.R_reads' y0_).2.1 | exact (Kd.N_reads' y0_).2.1) : q := h h0
theorem y3 {p r q : Prop} (h0 : p) (h1 : r) (h : p → r → q := by intro y0_ y1_; (repeat (first | exact (Kd.C_below y0_ y1_) | (with_reducible refine Kd.C_alloc ?_ _) | (with_reducible refine Kd.C_drewN ?_ _) | (with_reducible refine Kd.C_drew ?_)))) : q := h h0 h1
theorem y4 {p q : Prop} (h0 : p) (h : p → q := by intro y0_; (repeat (first | exact y0_ | (with_reducible refine Kd.C_alloc ?_ _) | (with_reducible refine Kd.C_drewN ?_ _) | (with_reducible refine Kd.C_drew ?_)))) : q := h h0
theorem bd_ {α β : Type} {o : Option α} {f : α → Option β} {r : β} (h : o.bind f = some r) : ∃ a, Aside0 (o = some a) ∧ f a = some r :=
  match Option.bind_eq_some_iff.mp h with | ⟨a, h1, h2⟩ => ⟨a, ⟨h1⟩, h2⟩
theorem nf_ : ¬ (false = true) := by decide
section
variable {α : Type} [BEq α] [LawfulBEq α] {a b : α}
theorem bt_ (h : a = b) : (a == b) = true := beq_iff_eq.mpr h
theorem bu_ (h : a = b) : (a != b) = false := bne_eq_false_iff_eq.mpr h
theorem bv_ (h : ¬ a = b) : (a == b) = false := beq_eq_false_iff_ne.mpr h
theorem bw_ (h : ¬ a = b) : (a != b) = true := bne_iff_ne.mpr h
end
theorem dT_ {p : Prop} [Decidable p] (h : p) : decide p = true := decide_eq_true h
theorem dF_ {p : Prop} [Decidable p] (h : ¬ p) : decide p = false := decide_eq_false h
section
variable {α : Type} {p q : Prop}
theorem ok_ [Decidable p] {x : Option α} {r : α} (h : (if p then x else none) = some r) : p ∧ x = some r := by
  by_cases k : p
  · rw [if_pos k] at h
    exact ⟨k, h⟩
  · rw [if_neg k] at h
    exact absurd h (by simp)
theorem od_ [Decidable p] {x : Option α} {r : α} (h : (if p then x else none) = some r) : decide p = true ∧ x = some r := ⟨decide_eq_true (ok_ h).1, (ok_ h).2⟩
theorem oa_ [Decidable p] (h : decide p = true := by first | (with_reducible assumption) | assumption) : p := of_decide_eq_true h
theorem xS (h0 : p) (h : p → q := by intro y0_; (with_reducible repeat (first | apply Kd.S_alloc | apply Kd.S_drewN | apply Kd.S_drew)); exact y0_) : q := h h0
theorem xR (h0 : p) (h : p → q := by intro y0_; (with_reducible repeat (first | apply Kd.R_alloc | apply Kd.R_drewN | apply Kd.R_drew)); exact y0_) : q := h h0
theorem xN (h0 : p) (h : p → q := by intro y0_; (with_reducible repeat (first | apply Kd.N_alloc | apply Kd.N_drewN | apply Kd.N_drew)); exact y0_) : q := h h0
theorem xb (h0 : p) (h : p → q := by intro y0_; (with_reducible repeat (first | refine blk_drewN ?_ _ | refine blk_drew ?_ | refine blk_alloc ?_ _)); exact y0_) : q := h h0
end
theorem al_ {w : World} {A : Option Addr} {n : Nat} {xs : List (List Int)} (h : Kd.C (Kd.slice 3 (Kd.int .i64)) w A n xs) (i : Int) (h0 : decide (0 ≤ i) = true := by first | (with_reducible assumption) | assumption) (h1 : decide (i < (n : Int)) = true := by first | (with_reducible assumption) | assumption) :
    ∃ ad A0 c0, A = some ad ∧ w.cell? (ad.add i.toNat) = some (.slice A0 (rd_L1 xs i).length c0) ∧ Aside0 ((rd_L1 xs i).length ≤ c0) ∧ Aside0 ((Kd.int .i64).C w A0 (rd_L1 xs i).length (rd_L1 xs i)) ∧ ((0 ≤ i) = True) ∧ ((i < (n : Int)) = True) := by
  obtain ⟨ad, A0, c0, h2, h3, h4, h5⟩ := at_L1 h i (of_decide_eq_true h0) (of_decide_eq_true h1)
  exact ⟨ad, A0, c0, h2, h3, ⟨h4⟩, ⟨h5⟩, eq_true (of_decide_eq_true h0), eq_true (of_decide_eq_true h1)⟩
theorem ai_ {w : World} {A : Option Addr} {n : Nat} {k : IntKind} {xs : List Int} (h : (Kd.int k).C w A n xs) (i : Int) (h0 : decide (0 ≤ i) = true := by first | (with_reducible assumption) | assumption) (h1 : decide (i < (n : Int)) = true := by first | (with_reducible assumption) | assumption) :
    ∃ ad, A = some ad ∧ w.cell? (ad.add i.toNat) = some (.int k (rd xs i)) ∧ ((0 ≤ i) = True) ∧ ((i < (n : Int)) = True) := by
  obtain ⟨ad, h2, h3⟩ := Kd.at_int h i (of_decide_eq_true h0) (of_decide_eq_true h1)
  exact ⟨ad, h2, h3, eq_true (of_decide_eq_true h0), eq_true (of_decide_eq_true h1)⟩
theorem ak {p : Prop} (h : p) : Aside0 p := ⟨h⟩
theorem ij_ {α : Type} {a b : α} (h : some a = some b) : a = b := Option.some.inj h
theorem is_ {o : Option Value} {A B : Option Addr} {n m c d : Nat} (h : o = some (.slice A n c)) (k : o = some (.slice B m d)) : A = B ∧ c = d := by
  have e := Option.some.inj (h.symm.trans k)
  injection e with e1 e2 e3
  exact ⟨e1, e3⟩
section
variable {α : Type} {p p2 p3 p4 p5 p6 : Prop} [Decidable p] [Decidable p2] [Decidable p3] [Decidable p4] [Decidable p5] [Decidable p6] {x y : Option α} {r : α}
theorem od2 (h : (if p then if p2 then x else none else none) = some r) : decide p = true ∧ decide p2 = true ∧ x = some r := ⟨(od_ h).1, od_ (od_ h).2⟩
theorem od3 (h : (if p then if p2 then if p3 then x else none else none else none) = some r) : decide p = true ∧ decide p2 = true ∧ decide p3 = true ∧ x = some r := ⟨(od_ h).1, od2 (od_ h).2⟩
theorem od4 (h : (if p then if p2 then if p3 then if p4 then x else none else none else none else none) = some r) : decide p = true ∧ decide p2 = true ∧ decide p3 = true ∧ decide p4 = true ∧ x = some r := ⟨(od_ h).1, od3 (od_ h).2⟩
theorem od5 (h : (if p then if p2 then if p3 then if p4 then if p5 then x else none else none else none else none else none) = some r) : decide p = true ∧ decide p2 = true ∧ decide p3 = true ∧ decide p4 = true ∧ decide p5 = true ∧ x = some r := ⟨(od_ h).1, od4 (od_ h).2⟩
theorem od6 (h : (if p then if p2 then if p3 then if p4 then if p5 then if p6 then x else none else none else none else none else none else none) = some r) : decide p = true ∧ decide p2 = true ∧ decide p3 = true ∧ decide p4 = true ∧ decide p5 = true ∧ decide p6 = true ∧ x = some r := ⟨(od_ h).1, od5 (od_ h).2⟩
theorem os_ (h : (if p then x else y) = some r) : decide p = true ∧ x = some r ∨ decide p = false ∧ y = some r := by
  by_cases k : p
  · rw [if_pos k] at h
    exact .inl ⟨decide_eq_true k, h⟩
  · rw [if_neg k] at h
    exact .inr ⟨decide_eq_false k, h⟩
theorem oe2 {β : Type} [BEq β] [LawfulBEq β] {a b : β} [Decidable (a = b)] (h : (if a = b then x else y) = some r) : (a = b ∧ (a == b) = true ∧ (a != b) = false) ∧ x = some r ∨ ((¬ a = b) ∧ (a == b) = false ∧ (a != b) = true) ∧ y = some r := by
  by_cases k : a = b
  · rw [if_pos k] at h
    exact .inl ⟨⟨k, bt_ k, bu_ k⟩, h⟩
  · rw [if_neg k] at h
    exact .inr ⟨⟨k, bv_ k, bw_ k⟩, h⟩
end
section
variable {α : Type} {p : Prop} {x y : Option α} {r : α}
theorem op_ [Decidable p] (h : (if p then x else y) = some r) : p ∧ x = some r ∨ ¬ p ∧ y = some r := by
  by_cases k : p
  · rw [if_pos k] at h
    exact .inl ⟨k, h⟩
  · rw [if_neg k] at h
    exact .inr ⟨k, h⟩
theorem ox_ {b : Bool} (h : (if b = true then x else y) = some r) : b = true ∧ x = some r ∨ b = false ∧ y = some r := by
  cases b with
  | true => exact .inl ⟨rfl, by rw [if_pos rfl] at h; exact h⟩
  | false => exact .inr ⟨rfl, by rw [if_neg nf_] at h; exact h⟩
end
end Go.Proofs.Ytacifhahfamipaa.P


-- written by gen.py (a program of this session) out of the kit's print of this seat's translation
namespace Go.Proofs.Ytacifhahfamipaa.P
open Go.RowKit Go.Proofs.YtacifhahfamipaaW.PrintWords Go.Proofs.YtacifhahfamipaaW.PrintLast Go.Proofs.YtacifhahfamipaaW.PrintMore
attribute [local go_sem] max2_int min2_int max_two min_two max_three min_three max_four min_four
set_option linter.unusedVariables false
set_option linter.unusedSimpArgs false
theorem z6_3 {p : Prop} (h : p := by have := a9.out; have := HK2.out; have := d7.out; have := HK4.out; have := d3.out; omega) : p := h
theorem z6_2 {p : Prop} (h : p := by have := a9.out; have := HK2.out; have := HK3.out; have := HK4.out; have := HK5.out; omega) : p := h
theorem z6_1 {p : Prop} (h : p := by first | rfl | (simp; done) | (simp [*]; done)) : p := h
theorem z6_0 {p : Prop} (h : p := by repeat (first | exact Drawn0.refl _ | apply Drawn0.step)) : p := h
set_option maxHeartbeats 8000000 in
set_option maxRecDepth 100000 in
theorem impl_OrderOk.calls (k : Nat) (A0 : Option Addr) (c0 : Nat) (l0 : List (List Int)) (r : Bool) (w : World) (hr0 : Kd.C (Kd.slice 3 (Kd.int .i64)) w A0 l0.length l0) (hc0 : l0.length ≤ c0) (h : impl_OrderOk.f k l0 = some r) :
 Calls Try.prog 67 #[.slice A0 l0.length c0] w fun e w' => e = .returned (.bool r) ∧ Drawn0 w w' := by
 have HR0 := ak hr0
 have m8 := ak hc0
 clear hr0 hc0
 have H : (if (l0.length : Int) < 1 then (impl_OrderOk.j0 k l0 (l0.length : Int) true) else (impl_OrderOk.j0 k l0 (l0.length : Int) (decide ((l0.length : Int) > 12)))) = some r := h
 clear h
 have h4 := ak H
 clear H
 go_enter Try.func67, Try.ntmps67
 go_upto_region 2 with (fail)
 go_cut [18] (fun k8 wc => ∃ (kq : Nat) (b6 : Bool), k8 = .bool b6 ∧ Aside0 (impl_OrderOk.j0 kq l0 (l0.length : Int) b6 = some r) ∧ Aside0 (kq ≤ k) ∧ Drawn0 w wc)
 case first =>
  have H := h4.out
  clear h4
  replace H := op_ H
  rcases H with ⟨c3, H⟩ | ⟨c3, H⟩
  ·
   have b7 : decide ((l0.length : Int) < 1) = true := dT_ c3
   have h5 : decide (l0.length < 1) = true := dT_ (by omega)
   clear c3
   (first | rw [b7] | (simp only [i64_w, i32_w]; rw [b7]) | skip)
   have H' := ak H
   clear H
   go_wp2
   go_meet
   case rel => exact ⟨_, (true), z6_1, H', ⟨(by first | omega | exact Nat.le_refl _)⟩, z6_0⟩
  have b7 : decide ((l0.length : Int) < 1) = false := dF_ c3
  have h5 : decide (l0.length < 1) = false := dF_ (by omega)
  clear c3
  (first | rw [b7] | (simp only [i64_w, i32_w]; rw [b7]) | skip)
  have H' := ak H
  clear H
  go_wp2
  go_meet
  case rel => exact ⟨_, (decide ((l0.length : Int) > 12)), z6_1, H', ⟨(by first | omega | exact Nat.le_refl _)⟩, z6_0⟩
 case rest =>
  clear h4
  obtain ⟨kq, b6, rfl, HA, a9, ⟨mc1, rfl⟩⟩ := hcut
  cases kq with
  | zero => exact absurd HA.out (by simp [impl_OrderOk.j0])
  | succ i6 =>
   have H := HA.out
   clear HA
   simp only [impl_OrderOk.j0] at H
   replace H := ox_ H
   rcases H with ⟨rfl, H⟩ | ⟨rfl, H⟩
   ·
    obtain rfl := Option.some.inj H
    go_wp2
    go_ret
    exact ⟨z6_1, z6_0⟩
   have H' := ak H
   clear H
   go_wp2
   go_loopg [21] i6 (fun kq k9 w' => ∃ (a0 : Int), k9 = .int .i64 a0 ∧ Aside0 (impl_OrderOk.l0 kq l0 (l0.length : Int) l0 (l0.length : Int) a0 = some r) ∧ Aside0 (kq ≤ i6) ∧ Drawn0 w w')
   case atStart => exact ⟨(0), z6_1, H', ⟨Nat.le_refl _⟩, z6_0⟩
   case round =>
    clear H'
    try clear c4
    obtain ⟨a0, rfl, HA, HK2, ⟨m2, rfl⟩⟩ := hrel
    cases gk with
    | zero => exact absurd HA.out (by simp [impl_OrderOk.l0])
    | succ k2 =>
     have H := HA.out
     clear HA
     simp only [impl_OrderOk.l0] at H
     replace H := os_ H
     rcases H with ⟨b1, H⟩ | ⟨b1, H⟩
     ·
      replace H := od2 H
      obtain ⟨e0, e1, H⟩ := H
      have h6 := ak H
      clear H
      obtain ⟨ad148, h7, h8, e148, hx148_0, h3, HR148_0, e2, q148⟩ := al_ HR0.out a0
      cases e148
      go_upto_region 7 with (fail)
      go_cut [36] (fun l5 wc => ∃ (kq : Nat) (b8 : Bool), l5 = .bool b8 ∧ Aside0 (impl_OrderOk.j2 kq l0 (l0.length : Int) a0 (rd_L1 l0 a0) l0 (l0.length : Int) a0 b8 = some r) ∧ Aside0 (kq ≤ k2) ∧ Drawn0 w wc)
      case first =>
       have H := h6.out
       clear h6
       replace H := oe2 H
       rcases H with ⟨⟨c9, b9, h9⟩, H⟩ | ⟨⟨c9, b9, h9⟩, H⟩
       ·
        have i0 : ((rd_L1 l0 a0).length == l0.length) = true := by first | simpa using c9 | (simp at c9 ⊢; omega)
        clear c9
        (first | rw [b9] | (simp only [i64_w, i32_w]; rw [b9]) | skip)
        replace H := od_ H
        obtain ⟨i7, H⟩ := H
        have H' := ak H
        clear H
        obtain ⟨ad149, e149, hx149_0, l6, q149⟩ := ai_ HR148_0.out a0
        cases e149
        go_wp2
        go_meet
        case rel => exact ⟨_, (((rd (rd_L1 l0 a0) a0) != 1)), z6_1, H', ⟨(by have := a9.out; have := HK2.out; first | omega | exact Nat.le_refl _)⟩, z6_0⟩
       have i0 : ((rd_L1 l0 a0).length == l0.length) = false := by first | simpa using c9 | (simp at c9 ⊢; omega)
       (first | rw [b9] | (simp only [i64_w, i32_w]; rw [b9]) | skip)
       have H' := ak H
       clear H
       go_wp2
       go_meet
       case rel => exact ⟨_, (true), z6_1, H', ⟨(by have := a9.out; have := HK2.out; first | omega | exact Nat.le_refl _)⟩, z6_0⟩
      case rest =>
       clear h6
       try clear c4
       try clear c5
       try clear b1
       try clear c6
       try clear e0
       try clear c7
       try clear e1
       try clear hx148_0
       try clear e2
       try clear q148
       obtain ⟨kq, b8, rfl, HA, d7, ⟨mc7, rfl⟩⟩ := hcut
       cases kq with
       | zero => exact absurd HA.out (by simp [impl_OrderOk.j2])
       | succ i8 =>
        have H := HA.out
        clear HA
        simp only [impl_OrderOk.j2] at H
        replace H := ox_ H
        rcases H with ⟨rfl, H⟩ | ⟨rfl, H⟩
        ·
         obtain rfl := Option.some.inj H
         go_wp2
         go_ret
         exact ⟨z6_1, z6_0⟩
        have H' := ak H
        clear H
        go_wp2
        go_loopg [39] i8 (fun kq l7 w' => ∃ (a1 : Int), l7 = .int .i64 a1 ∧ Aside0 (impl_OrderOk.l1 kq l0 (l0.length : Int) a0 l0 (l0.length : Int) a0 (rd_L1 l0 a0) ((rd_L1 l0 a0).length : Int) a1 = some r) ∧ Aside0 (kq ≤ i8) ∧ Drawn0 w w')
        case atStart => exact ⟨(0), z6_1, H', ⟨Nat.le_refl _⟩, z6_0⟩
        case round =>
         clear H'
         try clear c4
         try clear c5
         try clear b1
         try clear c6
         try clear e0
         try clear c7
         try clear e1
         try clear l8
         try clear hx148_0
         try clear e2
         try clear q148
         obtain ⟨a1, rfl, HA, HK4, ⟨m4, rfl⟩⟩ := hrel
         cases gk with
         | zero => exact absurd HA.out (by simp [impl_OrderOk.l1])
         | succ k4 =>
          have H := HA.out
          clear HA
          simp only [impl_OrderOk.l1] at H
          replace H := os_ H
          rcases H with ⟨d8, H⟩ | ⟨d8, H⟩
          ·
           replace H := od2 H
           obtain ⟨f2, f3, H⟩ := H
           have e3 := ak H
           clear H
           obtain ⟨ad150, e150, hx150_0, i1, q150⟩ := ai_ HR148_0.out a1
           cases e150
           go_upto_region 12 with (fail)
           go_cut [49] (fun l9 wc => ∃ (kq : Nat) (b2 : Bool), l9 = .bool b2 ∧ Aside0 (impl_OrderOk.j4 kq l0 (l0.length : Int) a0 a1 (rd (rd_L1 l0 a0) a1) l0 (l0.length : Int) a0 (rd_L1 l0 a0) ((rd_L1 l0 a0).length : Int) a1 b2 = some r) ∧ Aside0 (kq ≤ k4) ∧ Drawn0 w wc)
           case first =>
            have H := e3.out
            clear e3
            replace H := oe2 H
            rcases H with ⟨⟨-, b0, f4⟩, H⟩ | ⟨⟨m9, b0, f4⟩, H⟩
            ·
             (first | rw [b0] | (simp only [i64_w, i32_w]; rw [b0]) | skip)
             have H' := ak H
             clear H
             go_wp2
             go_meet
             case rel => exact ⟨_, (false), z6_1, H', ⟨(by have := a9.out; have := HK2.out; have := d7.out; have := HK4.out; first | omega | exact Nat.le_refl _)⟩, z6_0⟩
            (first | rw [b0] | (simp only [i64_w, i32_w]; rw [b0]) | skip)
            have H' := ak H
            clear H
            go_wp2
            go_meet
            case rel => exact ⟨_, (((rd (rd_L1 l0 a0) a1) != 1)), z6_1, H', ⟨(by have := a9.out; have := HK2.out; have := d7.out; have := HK4.out; first | omega | exact Nat.le_refl _)⟩, z6_0⟩
           case rest =>
            clear e3
            try clear c4
            try clear c5
            try clear b1
            try clear c6
            try clear e0
            try clear c7
            try clear e1
            try clear l8
            try clear n0
            try clear d8
            try clear n1
            try clear f2
            try clear n2
            try clear f3
            try clear hx148_0
            try clear hx150_0
            try clear e2
            try clear i1
            try clear q148
            try clear q150
            obtain ⟨kq, b2, rfl, HA, d3, ⟨mc14, rfl⟩⟩ := hcut
            cases kq with
            | zero => exact absurd HA.out (by simp [impl_OrderOk.j4])
            | succ e4 =>
             have H := HA.out
             clear HA
             simp only [impl_OrderOk.j4] at H
             replace H := ox_ H
             rcases H with ⟨rfl, H⟩ | ⟨rfl, H⟩
             ·
              obtain rfl := Option.some.inj H
              go_wp2
              go_ret
              exact ⟨z6_1, z6_0⟩
             replace H := od2 H
             obtain ⟨i9, j1, H⟩ := H
             replace H := oe2 H
             rcases H with ⟨⟨f1, f5, f6⟩, H⟩ | ⟨⟨f1, f5, f6⟩, H⟩
             ·
              have f7 : ((rd_L1 l0 a1).length == l0.length) = true := by first | simpa using f1 | (simp at f1 ⊢; omega)
              clear f1
              replace H := oe2 H
              rcases H with ⟨⟨-, f8, f9⟩, H⟩ | ⟨⟨n3, f8, f9⟩, H⟩
              ·
               replace H := oe2 H
               rcases H with ⟨⟨-, g0, g1⟩, H⟩ | ⟨⟨n4, g0, g1⟩, H⟩
               ·
                have H' := ak H
                clear H
                obtain ⟨ad151, a6, a7, e151, hx151_0, a5, HR151_0, d4, q151⟩ := al_ HR0.out a1
                obtain rfl := ij_ e151
                go_wp2
                go_roundg e4
                case measure => have := a9.out; have := HK2.out; have := d7.out; have := HK4.out; have := d3.out; omega
                case rel => exact ⟨(wrap64 (a1 + 1)), z6_1, H', ⟨z6_3⟩, z6_0⟩
               replace H := od2 H
               obtain ⟨j3, j5, H⟩ := H
               replace H := oe2 H
               rcases H with ⟨⟨-, g2, g3⟩, H⟩ | ⟨⟨n5, g2, g3⟩, H⟩
               ·
                obtain rfl := Option.some.inj H
                obtain ⟨ad151, a6, a7, e151, hx151_0, a5, HR151_0, d4, q151⟩ := al_ HR0.out a1
                obtain rfl := ij_ e151
                obtain ⟨ad152, e5, e6, e152, hx152_0, d5, HR152_0, i2, q152⟩ := al_ HR0.out a1
                obtain rfl := ij_ e152
                obtain ⟨rfl, rfl⟩ := is_ hx151_0 hx152_0
                obtain ⟨ad153, e153, hx153_0, i3, q153⟩ := ai_ HR152_0.out a0
                cases e153
                go_wp2
                go_ret
                exact ⟨z6_1, z6_0⟩
               have H' := ak H
               clear H
               obtain ⟨ad151, a6, a7, e151, hx151_0, a5, HR151_0, d4, q151⟩ := al_ HR0.out a1
               obtain rfl := ij_ e151
               obtain ⟨ad152, e5, e6, e152, hx152_0, d5, HR152_0, i2, q152⟩ := al_ HR0.out a1
               obtain rfl := ij_ e152
               obtain ⟨rfl, rfl⟩ := is_ hx151_0 hx152_0
               obtain ⟨ad153, e153, hx153_0, i3, q153⟩ := ai_ HR152_0.out a0
               cases e153
               go_wp2
               go_roundg e4
               case measure => have := a9.out; have := HK2.out; have := d7.out; have := HK4.out; have := d3.out; omega
               case rel => exact ⟨(wrap64 (a1 + 1)), z6_1, H', ⟨z6_3⟩, z6_0⟩
              have H' := ak H
              clear H
              obtain ⟨ad151, a6, a7, e151, hx151_0, a5, HR151_0, d4, q151⟩ := al_ HR0.out a1
              obtain rfl := ij_ e151
              go_wp2
              go_roundg e4
              case measure => have := a9.out; have := HK2.out; have := d7.out; have := HK4.out; have := d3.out; omega
              case rel => exact ⟨(wrap64 (a1 + 1)), z6_1, H', ⟨z6_3⟩, z6_0⟩
             have f7 : ((rd_L1 l0 a1).length == l0.length) = false := by first | simpa using f1 | (simp at f1 ⊢; omega)
             obtain rfl := Option.some.inj H
             obtain ⟨ad151, a6, a7, e151, hx151_0, a5, HR151_0, d4, q151⟩ := al_ HR0.out a1
             obtain rfl := ij_ e151
             go_wp2
             go_ret
             exact ⟨z6_1, z6_0⟩
          have H' := ak H
          clear H
          go_wp2
          go_roundg k4
          case measure => have := a9.out; have := HK2.out; have := d7.out; have := HK4.out; omega
          case rel => exact ⟨(wrap64 (a0 + 1)), z6_1, H', ⟨(by have := a9.out; have := HK2.out; have := d7.out; have := HK4.out; omega)⟩, z6_0⟩
     have H' := ak H
     clear H
     go_wp2
     go_loopg [79] k2 (fun kq m0 w' => ∃ (a2 : Int), m0 = .int .i64 a2 ∧ Aside0 (impl_OrderOk.l2 kq l0 (l0.length : Int) (l0.length : Int) a2 = some r) ∧ Aside0 (kq ≤ k2) ∧ Drawn0 w w')
     case atStart => exact ⟨(0), z6_1, H', ⟨Nat.le_refl _⟩, z6_0⟩
     case round =>
      clear H'
      try clear c4
      try clear c5
      try clear b1
      obtain ⟨a2, rfl, HA, HK3, ⟨m3, rfl⟩⟩ := hrel
      cases gk with
      | zero => exact absurd HA.out (by simp [impl_OrderOk.l2])
      | succ k3 =>
       have H := HA.out
       clear HA
       simp only [impl_OrderOk.l2] at H
       replace H := os_ H
       rcases H with ⟨d0, H⟩ | ⟨d0, H⟩
       ·
        have H' := ak H
        clear H
        go_wp2
        go_loopg [83] k3 (fun kq m1 w' => ∃ (a3 : Int), m1 = .int .i64 a3 ∧ Aside0 (impl_OrderOk.l3 kq l0 (l0.length : Int) a2 (l0.length : Int) a2 (l0.length : Int) a3 = some r) ∧ Aside0 (kq ≤ k3) ∧ Drawn0 w w')
        case atStart => exact ⟨(0), z6_1, H', ⟨Nat.le_refl _⟩, z6_0⟩
        case round =>
         clear H'
         try clear c4
         try clear c5
         try clear b1
         try clear m6
         try clear d0
         obtain ⟨a3, rfl, HA, HK4, ⟨m4, rfl⟩⟩ := hrel
         cases gk with
         | zero => exact absurd HA.out (by simp [impl_OrderOk.l3])
         | succ k4 =>
          have H := HA.out
          clear HA
          simp only [impl_OrderOk.l3] at H
          replace H := os_ H
          rcases H with ⟨d9, H⟩ | ⟨d9, H⟩
          ·
           have H' := ak H
           clear H
           go_wp2
           go_loopg [87] k4 (fun kq m7 w' => ∃ (a4 : Int), m7 = .int .i64 a4 ∧ Aside0 (impl_OrderOk.l4 kq l0 (l0.length : Int) a2 a3 (l0.length : Int) a2 (l0.length : Int) a3 (l0.length : Int) a4 = some r) ∧ Aside0 (kq ≤ k4) ∧ Drawn0 w w')
           case atStart => exact ⟨(0), z6_1, H', ⟨Nat.le_refl _⟩, z6_0⟩
           case round =>
            clear H'
            try clear c4
            try clear c5
            try clear b1
            try clear m6
            try clear d0
            try clear n6
            try clear d9
            obtain ⟨a4, rfl, HA, HK5, ⟨m5, rfl⟩⟩ := hrel
            cases gk with
            | zero => exact absurd HA.out (by simp [impl_OrderOk.l4])
            | succ k5 =>
             have H := HA.out
             clear HA
             simp only [impl_OrderOk.l4] at H
             replace H := os_ H
             rcases H with ⟨g4, H⟩ | ⟨g4, H⟩
             ·
              replace H := od4 H
              obtain ⟨j6, j7, j8, j9, H⟩ := H
              replace H := oe2 H
              rcases H with ⟨⟨-, g5, g6⟩, H⟩ | ⟨⟨n7, g5, g6⟩, H⟩
              ·
               replace H := od3 H
               obtain ⟨k0, k1, k6, H⟩ := H
               replace H := oe2 H
               rcases H with ⟨⟨-, g7, g8⟩, H⟩ | ⟨⟨n8, g7, g8⟩, H⟩
               ·
                replace H := od_ H
                obtain ⟨k7, H⟩ := H
                replace H := oe2 H
                rcases H with ⟨⟨-, g9, h0⟩, H⟩ | ⟨⟨n9, g9, h0⟩, H⟩
                ·
                 have H' := ak H
                 clear H
                 obtain ⟨ad154, b3, b4, e154, hx154_0, a8, HR154_0, e7, q154⟩ := al_ HR0.out a2
                 cases e154
                 obtain ⟨ad155, e155, hx155_0, e8, q155⟩ := ai_ HR154_0.out a3
                 cases e155
                 obtain ⟨ad156, d1, d2, e156, hx156_0, b5, HR156_0, h1, q156⟩ := al_ HR0.out a3
                 obtain rfl := ij_ e156
                 obtain ⟨ad157, e157, hx157_0, h2, q157⟩ := ai_ HR156_0.out a4
                 cases e157
                 obtain ⟨ad158, e9, f0, e158, hx158_0, d6, HR158_0, i4, q158⟩ := al_ HR0.out a2
                 obtain rfl := ij_ e158
                 obtain ⟨rfl, rfl⟩ := is_ hx154_0 hx158_0
                 obtain ⟨ad159, e159, hx159_0, i5, q159⟩ := ai_ HR158_0.out a4
                 cases e159
                 go_wp2
                 go_roundg k5
                 case measure => have := a9.out; have := HK2.out; have := HK3.out; have := HK4.out; have := HK5.out; omega
                 case rel => exact ⟨(wrap64 (a4 + 1)), z6_1, H', ⟨z6_2⟩, z6_0⟩
                obtain rfl := Option.some.inj H
                obtain ⟨ad154, b3, b4, e154, hx154_0, a8, HR154_0, e7, q154⟩ := al_ HR0.out a2
                cases e154
                obtain ⟨ad155, e155, hx155_0, e8, q155⟩ := ai_ HR154_0.out a3
                cases e155
                obtain ⟨ad156, d1, d2, e156, hx156_0, b5, HR156_0, h1, q156⟩ := al_ HR0.out a3
                obtain rfl := ij_ e156
                obtain ⟨ad157, e157, hx157_0, h2, q157⟩ := ai_ HR156_0.out a4
                cases e157
                obtain ⟨ad158, e9, f0, e158, hx158_0, d6, HR158_0, i4, q158⟩ := al_ HR0.out a2
                obtain rfl := ij_ e158
                obtain ⟨rfl, rfl⟩ := is_ hx154_0 hx158_0
                obtain ⟨ad159, e159, hx159_0, i5, q159⟩ := ai_ HR158_0.out a4
                cases e159
                go_wp2
                go_ret
                exact ⟨z6_1, z6_0⟩
               have H' := ak H
               clear H
               obtain ⟨ad154, b3, b4, e154, hx154_0, a8, HR154_0, e7, q154⟩ := al_ HR0.out a2
               cases e154
               obtain ⟨ad155, e155, hx155_0, e8, q155⟩ := ai_ HR154_0.out a3
               cases e155
               obtain ⟨ad156, d1, d2, e156, hx156_0, b5, HR156_0, h1, q156⟩ := al_ HR0.out a3
               obtain rfl := ij_ e156
               obtain ⟨ad157, e157, hx157_0, h2, q157⟩ := ai_ HR156_0.out a4
               cases e157
               go_wp2
               go_roundg k5
               case measure => have := a9.out; have := HK2.out; have := HK3.out; have := HK4.out; have := HK5.out; omega
               case rel => exact ⟨(wrap64 (a4 + 1)), z6_1, H', ⟨z6_2⟩, z6_0⟩
              have H' := ak H
              clear H
              obtain ⟨ad154, b3, b4, e154, hx154_0, a8, HR154_0, e7, q154⟩ := al_ HR0.out a2
              cases e154
              obtain ⟨ad155, e155, hx155_0, e8, q155⟩ := ai_ HR154_0.out a3
              cases e155
              go_wp2
              go_roundg k5
              case measure => have := a9.out; have := HK2.out; have := HK3.out; have := HK4.out; have := HK5.out; omega
              case rel => exact ⟨(wrap64 (a4 + 1)), z6_1, H', ⟨z6_2⟩, z6_0⟩
             have H' := ak H
             clear H
             go_wp2
             go_roundg k5
             case measure => have := a9.out; have := HK2.out; have := HK3.out; have := HK4.out; have := HK5.out; omega
             case rel => exact ⟨(wrap64 (a3 + 1)), z6_1, H', ⟨z6_2⟩, z6_0⟩
          have H' := ak H
          clear H
          go_wp2
          go_roundg k4
          case measure => have := a9.out; have := HK2.out; have := HK3.out; have := HK4.out; omega
          case rel => exact ⟨(wrap64 (a2 + 1)), z6_1, H', ⟨(by have := a9.out; have := HK2.out; have := HK3.out; have := HK4.out; omega)⟩, z6_0⟩
       obtain rfl := Option.some.inj H
       go_wp2
       go_ret
       exact ⟨z6_1, z6_0⟩

end Go.Proofs.Ytacifhahfamipaa.P

-- written by gen.py (a program of this session) out of the kit's print of this seat's translation
namespace Go.Proofs.Ytacifhahfamipaa.P
open Go.RowKit Go.Proofs.YtacifhahfamipaaW.PrintWords Go.Proofs.YtacifhahfamipaaW.PrintLast Go.Proofs.YtacifhahfamipaaW.PrintMore
attribute [local go_sem] max2_int min2_int max_two min_two max_three min_three max_four min_four
set_option linter.unusedVariables false
set_option linter.unusedSimpArgs false
theorem z4_1 {p : Prop} (h : p := by repeat (first | exact Drawn0.refl _ | apply Drawn0.step)) : p := h
theorem z4_0 {p : Prop} (h : p := by first | rfl | (simp; done) | (simp [*]; done)) : p := h
set_option maxHeartbeats 8000000 in
set_option maxRecDepth 100000 in
theorem impl_LeastOf.calls (k : Nat) (A0 : Option Addr) (c0 : Nat) (l0 : List (List Int)) (r1 : Int) (r2 : Bool) (w : World) (hr0 : Kd.C (Kd.slice 3 (Kd.int .i64)) w A0 l0.length l0) (hc0 : l0.length ≤ c0) (h : impl_LeastOf.f k l0 = some (r1, r2)) :
 Calls Try.prog 69 #[.slice A0 l0.length c0] w fun e w' => e = .returned (.tuple #[.int .i64 r1, .bool r2]) ∧ Drawn0 w w' := by
 have HR0 := ak hr0
 have b3 := ak hc0
 clear hr0 hc0
 have H : ((impl_OrderOk.f k l0).bind fun a3 => (if a3 = true then (impl_LeastOf.l0 k l0 (l0.length : Int) 0) else (some ((-1), false)))) = some (r1, r2) := h
 clear h
 obtain ⟨a3, A2, H⟩ := bd_ H
 try dsimp only at H
 replace H := ox_ H
 rcases H with ⟨rfl, H⟩ | ⟨rfl, H⟩
 ·
  have H' := ak H
  clear H
  go_enter Try.func69, Try.ntmps69
  go_wp2_with (first | ((with_reducible refine gate_callee (f := 67) rfl ?_); refine gl_ (some 10) Try.func67 #[.slice A0 l0.length c0] ?_; (with_reducible refine (impl_OrderOk.calls k _ _ l0 true _ (y4 HR0.out) b3.out A2.out).mono ?_); rintro e w' ⟨rfl, ⟨nd, rfl⟩⟩; refine ⟨_, rfl, ?_⟩))
  go_loopg [14] k (fun kq b4 w' => ∃ (a0 : Int), b4 = .int .i64 a0 ∧ Aside0 (impl_LeastOf.l0 kq l0 (l0.length : Int) a0 = some (r1, r2)) ∧ Aside0 (kq ≤ k) ∧ Drawn0 w w')
  case atStart => exact ⟨(0), z4_0, H', ⟨Nat.le_refl _⟩, z4_1⟩
  case round =>
   clear H'
   try clear c3
   obtain ⟨a0, rfl, HA, HK1, ⟨m1, rfl⟩⟩ := hrel
   cases gk with
   | zero => exact absurd HA.out (by simp [impl_LeastOf.l0])
   | succ k1 =>
    have H := HA.out
    clear HA
    simp only [impl_LeastOf.l0] at H
    replace H := os_ H
    rcases H with ⟨a4, H⟩ | ⟨a4, H⟩
    ·
     replace H := od2 H
     obtain ⟨a6, a7, H⟩ := H
     have H' := ak H
     clear H
     obtain ⟨ad175, a8, a9, e175, hx175_0, a5, HR175_0, b0, q175⟩ := al_ HR0.out a0
     cases e175
     go_wp2
     go_loopg [6, 21] k1 (fun kq v6 b5 w' => ∃ (a2 : Bool) (a1 : Int), v6 = .bool a2 ∧ b5 = .int .i64 a1 ∧ Aside0 (impl_LeastOf.l1 kq a0 a2 l0 (l0.length : Int) a0 (rd_L1 l0 a0) ((rd_L1 l0 a0).length : Int) a1 = some (r1, r2)) ∧ Aside0 (kq ≤ k1) ∧ Drawn0 w w')
     case atStart => exact ⟨(true), (0), z4_0, z4_0, H', ⟨Nat.le_refl _⟩, z4_1⟩
     case round =>
      clear H'
      try clear c3
      try clear c4
      try clear a4
      try clear c5
      try clear a6
      try clear c6
      try clear a7
      try clear hx175_0
      try clear b0
      try clear q175
      obtain ⟨a2, a1, rfl, rfl, HA, HK2, ⟨m2, rfl⟩⟩ := hrel
      cases gk with
      | zero => exact absurd HA.out (by simp [impl_LeastOf.l1])
      | succ k2 =>
       have H := HA.out
       clear HA
       simp only [impl_LeastOf.l1] at H
       replace H := os_ H
       rcases H with ⟨b1, H⟩ | ⟨b1, H⟩
       ·
        replace H := od2 H
        obtain ⟨b6, b7, H⟩ := H
        replace H := ox_ H
        rcases H with ⟨rfl, H⟩ | ⟨rfl, H⟩
        ·
         have H' := ak H
         clear H
         obtain ⟨ad176, e176, hx176_0, b2, q176⟩ := ai_ HR175_0.out a1
         cases e176
         go_wp2
         go_roundg k2
         case measure => have := HK1.out; have := HK2.out; omega
         case rel => exact ⟨(((rd (rd_L1 l0 a0) a1) == 1)), (wrap64 (a1 + 1)), z4_0, z4_0, H', ⟨(by have := HK1.out; have := HK2.out; omega)⟩, z4_1⟩
        have H' := ak H
        clear H
        obtain ⟨ad176, e176, hx176_0, b2, q176⟩ := ai_ HR175_0.out a1
        cases e176
        go_wp2
        go_roundg k2
        case measure => have := HK1.out; have := HK2.out; omega
        case rel => exact ⟨(false), (wrap64 (a1 + 1)), z4_0, z4_0, H', ⟨(by have := HK1.out; have := HK2.out; omega)⟩, z4_1⟩
       replace H := ox_ H
       rcases H with ⟨rfl, H⟩ | ⟨rfl, H⟩
       ·
        simp only [Option.some.injEq, Prod.mk.injEq] at H
        obtain ⟨rfl, rfl⟩ := H
        go_wp2
        go_ret2
        exact ⟨z4_0, z4_1⟩
       have H' := ak H
       clear H
       go_wp2
       go_roundg k2
       case measure => have := HK1.out; have := HK2.out; omega
       case rel => exact ⟨(wrap64 (a0 + 1)), z4_0, H', ⟨(by have := HK1.out; have := HK2.out; omega)⟩, z4_1⟩
    simp only [Option.some.injEq, Prod.mk.injEq] at H
    obtain ⟨rfl, rfl⟩ := H
    go_wp2
    go_ret2
    exact ⟨z4_0, z4_1⟩
 simp only [Option.some.injEq, Prod.mk.injEq] at H
 obtain ⟨rfl, rfl⟩ := H
 go_enter Try.func69, Try.ntmps69
 go_wp2_with (first | ((with_reducible refine gate_callee (f := 67) rfl ?_); refine gl_ (some 10) Try.func67 #[.slice A0 l0.length c0] ?_; (with_reducible refine (impl_OrderOk.calls k _ _ l0 false _ (y4 HR0.out) b3.out A2.out).mono ?_); rintro e w' ⟨rfl, ⟨nd, rfl⟩⟩; refine ⟨_, rfl, ?_⟩))
 go_ret2
 exact ⟨z4_0, z4_1⟩

end Go.Proofs.Ytacifhahfamipaa.P

-- written by gen.py (a program of this session) out of the kit's print of this seat's translation
namespace Go.Proofs.Ytacifhahfamipaa.P
open Go.RowKit Go.Proofs.YtacifhahfamipaaW.PrintWords Go.Proofs.YtacifhahfamipaaW.PrintLast Go.Proofs.YtacifhahfamipaaW.PrintMore
attribute [local go_sem] max2_int min2_int max_two min_two max_three min_three max_four min_four
set_option linter.unusedVariables false
set_option linter.unusedSimpArgs false
theorem z1_1 {p : Prop} (h : p := by first | rfl | (simp; done) | (simp [*]; done)) : p := h
theorem z1_0 {p : Prop} (h : p := by repeat (first | (with_reducible first | exact HB.out | apply below_alloc | apply pw_below_drewN | apply below_drew1) | exact HB.out)) : p := h
set_option maxHeartbeats 8000000 in
set_option maxRecDepth 100000 in
theorem impl_AtomsOf.calls (k : Nat) (A0 : Option Addr) (c0 : Nat) (l0 : List (List Int)) (r : List Int) (w : World) (hr0 : Kd.C (Kd.slice 3 (Kd.int .i64)) w A0 l0.length l0) (hc0 : l0.length ≤ c0) (h : impl_AtomsOf.f k l0 = some r) :
 Calls Try.prog 21 #[.slice A0 l0.length c0] w fun e w' => ∃ v0_ : Value, e = .returned (v0_) ∧ Kd.R (Kd.int .i64) 3 w' w.heap.size (fun _ => True) v0_ r ∧ Below w.heap.size w w' := by
 have HR0 := ak hr0
 have d0 := ak hc0
 clear hr0 hc0
 have HB := ak (Below.refl w.heap.size w)
 have H : ((impl_LeastOf.f k l0).bind fun a6 => (if a6.2 = true then (impl_AtomsOf.l0 k l0 a6.1 (([] : List Int)) (l0.length : Int) 0) else (some ([] : List Int)))) = some r := h
 clear h
 obtain ⟨⟨a4, d4⟩, A2, H⟩ := bd_ H
 try dsimp only at H
 replace H := ox_ H
 rcases H with ⟨rfl, H⟩ | ⟨rfl, H⟩
 ·
  obtain ⟨y210, hy210⟩ : ∃ y_ : List Int, y_ = (([] : List Int)) := ⟨_, rfl⟩
  replace H : (impl_AtomsOf.l0 k l0 a4 y210 (l0.length : Int) 0) = some r := by first | (rw [hy210]; with_reducible exact H) | (have H2_ := (Option.bind_some _ _).symm.trans H; rw [hy210]; with_reducible exact H2_) | (have H2_ := (Option.bind_some _ _).symm.trans H; with_reducible exact H2_) | with_reducible exact H | (rw [hy210]; exact H) | exact H
  have Ny210 := ak hy210
  clear hy210
  have H' := ak H
  clear H
  go_enter Try.func21, Try.ntmps21
  go_wp2_with (first | ((with_reducible refine gate_callee (f := 69) rfl ?_); refine gl_ (some 11) Try.func69 #[.slice A0 l0.length c0] ?_; (with_reducible refine (impl_LeastOf.calls k _ _ l0 a4 true _ (y4 HR0.out) d0.out A2.out).mono ?_); rintro e w' ⟨rfl, ⟨nd, rfl⟩⟩; refine ⟨_, rfl, ?_⟩) | ((with_reducible refine gate_dst (N := 16) rfl ?_); refine Kd.R_lit (Kd.int .i64) _ 3 ?hg (N := 16) ?hd (xs := ([] : List Int)) (inner := []) (ok := fun _ => True) (okp := fun _ => True) ?hr ?hp (fun _ hk => hk) trivial (Below.refl _ _) (Nat.le_refl _) (by simp) ?_; (case hd => rfl); (case hg => rfl); (case hr => first | (go_simp; done) | (go_simp; rfl)); (case hp => exact (Reps.none _ _)); intro d5 w4 ho5 hb hg_ hnew_; clear hg_ hnew_; (first | rw [← Ny210.out] at ho5 | (simp only [Int.reduceToNat] at ho5; rw [← Ny210.out] at ho5)); have a9 := ak (Kd.R_lower ho5 (below_size z1_0)); replace HB := ak (below_step z1_0 hb); clear hb ho5))
  go_loopg [5, 19] k (fun kq v5 d6 w' => ∃ (a2 : List Int) (a0 : Int), d6 = .int .i64 a0 ∧ Aside0 (impl_AtomsOf.l0 kq l0 a4 a2 (l0.length : Int) a0 = some r) ∧ Aside0 (kq ≤ k) ∧ Aside0 (Kd.R (Kd.int .i64) 3 w' w.heap.size (fun _ => True) v5 a2) ∧ Aside0 (Below w.heap.size w w'))
  case atStart => exact ⟨(y210), (0), z1_1, H', ⟨Nat.le_refl _⟩, ⟨(xR a9.out)⟩, ⟨z1_0⟩⟩
  case round =>
   clear H'
   try clear c3
   obtain ⟨a2, a0, rfl, HA, HK1, a3, HB⟩ := hrel
   cases gk with
   | zero => exact absurd HA.out (by simp [impl_AtomsOf.l0])
   | succ k1 =>
    have H := HA.out
    clear HA
    simp only [impl_AtomsOf.l0] at H
    replace H := os_ H
    rcases H with ⟨b0, H⟩ | ⟨b0, H⟩
    ·
     have H' := ak H
     clear H
     go_wp2
     go_loopg [7, 24] k1 (fun kq v7 d7 w' => ∃ (a5 : Int) (a1 : Int), v7 = .int .i64 a5 ∧ d7 = .int .i64 a1 ∧ Aside0 (impl_AtomsOf.l1 kq l0 a4 a2 a0 a5 (l0.length : Int) a0 (l0.length : Int) a1 = some r) ∧ Aside0 (kq ≤ k1) ∧ Aside0 (Kd.R (Kd.int .i64) 3 w' w.heap.size (fun _ => True) u5 a2) ∧ Aside0 (Below w.heap.size w w'))
     case atStart => exact ⟨(0), (0), z1_1, z1_1, H', ⟨Nat.le_refl _⟩, ⟨(xR a3.out)⟩, ⟨z1_0⟩⟩
     case round =>
      clear H'
      try clear c3
      try clear c6
      try clear b0
      obtain ⟨a5, a1, rfl, rfl, HA, HK2, a3, HB⟩ := hrel
      cases gk with
      | zero => exact absurd HA.out (by simp [impl_AtomsOf.l1])
      | succ k2 =>
       have H := HA.out
       clear HA
       simp only [impl_AtomsOf.l1] at H
       replace H := os_ H
       rcases H with ⟨b7, H⟩ | ⟨b7, H⟩
       ·
        replace H := od4 H
        obtain ⟨d8, d9, d1, d2, H⟩ := H
        have H' := ak H
        clear H
        have a7 : 0 ≤ (a1 : Int) := oa_
        have q213 : a1 < (l0.length : Int) := oa_
        obtain ⟨ad213, b8, b9, e213, hx213_0, hl213_0, hi213_0⟩ := at_L1 HR0.out a1 a7 q213
        cases e213
        replace hx213_0 := (HB.out.cell (World.block_lt_of_cell? w _ hx213_0)).trans hx213_0
        have HR213_0 := ak hi213_0
        have b6 := ak hl213_0
        clear hi213_0 hl213_0
        replace a7 := eq_true a7
        replace q213 := eq_true q213
        have a8 : 0 ≤ (a0 : Int) := oa_
        have q214 : a0 < ((rd_L1 l0 a1).length : Int) := oa_
        obtain ⟨ad214, e214, hx214_0⟩ := Kd.at_int HR213_0.out a0 a8 q214
        cases e214
        replace hx214_0 := (HB.out.cell (World.block_lt_of_cell? w _ hx214_0)).trans hx214_0
        replace a8 := eq_true a8
        replace q214 := eq_true q214
        go_wp2
        go_roundg k2
        case measure => have := HK1.out; have := HK2.out; omega
        case rel => exact ⟨(wrap64 (a5 + (rd (rd_L1 l0 a1) a0))), (wrap64 (a1 + 1)), z1_1, z1_1, H', ⟨(by have := HK1.out; have := HK2.out; omega)⟩, ⟨(xR a3.out)⟩, ⟨z1_0⟩⟩
       replace H := oe2 H
       rcases H with ⟨⟨-, b1, b2⟩, H⟩ | ⟨⟨e1, b1, b2⟩, H⟩
       ·
        have H' := ak H
        clear H
        go_wp2
        go_roundg k2
        case measure => have := HK1.out; have := HK2.out; omega
        case rel => exact ⟨(a2), (wrap64 (a0 + 1)), z1_1, H', ⟨(by have := HK1.out; have := HK2.out; omega)⟩, ⟨(xR a3.out)⟩, ⟨z1_0⟩⟩
       replace H := oe2 H
       rcases H with ⟨⟨-, b3, b4⟩, H⟩ | ⟨⟨e2, b3, b4⟩, H⟩
       ·
        replace H := ok_ H
        obtain ⟨d3, H⟩ := H
        have LMc14 := ak d3
        clear d3
        obtain ⟨y215, hy215⟩ : ∃ y_ : List Int, y_ = (a2 ++ [a0]) := ⟨_, rfl⟩
        replace H : (impl_AtomsOf.l0 k2 l0 a4 y215 (l0.length : Int) (wrap64 (a0 + 1))) = some r := by first | (rw [hy215]; with_reducible exact H) | (have H2_ := (Option.bind_some _ _).symm.trans H; rw [hy215]; with_reducible exact H2_) | (have H2_ := (Option.bind_some _ _).symm.trans H; with_reducible exact H2_) | with_reducible exact H | (rw [hy215]; exact H) | exact H
        have Ny215 := ak hy215
        clear hy215
        have H' := ak H
        clear H
        go_wp2_with (first | ((with_reducible refine gate_builtin (b := .append) (xs := #[.tmp 44, .tmp 46]) rfl ?_); at_builtin; refine Kd.R_append (Kd.int .i64) (w0 := w) w.heap.size rfl (.tmp 44) (.tmp 46) 25 3 (.int .i64 0) 8 rfl Try.underlying25 info3 rfl (by decide) (by omega) u5 a2 a0 [.int .i64 a0] (fun _ => True) (fun _ => False) rfl rfl ?aP (fun _ hk => hk.elim) ?aF ?aO ?aB ?aS ?aL ?_; (case aP => exact rfl); (case aB => exact z1_0); (case aF => exact (fun _ _ => trivial)); (case aO => exact (xR a3.out)); (case aS => exact (below_size z1_0)); (case aL => have := LMc14.out; omega); intro e0 e3 ho hb hg hat; rw [← Ny215.out] at ho; replace HB := ak (hb); have b5 := ak (ho); clear a3; clear ho hb hg hat))
        go_roundg k2
        case measure => have := HK1.out; have := HK2.out; omega
        case rel => exact ⟨(y215), (wrap64 (a0 + 1)), z1_1, H', ⟨(by have := HK1.out; have := HK2.out; omega)⟩, ⟨(xR b5.out)⟩, ⟨z1_0⟩⟩
       have H' := ak H
       clear H
       go_wp2
       go_roundg k2
       case measure => have := HK1.out; have := HK2.out; omega
       case rel => exact ⟨(a2), (wrap64 (a0 + 1)), z1_1, H', ⟨(by have := HK1.out; have := HK2.out; omega)⟩, ⟨(xR a3.out)⟩, ⟨z1_0⟩⟩
    obtain rfl := Option.some.inj H
    go_wp2
    go_ret
    exact ⟨_, (by first | rfl | (simp [errW_none, errW_some] <;> rfl) | (simp [*, errW_none, errW_some] <;> rfl)), (xR a3.out), z1_0⟩
 obtain rfl := Option.some.inj H
 go_enter Try.func21, Try.ntmps21
 go_wp2_with (first | ((with_reducible refine gate_callee (f := 69) rfl ?_); refine gl_ (some 11) Try.func69 #[.slice A0 l0.length c0] ?_; (with_reducible refine (impl_LeastOf.calls k _ _ l0 a4 false _ (y4 HR0.out) d0.out A2.out).mono ?_); rintro e w' ⟨rfl, ⟨nd, rfl⟩⟩; refine ⟨_, rfl, ?_⟩))
 go_ret
 exact ⟨_, (by first | rfl | (simp [errW_none, errW_some] <;> rfl) | (simp [*, errW_none, errW_some] <;> rfl)), (by first | exact Kd.R_nil _ _ _ _ _ | exact Kd.N_nil _ _ _ _ _ | exact Kd.V_nil _ _ _ _ _ | exact Kd.Q_nil _ _ _ _ _ | exact Kd.S_nil _ _ _ _ _), z1_0⟩

end Go.Proofs.Ytacifhahfamipaa.P

-- written by gen.py (a program of this session) out of the kit's print of this seat's translation
namespace Go.Proofs.Ytacifhahfamipaa.P
open Go.RowKit Go.Proofs.YtacifhahfamipaaW.PrintWords Go.Proofs.YtacifhahfamipaaW.PrintLast Go.Proofs.YtacifhahfamipaaW.PrintMore
attribute [local go_sem] max2_int min2_int max_two min_two max_three min_three max_four min_four
set_option linter.unusedVariables false
set_option linter.unusedSimpArgs false
theorem z8_0 {p : Prop} (h : p := by repeat (first | (with_reducible first | exact HB.out | apply below_alloc | apply pw_below_drewN | apply below_drew1) | exact HB.out)) : p := h
set_option maxHeartbeats 8000000 in
set_option maxRecDepth 100000 in
theorem laws_alive.calls (k : Nat)  (r : Bool) (w : World) (h : laws_alive.f k  = some r) :
 Calls Try.prog 19 #[] w fun e w' => e = .returned (.bool r) ∧ Below w.heap.size w w' := by
 have HB := ak (Below.refl w.heap.size w)
 have H : ((impl_OrderOk.f k (([(([1] : List Int))] : List (List Int)))).bind fun a4 => (if a4 = true then ((impl_OrderOk.f k (([(([0] : List Int))] : List (List Int)))).bind fun a2 => (some (!a2))) else (some false))) = some r := h
 clear h
 obtain ⟨y160, hy160⟩ : ∃ y_ : List Int, y_ = (([1] : List Int)) := ⟨_, rfl⟩
 replace H : ((impl_OrderOk.f k (([y160] : List (List Int)))).bind fun a4 => (if a4 = true then ((impl_OrderOk.f k (([(([0] : List Int))] : List (List Int)))).bind fun a2 => (some (!a2))) else (some false))) = some r := by first | (rw [hy160]; with_reducible exact H) | (have H2_ := (Option.bind_some _ _).symm.trans H; rw [hy160]; with_reducible exact H2_) | (have H2_ := (Option.bind_some _ _).symm.trans H; with_reducible exact H2_) | with_reducible exact H | (rw [hy160]; exact H) | exact H
 have Ny160 := ak hy160
 clear hy160
 obtain ⟨y163, hy163⟩ : ∃ y_ : List (List Int), y_ = (([y160] : List (List Int))) := ⟨_, rfl⟩
 replace H : ((impl_OrderOk.f k y163).bind fun a4 => (if a4 = true then ((impl_OrderOk.f k (([(([0] : List Int))] : List (List Int)))).bind fun a2 => (some (!a2))) else (some false))) = some r := by first | (rw [hy163]; with_reducible exact H) | (have H2_ := (Option.bind_some _ _).symm.trans H; rw [hy163]; with_reducible exact H2_) | (have H2_ := (Option.bind_some _ _).symm.trans H; with_reducible exact H2_) | with_reducible exact H | (rw [hy163]; exact H) | exact H
 have Ny163 := ak hy163
 clear hy163
 replace H := bd_ H
 obtain ⟨a4, A1, H⟩ := H
 try dsimp only at H
 replace H := ox_ H
 rcases H with ⟨rfl, H⟩ | ⟨rfl, H⟩
 ·
  obtain ⟨y167, hy167⟩ : ∃ y_ : List Int, y_ = (([0] : List Int)) := ⟨_, rfl⟩
  replace H : ((impl_OrderOk.f k (([y167] : List (List Int)))).bind fun a2 => (some (!a2))) = some r := by first | (rw [hy167]; with_reducible exact H) | (have H2_ := (Option.bind_some _ _).symm.trans H; rw [hy167]; with_reducible exact H2_) | (have H2_ := (Option.bind_some _ _).symm.trans H; with_reducible exact H2_) | with_reducible exact H | (rw [hy167]; exact H) | exact H
  have Ny167 := ak hy167
  clear hy167
  obtain ⟨y170, hy170⟩ : ∃ y_ : List (List Int), y_ = (([y167] : List (List Int))) := ⟨_, rfl⟩
  replace H : ((impl_OrderOk.f k y170).bind fun a2 => (some (!a2))) = some r := by first | (rw [hy170]; with_reducible exact H) | (have H2_ := (Option.bind_some _ _).symm.trans H; rw [hy170]; with_reducible exact H2_) | (have H2_ := (Option.bind_some _ _).symm.trans H; with_reducible exact H2_) | with_reducible exact H | (rw [hy170]; exact H) | exact H
  have Ny170 := ak hy170
  clear hy170
  replace H := bd_ H
  obtain ⟨a2, A3, H⟩ := H
  try dsimp only at H
  obtain rfl := Option.some.inj H
  go_enter Try.func19, Try.ntmps19
  go_wp2_with (first | ((with_reducible refine gate_dst (N := 1) rfl ?_); (try (refine gate_guard (by rfl) ?_; dsimp only)); refine Kd.R_lit (Kd.int .i64) _ 3 ?hg (N := 1) ?hd (xs := ([1] : List Int)) (inner := [.int .i64 1]) (ok := fun _ => True) (okp := fun _ => True) ?hr ?hp (fun _ hk => hk) trivial (Below.refl _ _) (Nat.le_refl _) (by simp) ?_; (case hd => rfl); (case hg => rfl); (case hr => first | (go_simp; done) | (go_simp; rfl)); (case hp => exact (Reps.one (show Kd.M (Kd.int .i64) _ _ _ 1 [.int .i64 1] from rfl) (Reps.none _ _))); intro b2 w4 ho5 hb hg_ hnew_; clear hg_ hnew_; (first | rw [← Ny160.out] at ho5 | (simp only [Int.reduceToNat] at ho5; rw [← Ny160.out] at ho5)); have a1 := ak (Kd.R_lower ho5 (below_size z8_0)); replace HB := ak (below_step z8_0 hb); clear hb ho5; obtain ⟨d0, d1, d2⟩ := Kd.R_slice a1.out; subst d2) | ((with_reducible refine gate_dst (N := 2) rfl ?_); (try (refine gate_guard (by rfl) ?_; dsimp only)); refine Kd.N_lit (Kd.slice 3 (Kd.int .i64)) _ 25 ?hg (N' := 2) ?hd (xs := ([y160] : List (List Int))) (inner := [.slice d0 y160.length d1]) (ok := (fun _ => True)) (okp := (fun _ => True)) ?hr ?hp (fun _ hk => hk) ((show ∀ k_, w4.heap.size ≤ k_ → (fun _ => True) k_ from fun k_ hk => trivial) _ (Nat.le_refl _)) (Below.refl _ _) (Nat.le_refl _) (by simp) ?_; (case hd => rfl); (case hg => rfl); (case hr => first | (go_simp; done) | (go_simp; rfl)); (case hp => exact (Reps.one (show Kd.FK (Kd.slice 3 (Kd.int .i64)) _ _ y160 [.slice d0 y160.length d1] from (Kd.FK_slice_mk (Kd.R_reads' (Kd.R_mono (ok' := (fun _ => True)) (a1.out) (fun k_ hk => trivial))).2.1 (Kd.R_F (Kd.R_mono (ok' := (fun _ => True)) (a1.out) (fun k_ hk => trivial))))) (Reps.none _ _))); intro b3 w7 ho8 hb hg_ hnew_; clear hg_ hnew_; (first | rw [← Ny163.out] at ho8 | (simp only [Int.reduceToNat] at ho8; rw [← Ny163.out] at ho8)); have a0 := ak (Kd.N_lower ho8 (below_size z8_0)); replace HB := ak (below_step z8_0 hb); clear a1; clear hb ho8; obtain ⟨a6, a7, d3⟩ := Kd.N_slice a0.out; subst d3) | ((with_reducible refine gate_callee (f := 67) rfl ?_); refine gl_ (some 3) Try.func67 #[.slice a6 y163.length a7] ?_; (with_reducible refine (impl_OrderOk.calls k _ _ y163 true _ (y1 a0.out) (y2 a0.out) A1.out).mono ?_); rintro e w' ⟨rfl, ⟨nd, rfl⟩⟩; refine ⟨_, rfl, ?_⟩) | ((with_reducible refine gate_dst (N := 5) rfl ?_); (try (refine gate_guard (by rfl) ?_; dsimp only)); refine Kd.R_lit (Kd.int .i64) _ 3 ?hg (N := 5) ?hd (xs := ([0] : List Int)) (inner := [.int .i64 0]) (ok := fun _ => True) (okp := fun _ => True) ?hr ?hp (fun _ hk => hk) trivial (Below.refl _ _) (Nat.le_refl _) (by simp) ?_; (case hd => rfl); (case hg => rfl); (case hr => first | (go_simp; done) | (go_simp; rfl)); (case hp => exact (Reps.one (show Kd.M (Kd.int .i64) _ _ _ 0 [.int .i64 0] from rfl) (Reps.none _ _))); intro d4 d5 ho11 hb hg_ hnew_; clear hg_ hnew_; (first | rw [← Ny167.out] at ho11 | (simp only [Int.reduceToNat] at ho11; rw [← Ny167.out] at ho11)); replace a0 := ak (Kd.N_elder' (xN a0.out) (Kd.R_base ho11) hb); have a3 := ak (Kd.R_lower ho11 (below_size z8_0)); replace HB := ak (below_step z8_0 hb); clear hb ho11; obtain ⟨a8, a9, b4⟩ := Kd.R_slice a3.out; subst b4) | ((with_reducible refine gate_dst (N := 6) rfl ?_); (try (refine gate_guard (by rfl) ?_; dsimp only)); refine Kd.N_lit (Kd.slice 3 (Kd.int .i64)) _ 25 ?hg (N' := 6) ?hd (xs := ([y167] : List (List Int))) (inner := [.slice a8 y167.length a9]) (ok := (fun k_ => some k_ ≠ (.slice a6 y163.length a7 : Value).ownBlock)) (okp := (fun k_ => some k_ ≠ (.slice a6 y163.length a7 : Value).ownBlock)) ?hr ?hp (fun _ hk => hk) ((show ∀ k_, d5.heap.size ≤ k_ → (fun k_ => some k_ ≠ (.slice a6 y163.length a7 : Value).ownBlock) k_ from fun k_ hk => Kd.fresh' (Kd.N_lt (xN a0.out)) k_ hk) _ (Nat.le_refl _)) (Below.refl _ _) (Nat.le_refl _) (by simp) ?_; (case hd => rfl); (case hg => rfl); (case hr => first | (go_simp; done) | (go_simp; rfl)); (case hp => exact (Reps.one (show Kd.FK (Kd.slice 3 (Kd.int .i64)) _ _ y167 [.slice a8 y167.length a9] from (Kd.FK_slice_mk (Kd.R_reads' (Kd.R_mono (ok' := (fun k_ => some k_ ≠ (.slice a6 y163.length a7 : Value).ownBlock)) (Kd.R_apart' (a3.out) (Kd.N_typed a0.out) (by decide)) (fun k_ hk => hk.2))).2.1 (Kd.R_F (Kd.R_mono (ok' := (fun k_ => some k_ ≠ (.slice a6 y163.length a7 : Value).ownBlock)) (Kd.R_apart' (a3.out) (Kd.N_typed a0.out) (by decide)) (fun k_ hk => hk.2))))) (Reps.none _ _))); intro d6 e0 ho14 hb hg_ hnew_; clear hg_ hnew_; (first | rw [← Ny170.out] at ho14 | (simp only [Int.reduceToNat] at ho14; rw [← Ny170.out] at ho14)); replace a0 := ak (Kd.N_elder' (xN a0.out) (Kd.N_base ho14) hb); have a5 := ak (Kd.N_lower ho14 (below_size z8_0)); replace HB := ak (below_step z8_0 hb); clear a3; clear hb ho14; obtain ⟨d7, d8, b5⟩ := Kd.N_slice a5.out; subst b5) | (go_at_call 67; (with_reducible refine (impl_OrderOk.calls k _ _ y170 a2 _ (y1 a5.out) (y2 a5.out) A3.out).mono ?_); rintro e w' ⟨rfl, ⟨nd, rfl⟩⟩))
  go_ret
  exact ⟨(by first | rfl | (simp [errW_none, errW_some] <;> rfl) | (simp [*, errW_none, errW_some] <;> rfl)), z8_0⟩
 obtain rfl := Option.some.inj H
 go_enter Try.func19, Try.ntmps19
 go_wp2_with (first | ((with_reducible refine gate_dst (N := 1) rfl ?_); (try (refine gate_guard (by rfl) ?_; dsimp only)); refine Kd.R_lit (Kd.int .i64) _ 3 ?hg (N := 1) ?hd (xs := ([1] : List Int)) (inner := [.int .i64 1]) (ok := fun _ => True) (okp := fun _ => True) ?hr ?hp (fun _ hk => hk) trivial (Below.refl _ _) (Nat.le_refl _) (by simp) ?_; (case hd => rfl); (case hg => rfl); (case hr => first | (go_simp; done) | (go_simp; rfl)); (case hp => exact (Reps.one (show Kd.M (Kd.int .i64) _ _ _ 1 [.int .i64 1] from rfl) (Reps.none _ _))); intro b2 d9 ho17 hb hg_ hnew_; clear hg_ hnew_; (first | rw [← Ny160.out] at ho17 | (simp only [Int.reduceToNat] at ho17; rw [← Ny160.out] at ho17)); have a1 := ak (Kd.R_lower ho17 (below_size z8_0)); replace HB := ak (below_step z8_0 hb); clear hb ho17; obtain ⟨b0, b1, b6⟩ := Kd.R_slice a1.out; subst b6) | ((with_reducible refine gate_dst (N := 2) rfl ?_); (try (refine gate_guard (by rfl) ?_; dsimp only)); refine Kd.N_lit (Kd.slice 3 (Kd.int .i64)) _ 25 ?hg (N' := 2) ?hd (xs := ([y160] : List (List Int))) (inner := [.slice b0 y160.length b1]) (ok := (fun _ => True)) (okp := (fun _ => True)) ?hr ?hp (fun _ hk => hk) ((show ∀ k_, d9.heap.size ≤ k_ → (fun _ => True) k_ from fun k_ hk => trivial) _ (Nat.le_refl _)) (Below.refl _ _) (Nat.le_refl _) (by simp) ?_; (case hd => rfl); (case hg => rfl); (case hr => first | (go_simp; done) | (go_simp; rfl)); (case hp => exact (Reps.one (show Kd.FK (Kd.slice 3 (Kd.int .i64)) _ _ y160 [.slice b0 y160.length b1] from (Kd.FK_slice_mk (Kd.R_reads' (Kd.R_mono (ok' := (fun _ => True)) (a1.out) (fun k_ hk => trivial))).2.1 (Kd.R_F (Kd.R_mono (ok' := (fun _ => True)) (a1.out) (fun k_ hk => trivial))))) (Reps.none _ _))); intro b3 e1 ho20 hb hg_ hnew_; clear hg_ hnew_; (first | rw [← Ny163.out] at ho20 | (simp only [Int.reduceToNat] at ho20; rw [← Ny163.out] at ho20)); have a0 := ak (Kd.N_lower ho20 (below_size z8_0)); replace HB := ak (below_step z8_0 hb); clear a1; clear hb ho20; obtain ⟨b7, b8, b9⟩ := Kd.N_slice a0.out; subst b9) | ((with_reducible refine gate_callee (f := 67) rfl ?_); refine gl_ (some 3) Try.func67 #[.slice b7 y163.length b8] ?_; (with_reducible refine (impl_OrderOk.calls k _ _ y163 false _ (y1 a0.out) (y2 a0.out) A1.out).mono ?_); rintro e w' ⟨rfl, ⟨nd, rfl⟩⟩; refine ⟨_, rfl, ?_⟩))
 go_ret
 exact ⟨(by first | rfl | (simp [errW_none, errW_some] <;> rfl) | (simp [*, errW_none, errW_some] <;> rfl)), z8_0⟩

end Go.Proofs.Ytacifhahfamipaa.P

-- written by gen.py (a program of this session) out of the kit's print of this seat's translation
namespace Go.Proofs.Ytacifhahfamipaa.P
open Go.RowKit Go.Proofs.YtacifhahfamipaaW.PrintWords Go.Proofs.YtacifhahfamipaaW.PrintLast Go.Proofs.YtacifhahfamipaaW.PrintMore
attribute [local go_sem] max2_int min2_int max_two min_two max_three min_three max_four min_four
set_option linter.unusedVariables false
set_option linter.unusedSimpArgs false
theorem zm_1 {p : Prop} (h : p := by first | rfl | (simp; done) | (simp [*]; done)) : p := h
theorem zm_0 {p : Prop} (h : p := by repeat (first | exact Drawn0.refl _ | apply Drawn0.step)) : p := h
set_option maxHeartbeats 8000000 in
set_option maxRecDepth 100000 in
theorem laws_sameInts.calls (k : Nat) (A0 : Option Addr) (c0 : Nat) (l0 : List Int) (A1 : Option Addr) (c1 : Nat) (l1 : List Int) (r : Bool) (w : World) (hr0 : Kd.C (Kd.int .i64) w A0 l0.length l0) (hc0 : l0.length ≤ c0) (hr1 : Kd.C (Kd.int .i64) w A1 l1.length l1) (hc1 : l1.length ≤ c1) (h : laws_sameInts.f k l0 l1 = some r) :
 Calls Try.prog 58 #[.slice A0 l0.length c0, .slice A1 l1.length c1] w fun e w' => e = .returned (.bool r) ∧ Drawn0 w w' := by
 have HR0 := ak hr0
 have b1 := ak hc0
 clear hr0 hc0
 have HR1 := ak hr1
 have b2 := ak hc1
 clear hr1 hc1
 have H : (if (l0.length : Int) = (l1.length : Int) then (laws_sameInts.l0 k l0 l1 0) else (some false)) = some r := h
 clear h
 replace H := oe2 H
 rcases H with ⟨⟨c3, a1, a2⟩, H⟩ | ⟨⟨c3, a1, a2⟩, H⟩
 ·
  have a3 : (l0.length == l1.length) = true := by first | simpa using c3 | (simp at c3 ⊢; omega)
  clear c3
  have H' := ak H
  clear H
  go_enter Try.func58, Try.ntmps58
  go_wp2
  repeat (go_quiet (fail); try go_wp2)
  go_loopg [5] k (fun kq v5 w' => ∃ (a0 : Int), v5 = .int .i64 a0 ∧ Aside0 (laws_sameInts.l0 kq l0 l1 a0 = some r) ∧ Aside0 (kq ≤ k) ∧ Drawn0 w w')
  case atStart => exact ⟨(0), zm_1, H', ⟨Nat.le_refl _⟩, zm_0⟩
  case round =>
   clear H'
   try clear c1
   try clear c3
   try clear a1
   try clear a2
   try clear a3
   obtain ⟨a0, rfl, HA, HK1, ⟨m1, rfl⟩⟩ := hrel
   cases gk with
   | zero => exact absurd HA.out (by simp [laws_sameInts.l0])
   | succ k1 =>
    have H := HA.out
    clear HA
    simp only [laws_sameInts.l0] at H
    replace H := os_ H
    rcases H with ⟨a4, H⟩ | ⟨a4, H⟩
    ·
     replace H := od2 H
     obtain ⟨a9, b0, H⟩ := H
     replace H := oe2 H
     rcases H with ⟨⟨-, a5, a6⟩, H⟩ | ⟨⟨c7, a5, a6⟩, H⟩
     ·
      have H' := ak H
      clear H
      obtain ⟨ad137, e137, hx137_0, a7, q137⟩ := ai_ HR0.out a0
      cases e137
      obtain ⟨ad138, e138, hx138_0, a8, q138⟩ := ai_ HR1.out a0
      cases e138
      go_wp2
      repeat (go_quiet (fail); try go_wp2)
      go_roundg k1
      case measure => have := HK1.out; omega
      case rel => exact ⟨(wrap64 (a0 + 1)), zm_1, H', ⟨(by have := HK1.out; omega)⟩, zm_0⟩
     obtain rfl := Option.some.inj H
     obtain ⟨ad137, e137, hx137_0, a7, q137⟩ := ai_ HR0.out a0
     cases e137
     obtain ⟨ad138, e138, hx138_0, a8, q138⟩ := ai_ HR1.out a0
     cases e138
     go_wp2
     repeat (go_quiet (fail); try go_wp2)
     go_ret
     exact ⟨zm_1, zm_0⟩
    obtain rfl := Option.some.inj H
    go_wp2
    repeat (go_quiet (fail); try go_wp2)
    go_ret
    exact ⟨zm_1, zm_0⟩
 have a3 : (l0.length == l1.length) = false := by first | simpa using c3 | (simp at c3 ⊢; omega)
 obtain rfl := Option.some.inj H
 go_enter Try.func58, Try.ntmps58
 go_wp2
 repeat (go_quiet (fail); try go_wp2)
 go_ret
 exact ⟨zm_1, zm_0⟩

end Go.Proofs.Ytacifhahfamipaa.P

-- written by gen.py (a program of this session) out of the kit's print of this seat's translation
namespace Go.Proofs.Ytacifhahfamipaa.P
open Go.RowKit Go.Proofs.YtacifhahfamipaaW.PrintWords Go.Proofs.YtacifhahfamipaaW.PrintLast Go.Proofs.YtacifhahfamipaaW.PrintMore
attribute [local go_sem] max2_int min2_int max_two min_two max_three min_three max_four min_four
set_option linter.unusedVariables false
set_option linter.unusedSimpArgs false
theorem zo_1 {p : Prop} (h : p := by first | rfl | (simp; done) | (simp [*]; done)) : p := h
theorem zo_0 {p : Prop} (h : p := by repeat (first | exact Drawn0.refl _ | apply Drawn0.step)) : p := h
set_option maxHeartbeats 8000000 in
set_option maxRecDepth 100000 in
theorem laws_sameRows.calls (k : Nat) (A0 : Option Addr) (c0 : Nat) (l0 : List (List Int)) (A1 : Option Addr) (c1 : Nat) (l1 : List (List Int)) (r : Bool) (w : World) (hr0 : Kd.C (Kd.slice 3 (Kd.int .i64)) w A0 l0.length l0) (hc0 : l0.length ≤ c0) (hr1 : Kd.C (Kd.slice 3 (Kd.int .i64)) w A1 l1.length l1) (hc1 : l1.length ≤ c1) (h : laws_sameRows.f k l0 l1 = some r) :
 Calls Try.prog 66 #[.slice A0 l0.length c0, .slice A1 l1.length c1] w fun e w' => e = .returned (.bool r) ∧ Drawn0 w w' := by
 have HR0 := ak hr0
 have b6 := ak hc0
 clear hr0 hc0
 have HR1 := ak hr1
 have b7 := ak hc1
 clear hr1 hc1
 have H : (if (l0.length : Int) = (l1.length : Int) then (laws_sameRows.l0 k l0 l1 0) else (some false)) = some r := h
 clear h
 replace H := oe2 H
 rcases H with ⟨⟨c3, a7, a8⟩, H⟩ | ⟨⟨c3, a7, a8⟩, H⟩
 ·
  have a9 : (l0.length == l1.length) = true := by first | simpa using c3 | (simp at c3 ⊢; omega)
  clear c3
  have H' := ak H
  clear H
  go_enter Try.func66, Try.ntmps66
  go_wp2
  repeat (go_quiet (fail); try go_wp2)
  go_loopg [5] k (fun kq v5 w' => ∃ (a0 : Int), v5 = .int .i64 a0 ∧ Aside0 (laws_sameRows.l0 kq l0 l1 a0 = some r) ∧ Aside0 (kq ≤ k) ∧ Drawn0 w w')
  case atStart => exact ⟨(0), zo_1, H', ⟨Nat.le_refl _⟩, zo_0⟩
  case round =>
   clear H'
   try clear c1
   try clear c3
   try clear a7
   try clear a8
   try clear a9
   obtain ⟨a0, rfl, HA, HK1, ⟨m1, rfl⟩⟩ := hrel
   cases gk with
   | zero => exact absurd HA.out (by simp [laws_sameRows.l0])
   | succ k1 =>
    have H := HA.out
    clear HA
    simp only [laws_sameRows.l0] at H
    replace H := os_ H
    rcases H with ⟨b0, H⟩ | ⟨b0, H⟩
    ·
     replace H := od2 H
     obtain ⟨b3, b4, H⟩ := H
     replace H := bd_ H
     obtain ⟨b5, A7, H⟩ := H
     try dsimp only at H
     replace H := ox_ H
     rcases H with ⟨rfl, H⟩ | ⟨rfl, H⟩
     ·
      have H' := ak H
      clear H
      obtain ⟨ad139, a3, a4, e139, hx139_0, a1, HR139_0, b1, q139⟩ := al_ HR0.out a0
      cases e139
      obtain ⟨ad140, a5, a6, e140, hx140_0, a2, HR140_0, b2, q140⟩ := al_ HR1.out a0
      cases e140
      go_wp2_with (first | (go_at_call 58; (with_reducible refine (laws_sameInts.calls k1 _ _ (rd_L1 l0 a0) _ _ (rd_L1 l1 a0) true _ (y4 HR139_0.out) a1.out (y4 HR140_0.out) a2.out A7.out).mono ?_); rintro e w' ⟨rfl, ⟨nd, rfl⟩⟩; (try first | exact ⟨rfl, _, World.drewN_drewN _ _ _⟩ | exact ⟨rfl, _, Eq.trans (World.drewN_drewN _ _ _) (congrArg (World.drewN _) (Nat.add_assoc _ _ _))⟩)))
      repeat (go_quiet (first | (go_at_call 58; (with_reducible refine (laws_sameInts.calls k1 _ _ (rd_L1 l0 a0) _ _ (rd_L1 l1 a0) true _ (y4 HR139_0.out) a1.out (y4 HR140_0.out) a2.out A7.out).mono ?_); rintro e w' ⟨rfl, ⟨nd, rfl⟩⟩; (try first | exact ⟨rfl, _, World.drewN_drewN _ _ _⟩ | exact ⟨rfl, _, Eq.trans (World.drewN_drewN _ _ _) (congrArg (World.drewN _) (Nat.add_assoc _ _ _))⟩))); try go_wp2_with (first | (go_at_call 58; (with_reducible refine (laws_sameInts.calls k1 _ _ (rd_L1 l0 a0) _ _ (rd_L1 l1 a0) true _ (y4 HR139_0.out) a1.out (y4 HR140_0.out) a2.out A7.out).mono ?_); rintro e w' ⟨rfl, ⟨nd, rfl⟩⟩; (try first | exact ⟨rfl, _, World.drewN_drewN _ _ _⟩ | exact ⟨rfl, _, Eq.trans (World.drewN_drewN _ _ _) (congrArg (World.drewN _) (Nat.add_assoc _ _ _))⟩))))
      go_roundg k1
      case measure => have := HK1.out; omega
      case rel => exact ⟨(wrap64 (a0 + 1)), zo_1, H', ⟨(by have := HK1.out; omega)⟩, zo_0⟩
     obtain rfl := Option.some.inj H
     obtain ⟨ad139, a3, a4, e139, hx139_0, a1, HR139_0, b1, q139⟩ := al_ HR0.out a0
     cases e139
     obtain ⟨ad140, a5, a6, e140, hx140_0, a2, HR140_0, b2, q140⟩ := al_ HR1.out a0
     cases e140
     go_wp2_with (first | (go_at_call 58; (with_reducible refine (laws_sameInts.calls k1 _ _ (rd_L1 l0 a0) _ _ (rd_L1 l1 a0) false _ (y4 HR139_0.out) a1.out (y4 HR140_0.out) a2.out A7.out).mono ?_); rintro e w' ⟨rfl, ⟨nd, rfl⟩⟩; (try first | exact ⟨rfl, _, World.drewN_drewN _ _ _⟩ | exact ⟨rfl, _, Eq.trans (World.drewN_drewN _ _ _) (congrArg (World.drewN _) (Nat.add_assoc _ _ _))⟩)))
     repeat (go_quiet (first | (go_at_call 58; (with_reducible refine (laws_sameInts.calls k1 _ _ (rd_L1 l0 a0) _ _ (rd_L1 l1 a0) false _ (y4 HR139_0.out) a1.out (y4 HR140_0.out) a2.out A7.out).mono ?_); rintro e w' ⟨rfl, ⟨nd, rfl⟩⟩; (try first | exact ⟨rfl, _, World.drewN_drewN _ _ _⟩ | exact ⟨rfl, _, Eq.trans (World.drewN_drewN _ _ _) (congrArg (World.drewN _) (Nat.add_assoc _ _ _))⟩))); try go_wp2_with (first | (go_at_call 58; (with_reducible refine (laws_sameInts.calls k1 _ _ (rd_L1 l0 a0) _ _ (rd_L1 l1 a0) false _ (y4 HR139_0.out) a1.out (y4 HR140_0.out) a2.out A7.out).mono ?_); rintro e w' ⟨rfl, ⟨nd, rfl⟩⟩; (try first | exact ⟨rfl, _, World.drewN_drewN _ _ _⟩ | exact ⟨rfl, _, Eq.trans (World.drewN_drewN _ _ _) (congrArg (World.drewN _) (Nat.add_assoc _ _ _))⟩))))
     go_ret
     exact ⟨zo_1, zo_0⟩
    obtain rfl := Option.some.inj H
    go_wp2
    repeat (go_quiet (fail); try go_wp2)
    go_ret
    exact ⟨zo_1, zo_0⟩
 have a9 : (l0.length == l1.length) = false := by first | simpa using c3 | (simp at c3 ⊢; omega)
 obtain rfl := Option.some.inj H
 go_enter Try.func66, Try.ntmps66
 go_wp2
 repeat (go_quiet (fail); try go_wp2)
 go_ret
 exact ⟨zo_1, zo_0⟩

end Go.Proofs.Ytacifhahfamipaa.P

-- written by gen.py (a program of this session) out of the kit's print of this seat's translation
namespace Go.Proofs.Ytacifhahfamipaa.P
open Go.RowKit Go.Proofs.YtacifhahfamipaaW.PrintWords Go.Proofs.YtacifhahfamipaaW.PrintLast Go.Proofs.YtacifhahfamipaaW.PrintMore
attribute [local go_sem] max2_int min2_int max_two min_two max_three min_three max_four min_four
set_option linter.unusedVariables false
set_option linter.unusedSimpArgs false
theorem zn_2 {p : Prop} (h : p := by repeat (first | (with_reducible first | exact HB.out | apply below_alloc | apply pw_below_drewN | apply below_drew1 | refine below_set ?_ a6.out | refine below_set ?_ b1.out) | exact HB.out)) : p := h
theorem zn_1 {p : Prop} (h : p := by repeat (first | (with_reducible first | exact HB.out | apply below_alloc | apply pw_below_drewN | apply below_drew1) | exact HB.out)) : p := h
theorem zn_0 {p : Prop} (h : p := by repeat (first | (with_reducible first | exact HB.out | apply below_alloc | apply pw_below_drewN | apply below_drew1 | refine below_set ?_ a6.out) | exact HB.out)) : p := h
set_option maxHeartbeats 8000000 in
set_option maxRecDepth 100000 in
theorem laws_sameLogic.calls (k : Nat) (A0_0 : Option Addr) (c0_0 : Nat) (l0_0 : List (List Int)) (A0_1 : Option Addr) (c0_1 : Nat) (l0_1 : List Int) (A1_0 : Option Addr) (c1_0 : Nat) (l1_0 : List (List Int)) (A1_1 : Option Addr) (c1_1 : Nat) (l1_1 : List Int) (r : Bool) (w : World) (hr0_0 : Kd.C (Kd.slice 3 (Kd.int .i64)) w A0_0 l0_0.length l0_0) (hc0_0 : l0_0.length ≤ c0_0) (hr0_1 : Kd.C (Kd.int .i64) w A0_1 l0_1.length l0_1) (hc0_1 : l0_1.length ≤ c0_1) (hr1_0 : Kd.C (Kd.slice 3 (Kd.int .i64)) w A1_0 l1_0.length l1_0) (hc1_0 : l1_0.length ≤ c1_0) (hr1_1 : Kd.C (Kd.int .i64) w A1_1 l1_1.length l1_1) (hc1_1 : l1_1.length ≤ c1_1) (h : laws_sameLogic.f k l0_0 l0_1 l1_0 l1_1 = some r) :
 Calls Try.prog 17 #[.agg #[.slice A0_0 l0_0.length c0_0, .slice A0_1 l0_1.length c0_1], .agg #[.slice A1_0 l1_0.length c1_0, .slice A1_1 l1_1.length c1_1]] w fun e w' => e = .returned (.bool r) ∧ Below w.heap.size w w' := by
 have hu27 := Try.underlying27
 have HR0_0 := ak hr0_0
 have b2 := ak hc0_0
 clear hr0_0 hc0_0
 have HR0_1 := ak hr0_1
 have b5 := ak hc0_1
 clear hr0_1 hc0_1
 have HR1_0 := ak hr1_0
 have b3 := ak hc1_0
 clear hr1_0 hc1_0
 have HR1_1 := ak hr1_1
 have b6 := ak hc1_1
 clear hr1_1 hc1_1
 have HB := ak (Below.refl w.heap.size w)
 have H : ((laws_sameRows.f k l0_0 l1_0).bind fun b7 => (if b7 = true then ((laws_sameInts.f k l0_1 l1_1).bind fun b4 => (some b4)) else (some false))) = some r := h
 clear h
 replace H := bd_ H
 obtain ⟨b7, A3, H⟩ := H
 try dsimp only at H
 replace H := ox_ H
 rcases H with ⟨rfl, H⟩ | ⟨rfl, H⟩
 ·
  replace H := bd_ H
  obtain ⟨b4, A5, H⟩ := H
  try dsimp only at H
  obtain rfl := Option.some.inj H
  go_enter Try.func17, Try.ntmps17
  go_wp2_with (first | ((with_reducible refine gate_dst (N := 2) rfl ?_); refine bx_ (N := 2) (cs := #[.slice A0_0 l0_0.length c0_0, .slice A0_1 l0_1.length c0_1]) (t := 27) ?_; intro a1 hg w6 hbox hb; have a0 := ak (hbox); have b8 := ak ((by rw [hg]; exact (below_size zn_1) : w.heap.size ≤ a1)); have a6 := ak ((by rw [hg]; exact (below_size zn_1) : w.heap.size ≤ a1)); replace HB := ak (below_step zn_1 hb); clear hb hbox hg) | ((with_reducible refine gate_dst (N := 3) rfl ?_); refine bx_ (N := 3) (cs := #[.slice A1_0 l1_0.length c1_0, .slice A1_1 l1_1.length c1_1]) (t := 27) ?_; intro a2 hg w7 hbox hb; have a3 := ak (hbox); have b9 := ak ((by rw [hg]; exact (below_size zn_0) : w.heap.size ≤ a2)); have b1 := ak ((by rw [hg]; exact (below_size zn_0) : w.heap.size ≤ a2)); replace HB := ak (below_step zn_0 hb); have a4 := ak ((by rw [hg]; exact Nat.ne_of_lt (blk_lt (g := a1) (o := .cells #[.slice A0_0 l0_0.length c0_0, .slice A0_1 l0_1.length c0_1] 27 (0, 0)) (xb a0.out)) : a1 ≠ a2)); have a5 := ak ((by rw [hg]; exact Nat.ne_of_gt (blk_lt (g := a1) (o := .cells #[.slice A0_0 l0_0.length c0_0, .slice A0_1 l0_1.length c0_1] 27 (0, 0)) (xb a0.out)) : a2 ≠ a1)); replace a0 := ak (blk_below (g := a1) (o := .cells #[.slice A0_0 l0_0.length c0_0, .slice A0_1 l0_1.length c0_1] 27 (0, 0)) (xb a0.out) hb); clear hb hbox hg; have d2 := a4.out; have d3 := a5.out; have a7 := cz20 a0.out; have a8 := cz21 a0.out; have a9 := blk_frozen a0.out 0; have b0 := blk_frozen a0.out 1; have a7 := cz20 a3.out; have a8 := cz21 a3.out; have a9 := blk_frozen a3.out 0; have b0 := blk_frozen a3.out 1) | ((with_reducible refine gate_callee (f := 66) rfl ?_); refine gl_ (some 9) Try.func66 #[.slice A0_0 l0_0.length c0_0, .slice A1_0 l1_0.length c1_0] ?_; (with_reducible refine (laws_sameRows.calls k _ _ l0_0 _ _ l1_0 true _ (y3 HR0_0.out HB.out) b2.out (y3 HR1_0.out HB.out) b3.out A3.out).mono ?_); rintro e w' ⟨rfl, ⟨nd, rfl⟩⟩; refine ⟨_, rfl, ?_⟩) | (go_at_call 58; (with_reducible refine (laws_sameInts.calls k _ _ l0_1 _ _ l1_1 b4 _ (by repeat (first | exact (Kd.C_below HR0_1.out zn_2) | (with_reducible refine Kd.C_alloc ?_ _) | (with_reducible refine Kd.C_drewN ?_ _) | (with_reducible refine Kd.C_drew ?_))) b5.out (by repeat (first | exact (Kd.C_below HR1_1.out zn_2) | (with_reducible refine Kd.C_alloc ?_ _) | (with_reducible refine Kd.C_drewN ?_ _) | (with_reducible refine Kd.C_drew ?_))) b6.out A5.out).mono ?_); rintro e w' ⟨rfl, ⟨nd, rfl⟩⟩))
  go_ret
  exact ⟨(by first | rfl | (simp [errW_none, errW_some] <;> rfl) | (simp [*, errW_none, errW_some] <;> rfl)), zn_2⟩
 obtain rfl := Option.some.inj H
 go_enter Try.func17, Try.ntmps17
 go_wp2_with (first | ((with_reducible refine gate_dst (N := 2) rfl ?_); refine bx_ (N := 2) (cs := #[.slice A0_0 l0_0.length c0_0, .slice A0_1 l0_1.length c0_1]) (t := 27) ?_; intro a1 hg d4 hbox hb; have a0 := ak (hbox); have b8 := ak ((by rw [hg]; exact (below_size zn_1) : w.heap.size ≤ a1)); have a6 := ak ((by rw [hg]; exact (below_size zn_1) : w.heap.size ≤ a1)); replace HB := ak (below_step zn_1 hb); clear hb hbox hg) | ((with_reducible refine gate_dst (N := 3) rfl ?_); refine bx_ (N := 3) (cs := #[.slice A1_0 l1_0.length c1_0, .slice A1_1 l1_1.length c1_1]) (t := 27) ?_; intro a2 hg d5 hbox hb; have a3 := ak (hbox); have b9 := ak ((by rw [hg]; exact (below_size zn_0) : w.heap.size ≤ a2)); have b1 := ak ((by rw [hg]; exact (below_size zn_0) : w.heap.size ≤ a2)); replace HB := ak (below_step zn_0 hb); have a4 := ak ((by rw [hg]; exact Nat.ne_of_lt (blk_lt (g := a1) (o := .cells #[.slice A0_0 l0_0.length c0_0, .slice A0_1 l0_1.length c0_1] 27 (0, 0)) (xb a0.out)) : a1 ≠ a2)); have a5 := ak ((by rw [hg]; exact Nat.ne_of_gt (blk_lt (g := a1) (o := .cells #[.slice A0_0 l0_0.length c0_0, .slice A0_1 l0_1.length c0_1] 27 (0, 0)) (xb a0.out)) : a2 ≠ a1)); replace a0 := ak (blk_below (g := a1) (o := .cells #[.slice A0_0 l0_0.length c0_0, .slice A0_1 l0_1.length c0_1] 27 (0, 0)) (xb a0.out) hb); clear hb hbox hg; have d0 := a4.out; have d1 := a5.out; have a7 := cz20 a0.out; have a8 := cz21 a0.out; have a9 := blk_frozen a0.out 0; have b0 := blk_frozen a0.out 1; have a7 := cz20 a3.out; have a8 := cz21 a3.out; have a9 := blk_frozen a3.out 0; have b0 := blk_frozen a3.out 1) | ((with_reducible refine gate_callee (f := 66) rfl ?_); refine gl_ (some 9) Try.func66 #[.slice A0_0 l0_0.length c0_0, .slice A1_0 l1_0.length c1_0] ?_; (with_reducible refine (laws_sameRows.calls k _ _ l0_0 _ _ l1_0 false _ (y3 HR0_0.out HB.out) b2.out (y3 HR1_0.out HB.out) b3.out A3.out).mono ?_); rintro e w' ⟨rfl, ⟨nd, rfl⟩⟩; refine ⟨_, rfl, ?_⟩))
 go_ret
 exact ⟨(by first | rfl | (simp [errW_none, errW_some] <;> rfl) | (simp [*, errW_none, errW_some] <;> rfl)), zn_2⟩

end Go.Proofs.Ytacifhahfamipaa.P

-- written by gen.py (a program of this session) out of the kit's print of this seat's translation
namespace Go.Proofs.Ytacifhahfamipaa.P
open Go.RowKit Go.Proofs.YtacifhahfamipaaW.PrintWords Go.Proofs.YtacifhahfamipaaW.PrintLast Go.Proofs.YtacifhahfamipaaW.PrintMore
attribute [local go_sem] max2_int min2_int max_two min_two max_three min_three max_four min_four
set_option linter.unusedVariables false
set_option linter.unusedSimpArgs false
theorem zl_1 {p : Prop} (h : p := by repeat (first | (with_reducible first | exact HB.out | apply below_alloc | apply pw_below_drewN | apply below_drew1 | refine below_set ?_ a3.out) | exact HB.out)) : p := h
theorem zl_0 {p : Prop} (h : p := by repeat (first | (with_reducible first | exact HB.out | apply below_alloc | apply pw_below_drewN | apply below_drew1) | exact HB.out)) : p := h
set_option maxHeartbeats 8000000 in
set_option maxRecDepth 100000 in
theorem laws_noLogic.calls (k : Nat) (A0_0 : Option Addr) (c0_0 : Nat) (l0_0 : List (List Int)) (A0_1 : Option Addr) (c0_1 : Nat) (l0_1 : List Int) (r : Bool) (w : World) (hr0_0 : Kd.C (Kd.slice 3 (Kd.int .i64)) w A0_0 l0_0.length l0_0) (hc0_0 : l0_0.length ≤ c0_0) (hr0_1 : Kd.C (Kd.int .i64) w A0_1 l0_1.length l0_1) (hc0_1 : l0_1.length ≤ c0_1) (h : laws_noLogic.f k l0_0 l0_1 = some r) :
 Calls Try.prog 18 #[.agg #[.slice A0_0 l0_0.length c0_0, .slice A0_1 l0_1.length c0_1]] w fun e w' => e = .returned (.bool r) ∧ Below w.heap.size w w' := by
 have hu27 := Try.underlying27
 have HR0_0 := ak hr0_0
 have a4 := ak hc0_0
 clear hr0_0 hc0_0
 have HR0_1 := ak hr0_1
 have a5 := ak hc0_1
 clear hr0_1 hc0_1
 have HB := ak (Below.refl w.heap.size w)
 have H : ((laws_sameLogic.f k l0_0 l0_1 ([] : List (List Int)) ([] : List Int)).bind fun a2 => (some a2)) = some r := h
 clear h
 replace H := bd_ H
 obtain ⟨a2, A2, H⟩ := H
 try dsimp only at H
 obtain rfl := Option.some.inj H
 go_enter Try.func18, Try.ntmps18
 go_wp2_with (first | ((with_reducible refine gate_dst (N := 1) rfl ?_); refine bx_ (N := 1) (cs := #[.slice A0_0 l0_0.length c0_0, .slice A0_1 l0_1.length c0_1]) (t := 27) ?_; intro a1 hg w3 hbox hb; have a0 := ak (hbox); have a6 := ak ((by rw [hg]; exact (below_size zl_0) : w.heap.size ≤ a1)); have a3 := ak ((by rw [hg]; exact (below_size zl_0) : w.heap.size ≤ a1)); replace HB := ak (below_step zl_0 hb); clear hb hbox hg; have a7 := cz20 a0.out; have a8 := cz21 a0.out; have a9 := blk_frozen a0.out 0; have b0 := blk_frozen a0.out 1) | ((with_reducible refine gate_callee (f := 17) rfl ?_); refine gl_ (some 5) Try.func17 #[.agg #[.slice A0_0 l0_0.length c0_0, .slice A0_1 l0_1.length c0_1], .agg #[.slice none 0 0, .slice none 0 0]] ?_; (refine (laws_sameLogic.calls k _ _ l0_0 _ _ l0_1 _ _ ([] : List (List Int)) _ _ ([] : List Int) a2 _ (y3 HR0_0.out HB.out) a4.out (y3 HR0_1.out HB.out) a5.out (by exact Kd.C_nil _ _) (by exact Nat.le_refl _) (by exact Kd.C_nil _ _) (by exact Nat.le_refl _) A2.out).mono ?_); rintro e w' ⟨rfl, hb⟩; refine ⟨_, rfl, ?_⟩; replace a0 := ak (blk_below (g := a1) (o := .cells #[.slice A0_0 l0_0.length c0_0, .slice A0_1 l0_1.length c0_1] 27 (0, 0)) (xb a0.out) hb); replace HB := ak (below_step zl_1 hb); (try clear hb); (try clear hb2); (try clear hk); (try clear hi)))
 go_ret
 exact ⟨(by first | rfl | (simp [errW_none, errW_some] <;> rfl) | (simp [*, errW_none, errW_some] <;> rfl)), zl_1⟩

end Go.Proofs.Ytacifhahfamipaa.P

-- written by gen.py (a program of this session) out of the kit's print of this seat's translation
namespace Go.Proofs.Ytacifhahfamipaa.P
open Go.RowKit Go.Proofs.YtacifhahfamipaaW.PrintWords Go.Proofs.YtacifhahfamipaaW.PrintLast Go.Proofs.YtacifhahfamipaaW.PrintMore
attribute [local go_sem] max2_int min2_int max_two min_two max_three min_three max_four min_four
set_option linter.unusedVariables false
set_option linter.unusedSimpArgs false
theorem IsS80.grown {w0 W : World} {g : Nat} {f0 : List Int} {f1 : Int} {W1 : World} {row : Option Nat} (h : IsS80 w0 W g f0 f1) (hw : W.grownBy W1 row) (hne : some g ≠ row) : IsS80 w0 W1 g f0 f1 := by
 obtain ⟨A0, c0, hb, hg, hr0⟩ := h
 exact ⟨A0, c0, blk_grown hb hw hne, hg, hr0⟩
theorem IsS80.own_neN {w0 W : World} {g : Nat} {f0 : List Int} {f1 : Int} {α : Type} {d : Kd α} {e : Nat} {base : Nat} {ok : Nat → Prop} {v : Value} {xs : List α} (h : IsS80 w0 W g f0 f1) (ho : Kd.N d e W base ok v xs) (ht : e ≠ 80) : some g ≠ v.ownBlock := by
 obtain ⟨A0, c0, hb, hg, hr0⟩ := h
 exact Kd.N_ne ho hb ht
theorem IsS80.fresh {w0 W : World} {g : Nat} {f0 : List Int} {f1 : Int} (h : IsS80 w0 W g f0 f1) : ∀ k, W.heap.size ≤ k → k ≠ g := by
 obtain ⟨A0, c0, hb, hg, hr0⟩ := h
 exact Kd.freshB hb
theorem IsS80.kept {w0 W : World} {g : Nat} {f0 : List Int} {f1 : Int} {W1 : World} {S : Nat → Prop} (h : IsS80 w0 W g f0 f1) (hk : Kept W W1 S) (hne : ¬ S g) : IsS80 w0 W1 g f0 f1 := by
 obtain ⟨A0, c0, hb, hg, hr0⟩ := h
 exact ⟨A0, c0, blk_kept hb hk hne, hg, hr0⟩
theorem IsS80.below {w0 W : World} {g : Nat} {f0 : List Int} {f1 : Int} {W1 : World} (h : IsS80 w0 W g f0 f1) (hw : Below W.heap.size W W1) : IsS80 w0 W1 g f0 f1 := h.grown (grown_of_below hw none) (by simp)
theorem IsS80.alloc {w0 W : World} {g : Nat} {f0 : List Int} {f1 : Int} (h : IsS80 w0 W g f0 f1) (o : Obj) : IsS80 w0 (W.alloc o) g f0 f1 := h.below (below_alloc (Below.refl _ _) o)
theorem IsS80.drewN {w0 W : World} {g : Nat} {f0 : List Int} {f1 : Int} (h : IsS80 w0 W g f0 f1) (m : Nat) : IsS80 w0 (W.drewN m) g f0 f1 := h
theorem IsS80.drew {w0 W : World} {g : Nat} {f0 : List Int} {f1 : Int} (h : IsS80 w0 W g f0 f1) : IsS80 w0 W.drew g f0 f1 := h
theorem IsS80.at_ {w0 W : World} {g : Nat} {f0 : List Int} {f1 : Int} {w' : World} {m : Nat} (hq : W.drewN m = w') (h : IsS80 w0 W g f0 f1) : IsS80 w0 w' g f0 f1 := by subst hq; exact IsS80.drewN h m
theorem IsS80.apart {w0 W : World} {g : Nat} {f0 : List Int} {f1 : Int} {α : Type} {d : Kd α} {e : Nat} {base : Nat} {ok : Nat → Prop} {v : Value} {xs : List α} (h : IsS80 w0 W g f0 f1) (ho : d.R e W base ok v xs) (ht : ∀ q, q ∈ e :: d.E → q ≠ 80) : d.R e W base (fun k => ok k ∧ k ≠ g) v xs := by
 obtain ⟨A0, c0, hb, hg, hr0⟩ := h
 exact Kd.R_types ho hb ht
theorem IsS80.own_ne {w0 W : World} {g : Nat} {f0 : List Int} {f1 : Int} {α : Type} {d : Kd α} {e : Nat} {base : Nat} {ok : Nat → Prop} {v : Value} {xs : List α} (h : IsS80 w0 W g f0 f1) (ho : d.R e W base ok v xs) (ht : e ≠ 80) : some g ≠ v.ownBlock := by
 obtain ⟨A0, c0, hb, hg, hr0⟩ := h
 exact Kd.R_ne ho hb ht
theorem IsS80.apartQ {w0 W : World} {g : Nat} {f0 : List Int} {f1 : Int} {α : Type} {d : Kd α} {e : Nat} {base : Nat} {ok : Nat → Prop} {v : Value} {xs : List α} (h : IsS80 w0 W g f0 f1) (ho : d.Q e W base ok v xs) (ht : ∀ q, q ∈ e :: d.E → q ≠ 80) : d.Q e W base (fun k => ok k ∧ k ≠ g) v xs := by
 obtain ⟨A0, c0, hb, hg, hr0⟩ := h
 exact Kd.Q_types ho hb ht
theorem IsS80.own_neQ {w0 W : World} {g : Nat} {f0 : List Int} {f1 : Int} {α : Type} {d : Kd α} {e : Nat} {base : Nat} {ok : Nat → Prop} {v : Value} {xs : List α} (h : IsS80 w0 W g f0 f1) (ho : d.Q e W base ok v xs) (ht : e ≠ 80) : some g ≠ v.ownBlock := by
 obtain ⟨A0, c0, hb, hg, hr0⟩ := h
 exact Kd.Q_ne ho hb ht
theorem IsS80.apartS {w0 W : World} {g : Nat} {f0 : List Int} {f1 : Int} {α : Type} {d : Kd α} {e : Nat} {base : Nat} {ok : Nat → Prop} {v : Value} {xs : List α} (h : IsS80 w0 W g f0 f1) (ho : d.S e W base ok v xs) (ht : ∀ q, q ∈ e :: d.E → q ≠ 80) : d.S e W base (fun k => ok k ∧ k ≠ g) v xs := by
 obtain ⟨A0, c0, hb, hg, hr0⟩ := h
 exact Kd.S_types ho hb ht
theorem IsS80.own_neS {w0 W : World} {g : Nat} {f0 : List Int} {f1 : Int} {α : Type} {d : Kd α} {e : Nat} {base : Nat} {ok : Nat → Prop} {v : Value} {xs : List α} (h : IsS80 w0 W g f0 f1) (ho : d.S e W base ok v xs) (ht : e ≠ 80) : some g ≠ v.ownBlock := by
 obtain ⟨A0, c0, hb, hg, hr0⟩ := h
 exact Kd.S_ne ho hb ht
theorem IsS80.lt {w0 W : World} {g : Nat} {f0 : List Int} {f1 : Int} (h : IsS80 w0 W g f0 f1) : g < W.heap.size := by
 obtain ⟨A0, c0, hb, hg, hr0⟩ := h
 exact blk_lt hb
theorem IsS80.ge {w0 W : World} {g : Nat} {f0 : List Int} {f1 : Int} (h : IsS80 w0 W g f0 f1) : w0.heap.size ≤ g := by
 obtain ⟨A0, c0, hb, hg, hr0⟩ := h
 exact hg
theorem IsS80.ne_blk {w0 W : World} {g : Nat} {f0 : List Int} {f1 : Int} {a : Nat} {cs : Array Value} {t : TypeId} {fr : Nat × Nat} (h : IsS80 w0 W g f0 f1) (hb2 : W.heap[a]? = some (.cells cs t fr)) (ht : t ≠ 80) : g ≠ a := by
 obtain ⟨A0, c0, hb, hg, hr0⟩ := h
 rintro rfl
 rw [hb] at hb2
 injection hb2 with hb2
 injection hb2 with _ ht2
 exact ht ht2.symm
theorem IsS80.far {w0 W : World} {g : Nat} {f0 : List Int} {f1 : Int} {p : Addr} (h : IsS80 w0 W g f0 f1) (hne : g ≠ p.block) (u : Value) : IsS80 w0 (W.setCell p u) g f0 f1 := by
 obtain ⟨A0, c0, hb, hg, hr0⟩ := h
 exact ⟨A0, c0, blk_far hb hne u, hg, hr0⟩
theorem cellS80_0 {W : World} {g : Nat} {A0 : Option Addr} {c0 : Nat} {f0 : List Int} {f1 : Int} (h : W.heap[g]? = some (.cells #[.slice A0 f0.length c0, .int .i64 f1] 80 (0, 0))) : W.cell? ⟨g, 0, none⟩ = some (.slice A0 f0.length c0) := (blk_cell h 0).trans rfl
theorem cellS80_1 {W : World} {g : Nat} {A0 : Option Addr} {c0 : Nat} {f0 : List Int} {f1 : Int} (h : W.heap[g]? = some (.cells #[.slice A0 f0.length c0, .int .i64 f1] 80 (0, 0))) : W.cell? ⟨g, 1, none⟩ = some (.int .i64 f1) := (blk_cell h 1).trans rfl
theorem IsS80.set_1 {w0 W : World} {g : Nat} {f0 : List Int} {f1 : Int} (h : IsS80 w0 W g f0 f1) (x : Int) : IsS80 w0 (W.setCell ⟨g, 1, none⟩ (.int .i64 x)) g f0 x := by
 obtain ⟨A0, c0, hb, hg, hr0⟩ := h
 exact ⟨A0, c0, (by simpa using blk_set hb 1 (.int .i64 x)), hg, hr0⟩
theorem IsS80.new (w0 W : World) (A0 : Option Addr) (c0 : Nat) (f0 : List Int) (f1 : Int) (hB : Below w0.heap.size w0 W) (hr0 : Kd.C (Kd.int .u8) w0 A0 f0.length f0) : IsS80 w0 (W.alloc (.cells #[.slice A0 f0.length c0, .int .i64 f1] 80)) W.heap.size f0 f1 := ⟨A0, c0, (by simpa using heap_alloc_new W _), hB.size, hr0⟩

theorem z1b_1 {p : Prop} (h : p := by repeat (first | (with_reducible first | exact HB.out | apply below_alloc | apply pw_below_drewN | apply below_drew1) | exact HB.out)) : p := h
theorem z1b_0 {p : Prop} (h : p := by repeat (first | (with_reducible first | exact HBW.out | apply below_alloc | apply pw_below_drewN | apply below_drew1) | exact HBW.out)) : p := h
set_option maxHeartbeats 8000000 in
set_option maxRecDepth 100000 in
theorem spec_l20Open.calls (A0 : Option Addr) (c0 : Nat) (l0 : List Int) (r1 : List Int) (r2 : Int) (w0 w : World) (hB : Below w0.heap.size w0 w) (hr0 : Kd.C (Kd.int .u8) w0 A0 l0.length l0) (hc0 : l0.length ≤ c0) (h : spec_l20Open.f l0 = some (r1, r2)) :
 Calls Try.prog 61 #[.slice A0 l0.length c0] w fun e w' => ∃ g_ : Nat, e = .returned (.pointer (some ⟨g_, 0, none⟩)) ∧ IsS80 w0 w' g_ r1 r2 ∧ Below w0.heap.size w0 w' ∧ Below w.heap.size w w' := by
 have hu80 := Try.underlying80
 have HR0 := ak hr0
 have b1 := ak hc0
 clear hr0 hc0
 have HBW := ak (Below.refl w.heap.size w)
 have HW0 := ak hB.size
 have HB := ak hB
 clear hB
 have H : (if (l0.length : Int) > 2000 then (if 2000 ≤ (l0.length : Int) then (some (l0.take 2000, 0)) else (none)) else (some (l0, 0))) = some (r1, r2) := h
 clear h
 replace H := op_ H
 rcases H with ⟨c2, H⟩ | ⟨c2, H⟩
 ·
  have a8 : decide (2000 < (l0.length : Int)) = true := dT_ c2
  have a9 : decide (2000 < l0.length) = true := dT_ (by omega)
  clear c2
  replace H := ok_ H
  obtain ⟨c3, H⟩ := H
  have b2 := eq_true c3
  have b3 : decide (2000 ≤ (l0.length : Int)) = true := dT_ c3
  clear c3
  simp only [Option.some.injEq, Prod.mk.injEq] at H
  obtain ⟨rfl, rfl⟩ := H
  obtain ⟨i04, hi04, _, hsz4, _⟩ := info_parts info5
  obtain ⟨hcut4, hA4, hC4⟩ := print_take_of (P := Try.prog) (Value.int .u8) 0 22 5 .i64 Try.underlying22 hi04 hsz4 A0 c0 l0 2000 (by omega) (oa_) b1.out
  have HR101 := ak (Kd.C_of_reads (h1 := fun _ => rfl) (hA4 _ (Kd.reads_of_C HR0.out)))
  have b0 := ak hC4
  clear hA4 hC4 hi04 hsz4
  go_enter Try.func61, Try.ntmps61
  go_wp2_with (first | ((with_reducible refine gate_dst (N := 10) rfl ?_); refine bx_ (N := 10) (cs := #[.slice A0 (l0.take 2000).length c0, .int .i64 0]) (t := 80) ?_; intro a0 hg w5 hbox hb; replace HB := ak (below_step z1b_1 hb); have a4 := ak (hbox); have a5 := ak ((by rw [hg]; exact (below_size z1b_0) : w.heap.size ≤ a0)); have a2 := ak ((Nat.le_trans HW0.out (by rw [hg]; exact (below_size z1b_0) : w.heap.size ≤ a0) : w0.heap.size ≤ a0)); replace HBW := ak (below_step HBW.out hb); clear hb hbox hg))
  go_ret
  exact ⟨_, rfl, (show IsS80 w0 _ a0 (l0.take 2000) 0 from ⟨_, _, (xb a4.out), a2.out, HR101.out⟩), (by repeat (first | (with_reducible first | exact HB.out | apply below_alloc | apply pw_below_drewN | apply below_drew1 | refine below_set ?_ a2.out) | exact HB.out)), (by repeat (first | (with_reducible first | exact HBW.out | apply below_alloc | apply pw_below_drewN | apply below_drew1 | refine below_set ?_ a5.out) | exact HBW.out))⟩
 have a8 : decide (2000 < (l0.length : Int)) = false := dF_ c2
 have a9 : decide (2000 < l0.length) = false := dF_ (by omega)
 clear c2
 simp only [Option.some.injEq, Prod.mk.injEq] at H
 obtain ⟨rfl, rfl⟩ := H
 go_enter Try.func61, Try.ntmps61
 go_wp2_with (first | ((with_reducible refine gate_dst (N := 10) rfl ?_); refine bx_ (N := 10) (cs := #[.slice A0 l0.length c0, .int .i64 0]) (t := 80) ?_; intro a1 hg w6 hbox hb; replace HB := ak (below_step z1b_1 hb); have a6 := ak (hbox); have a7 := ak ((by rw [hg]; exact (below_size z1b_0) : w.heap.size ≤ a1)); have a3 := ak ((Nat.le_trans HW0.out (by rw [hg]; exact (below_size z1b_0) : w.heap.size ≤ a1) : w0.heap.size ≤ a1)); replace HBW := ak (below_step HBW.out hb); clear hb hbox hg))
 go_ret
 exact ⟨_, rfl, (show IsS80 w0 _ a1 l0 0 from ⟨_, _, (xb a6.out), a3.out, HR0.out⟩), (by repeat (first | (with_reducible first | exact HB.out | apply below_alloc | apply pw_below_drewN | apply below_drew1 | refine below_set ?_ a3.out) | exact HB.out)), (by repeat (first | (with_reducible first | exact HBW.out | apply below_alloc | apply pw_below_drewN | apply below_drew1 | refine below_set ?_ a7.out) | exact HBW.out))⟩

end Go.Proofs.Ytacifhahfamipaa.P

-- written by gen.py (a program of this session) out of the kit's print of this seat's translation
namespace Go.Proofs.Ytacifhahfamipaa.P
open Go.RowKit Go.Proofs.YtacifhahfamipaaW.PrintWords Go.Proofs.YtacifhahfamipaaW.PrintLast Go.Proofs.YtacifhahfamipaaW.PrintMore
attribute [local go_sem] max2_int min2_int max_two min_two max_three min_three max_four min_four
set_option linter.unusedVariables false
set_option linter.unusedSimpArgs false
theorem z1e_2 {p : Prop} (h : p := by repeat (first | (with_reducible first | exact HK.out | apply KeepBut.set_ | apply keep_drewN | apply keep_drew | apply keep_alloc) | exact HK.out)) : p := h
theorem z1e_1 {p : Prop} (h : p := by repeat (first | (with_reducible first | exact a6.out | apply IsS80.alloc | apply IsS80.drewN | apply IsS80.drew | apply IsS80.set_1) | exact a6.out)) : p := h
theorem z1e_0 {p : Prop} (h : p := by repeat (first | (with_reducible first | exact HB.out | apply below_alloc | apply pw_below_drewN | apply below_drew1 | refine below_set ?_ (IsS80.ge a6.out)) | exact HB.out)) : p := h
set_option maxHeartbeats 8000000 in
set_option maxRecDepth 100000 in
theorem spec_l20Rd_pick.calls (k : Nat) (g : Nat) (s0_0 : List Int) (s0_1 : Int) (a1 : Int) (r1 : Int) (r2 : Int) (w0 w : World) (hI : IsS80 w0 w g s0_0 s0_1) (hB : Below w0.heap.size w0 w) (h : spec_l20Rd_pick.f k s0_0 s0_1 a1 = some (r1, r2)) :
 Calls Try.prog 62 #[.pointer (some ⟨g, 0, none⟩), .int .i64 a1] w fun e w' => e = .returned (.int .i64 r1) ∧ IsS80 w0 w' g s0_0 r2 ∧ Below w0.heap.size w0 w' ∧ KeepBut w w' g none := by
 have a6 := ak hI
 have HK := ak (KeepBut.refl w g none)
 have HL := ak hB.size
 clear hI
 have HW0 := ak hB.size
 have HB := ak hB
 clear hB
 have H : (if a1 < 1 then (spec_l20Rd_pick.j0 k a1 true s0_0 (wrap64 (s0_1 + 1))) else (spec_l20Rd_pick.j0 k a1 ((s0_0.length : Int) == 0) s0_0 (wrap64 (s0_1 + 1)))) = some (r1, r2) := h
 clear h
 have b2 := ak H
 clear H
 obtain ⟨ASz4_0, cSz4_0, HGz4, hgz4, HSz4_0⟩ := a6.out
 have a0 := cellS80_0 HGz4
 have a2 := cellS80_1 HGz4
 have a3 := blk_frozen HGz4 1
 clear HGz4 hgz4
 go_enter Try.func62, Try.ntmps62
 go_upto_region 2 with (fail)
 repeat (go_quiet (fail); go_upto_region 2 with (fail))
 go_cut [24] (fun d7 wc => ∃ (kq : Nat) (a4 : Bool), d7 = .bool a4 ∧ Aside0 (spec_l20Rd_pick.j0 kq a1 a4 s0_0 (wrap64 (s0_1 + 1)) = some (r1, r2)) ∧ Aside0 (kq ≤ k) ∧ Aside0 (IsS80 w0 wc g s0_0 (wrap64 (s0_1 + 1))) ∧ Aside0 (KeepBut w wc g none) ∧ Aside0 (Below w0.heap.size w0 wc))
 case first =>
  have H := b2.out
  clear b2
  replace H := os_ H
  rcases H with ⟨a5, H⟩ | ⟨a5, H⟩
  ·
   (first | rw [a5] | (simp only [i64_w, i32_w]; rw [a5]) | skip)
   have H' := ak H
   clear H
   go_wp2
   repeat (go_quiet (fail); try go_wp2)
   go_meet
   case rel => exact ⟨_, (true), (by first | rfl | (simp; done) | (simp [*]; done)), H', ⟨(by first | omega | exact Nat.le_refl _)⟩, ⟨z1e_1⟩, ⟨z1e_2⟩, ⟨z1e_0⟩⟩
  (first | rw [a5] | (simp only [i64_w, i32_w]; rw [a5]) | skip)
  have H' := ak H
  clear H
  obtain ⟨ASz6_0, cSz6_0, HGz6, hgz6, HSz6_0⟩ := a6.out
  have a0 := cellS80_0 HGz6
  have a2 := cellS80_1 HGz6
  have a3 := blk_frozen HGz6 1
  clear HGz6 hgz6
  go_wp2
  repeat (go_quiet (fail); try go_wp2)
  go_meet
  case rel => exact ⟨_, (((s0_0.length : Int) == 0)), (by first | rfl | (simp; done) | (simp [*]; done)), H', ⟨(by first | omega | exact Nat.le_refl _)⟩, ⟨z1e_1⟩, ⟨z1e_2⟩, ⟨z1e_0⟩⟩
 case rest =>
  clear b2
  try clear a0
  try clear a2
  try clear a3
  obtain ⟨kq, a4, rfl, HA, d8, a6, HK, HB⟩ := hcut
  cases kq with
  | zero => exact absurd HA.out (by simp [spec_l20Rd_pick.j0])
  | succ d9 =>
   have H := HA.out
   clear HA
   simp only [spec_l20Rd_pick.j0] at H
   replace H := ox_ H
   rcases H with ⟨rfl, H⟩ | ⟨rfl, H⟩
   ·
    simp only [Option.some.injEq, Prod.mk.injEq] at H
    obtain ⟨rfl, rfl⟩ := H
    go_wp2
    repeat (go_quiet (fail); try go_wp2)
    go_ret
    exact ⟨(by first | rfl | (simp [errW_none, errW_some] <;> rfl) | (simp [*, errW_none, errW_some] <;> rfl)), z1e_1, z1e_0, z1e_2⟩
   replace H := os_ H
   rcases H with ⟨b0, H⟩ | ⟨b0, H⟩
   ·
    obtain ⟨ji9, hji9⟩ : ∃ j_ : Int, (wrap64 ((wrap64 (s0_1 + 1)) - 1)) = j_ := ⟨_, rfl⟩
    replace H : (if 0 ≤ (ji9) then (if a1 = 0 then (none) else (some (Int.tmod (wrap64 (rd s0_0 (ji9))) a1, (wrap64 (s0_1 + 1))))) else (none)) = some (r1, r2) := by first | (rw [hji9] at H; exact H) | (simp only [hji9] at H ⊢; exact H)
    (try rw [hji9] at b0)
    have hji9w : (IntKind.i64.wrap ((wrap64 (s0_1 + 1)) - 1)) = ji9 := (i64_w _).trans hji9
    replace H := od_ H
    obtain ⟨b5, H⟩ := H
    replace H := op_ H
    rcases H with ⟨b3, H⟩ | ⟨b3, H⟩
    ·
     exact absurd H (by simp)
    have b6 := bv_ b3
    have b7 := bw_ b3
    simp only [Option.some.injEq, Prod.mk.injEq] at H
    obtain ⟨rfl, rfl⟩ := H
    obtain ⟨ASz12_0, cSz12_0, HGz12, hgz12, HSz12_0⟩ := a6.out
    have a0 := cellS80_0 HGz12
    have a2 := cellS80_1 HGz12
    have a3 := blk_frozen HGz12 1
    clear HGz12 hgz12
    have a7 : 0 ≤ ((ji9) : Int) := oa_
    have q104 : (ji9) < (s0_0.length : Int) := oa_
    obtain ⟨ad104, e104, hx104_0⟩ := Kd.at_int HSz12_0 (ji9) a7 q104
    cases e104
    replace hx104_0 := pw_cell_below HB.out hx104_0
    replace a7 := eq_true a7
    replace q104 := eq_true q104
    go_wp2
    repeat (go_quiet (fail); try go_wp2)
    go_ret
    exact ⟨(by first | rfl | (simp [errW_none, errW_some] <;> rfl) | (simp only [← hji9]; first | rfl | (simp [errW_none, errW_some] <;> rfl)) | (simp [*, errW_none, errW_some] <;> rfl)), z1e_1, z1e_0, z1e_2⟩
   replace H := op_ H
   rcases H with ⟨b1, H⟩ | ⟨b1, H⟩
   ·
    exact absurd H (by simp)
   have b8 := bv_ b1
   have b9 := bw_ b1
   have d0 : ¬ (s0_0 = []) := fun h_ => b1 (by rw [h_]; rfl)
   obtain ⟨ji14, hji14⟩ : ∃ j_ : Int, (Int.tmod (wrap64 ((wrap64 (s0_1 + 1)) - 1)) (s0_0.length : Int)) = j_ := ⟨_, rfl⟩
   replace H : (if 0 ≤ (ji14) then (if (ji14) < (s0_0.length : Int) then (if 0 ≤ (Int.tmod (wrap64 ((wrap64 ((wrap64 ((wrap64 (s0_1 + 1)) - 1)) * 7)) + 3)) (s0_0.length : Int)) then (if (Int.tmod (wrap64 ((wrap64 ((wrap64 ((wrap64 (s0_1 + 1)) - 1)) * 7)) + 3)) (s0_0.length : Int)) < (s0_0.length : Int) then (if a1 = 0 then (none) else (some (Int.tmod (Go.bits .xor .i64 (wrap64 ((wrap64 ((wrap64 ((wrap64 ((wrap64 (rd s0_0 (ji14))) * 131)) + (wrap64 ((wrap64 (rd s0_0 (Int.tmod (wrap64 ((wrap64 ((wrap64 ((wrap64 (s0_1 + 1)) - 1)) * 7)) + 3)) (s0_0.length : Int)))) * 1117)))) + (wrap64 ((wrap64 ((wrap64 (s0_1 + 1)) - 1)) * 29)))) + (wrap64 ((wrap64 (Int.tdiv (wrap64 ((wrap64 (s0_1 + 1)) - 1)) (s0_0.length : Int))) * 53)))) (wrap64 (Int.tdiv (wrap64 ((wrap64 ((wrap64 ((wrap64 ((wrap64 (rd s0_0 (ji14))) * 131)) + (wrap64 ((wrap64 (rd s0_0 (Int.tmod (wrap64 ((wrap64 ((wrap64 ((wrap64 (s0_1 + 1)) - 1)) * 7)) + 3)) (s0_0.length : Int)))) * 1117)))) + (wrap64 ((wrap64 ((wrap64 (s0_1 + 1)) - 1)) * 29)))) + (wrap64 ((wrap64 (Int.tdiv (wrap64 ((wrap64 (s0_1 + 1)) - 1)) (s0_0.length : Int))) * 53)))) 64))) a1, (wrap64 (s0_1 + 1))))) else (none)) else (none)) else (none)) else (none)) = some (r1, r2) := by first | (rw [hji14] at H; exact H) | (simp only [hji14] at H ⊢; exact H)
   replace H := od2 H
   obtain ⟨d1, d2, H⟩ := H
   obtain ⟨ji17, hji17⟩ : ∃ j_ : Int, (Int.tmod (wrap64 ((wrap64 ((wrap64 ((wrap64 (s0_1 + 1)) - 1)) * 7)) + 3)) (s0_0.length : Int)) = j_ := ⟨_, rfl⟩
   replace H : (if 0 ≤ (ji17) then (if (ji17) < (s0_0.length : Int) then (if a1 = 0 then (none) else (some (Int.tmod (Go.bits .xor .i64 (wrap64 ((wrap64 ((wrap64 ((wrap64 ((wrap64 (rd s0_0 (ji14))) * 131)) + (wrap64 ((wrap64 (rd s0_0 (ji17))) * 1117)))) + (wrap64 ((wrap64 ((wrap64 (s0_1 + 1)) - 1)) * 29)))) + (wrap64 ((wrap64 (Int.tdiv (wrap64 ((wrap64 (s0_1 + 1)) - 1)) (s0_0.length : Int))) * 53)))) (wrap64 (Int.tdiv (wrap64 ((wrap64 ((wrap64 ((wrap64 ((wrap64 (rd s0_0 (ji14))) * 131)) + (wrap64 ((wrap64 (rd s0_0 (ji17))) * 1117)))) + (wrap64 ((wrap64 ((wrap64 (s0_1 + 1)) - 1)) * 29)))) + (wrap64 ((wrap64 (Int.tdiv (wrap64 ((wrap64 (s0_1 + 1)) - 1)) (s0_0.length : Int))) * 53)))) 64))) a1, (wrap64 (s0_1 + 1))))) else (none)) else (none)) = some (r1, r2) := by first | (rw [hji17] at H; exact H) | (simp only [hji17] at H ⊢; exact H)
   replace H := od2 H
   obtain ⟨d3, d4, H⟩ := H
   replace H := op_ H
   rcases H with ⟨b4, H⟩ | ⟨b4, H⟩
   ·
    exact absurd H (by simp)
   have d5 := bv_ b4
   have d6 := bw_ b4
   simp only [Option.some.injEq, Prod.mk.injEq] at H
   obtain ⟨rfl, rfl⟩ := H
   obtain ⟨ASz21_0, cSz21_0, HGz21, hgz21, HSz21_0⟩ := a6.out
   have a0 := cellS80_0 HGz21
   have a2 := cellS80_1 HGz21
   have a3 := blk_frozen HGz21 1
   clear HGz21 hgz21
   have a8 : 0 ≤ ((ji14) : Int) := oa_
   have q105 : (ji14) < (s0_0.length : Int) := oa_
   obtain ⟨ad105, e105, hx105_0⟩ := Kd.at_int HSz21_0 (ji14) a8 q105
   cases e105
   replace hx105_0 := pw_cell_below HB.out hx105_0
   replace a8 := eq_true a8
   replace q105 := eq_true q105
   have a9 : 0 ≤ ((ji17) : Int) := oa_
   have q106 : (ji17) < (s0_0.length : Int) := oa_
   obtain ⟨ad106, e106, hx106_0⟩ := Kd.at_int HSz21_0 (ji17) a9 q106
   obtain rfl := ij_ e106
   replace hx106_0 := pw_cell_below HB.out hx106_0
   replace a9 := eq_true a9
   replace q106 := eq_true q106
   go_wp2
   repeat (go_quiet (fail); try go_wp2)
   go_ret
   exact ⟨(by first | rfl | (simp [errW_none, errW_some] <;> rfl) | (simp only [← hji14, ← hji17]; first | rfl | (simp [errW_none, errW_some] <;> rfl)) | (simp [*, errW_none, errW_some] <;> rfl)), z1e_1, z1e_0, z1e_2⟩

end Go.Proofs.Ytacifhahfamipaa.P

-- written by gen.py (a program of this session) out of the kit's print of this seat's translation
namespace Go.Proofs.Ytacifhahfamipaa.P
open Go.RowKit Go.Proofs.YtacifhahfamipaaW.PrintWords Go.Proofs.YtacifhahfamipaaW.PrintLast Go.Proofs.YtacifhahfamipaaW.PrintMore
attribute [local go_sem] max2_int min2_int max_two min_two max_three min_three max_four min_four
set_option linter.unusedVariables false
set_option linter.unusedSimpArgs false
set_option maxHeartbeats 8000000 in
set_option maxRecDepth 100000 in
theorem impl_isAnswer.calls (A0 : Option Addr) (c0 : Nat) (l0 : List (List Int)) (a1 : Int) (r : Bool) (w : World) (hr0 : Kd.C (Kd.slice 3 (Kd.int .i64)) w A0 l0.length l0) (hc0 : l0.length ≤ c0) (h : impl_isAnswer.f l0 a1 = some r) :
 Calls Try.prog 107 #[.slice A0 l0.length c0, .int .i64 a1] w fun e w' => e = .returned (.bool r) ∧ Drawn0 w w' := by
 have HR0 := ak hr0
 have a2 := ak hc0
 clear hr0 hc0
 have H : (if a1 ≥ 0 then (some (decide (a1 < (l0.length : Int)))) else (some false)) = some r := h
 clear h
 replace H := op_ H
 rcases H with ⟨c3, H⟩ | ⟨c3, H⟩
 ·
  have a0 : decide (0 ≤ a1) = true := dT_ c3
  clear c3
  obtain rfl := Option.some.inj H
  go_enter Try.func107, Try.ntmps107
  go_wp2
  go_ret
  exact ⟨(by first | rfl | (simp; done) | (simp [*]; done)), (by repeat (first | exact Drawn0.refl _ | apply Drawn0.step))⟩
 have a0 : decide (0 ≤ a1) = false := dF_ c3
 clear c3
 obtain rfl := Option.some.inj H
 go_enter Try.func107, Try.ntmps107
 go_wp2
 go_ret
 exact ⟨(by first | rfl | (simp; done) | (simp [*]; done)), (by repeat (first | exact Drawn0.refl _ | apply Drawn0.step))⟩

end Go.Proofs.Ytacifhahfamipaa.P

-- written by gen.py (a program of this session) out of the kit's print of this seat's translation
namespace Go.Proofs.Ytacifhahfamipaa.P
open Go.RowKit Go.Proofs.YtacifhahfamipaaW.PrintWords Go.Proofs.YtacifhahfamipaaW.PrintLast Go.Proofs.YtacifhahfamipaaW.PrintMore
attribute [local go_sem] max2_int min2_int max_two min_two max_three min_three max_four min_four
set_option linter.unusedVariables false
set_option linter.unusedSimpArgs false
theorem z5_2 {p : Prop} (h : p := by have := HK1.out; have := b0.out; have := HK3.out; omega) : p := h
theorem z5_1 {p : Prop} (h : p := by repeat (first | exact Drawn0.refl _ | apply Drawn0.step)) : p := h
theorem z5_0 {p : Prop} (h : p := by first | rfl | (simp; done) | (simp [*]; done)) : p := h
set_option maxHeartbeats 8000000 in
set_option maxRecDepth 100000 in
theorem impl_meet.calls (k : Nat) (A0 : Option Addr) (c0 : Nat) (l0 : List (List Int)) (a1 : Int) (a2 : Int) (r : Int) (w : World) (hr0 : Kd.C (Kd.slice 3 (Kd.int .i64)) w A0 l0.length l0) (hc0 : l0.length ≤ c0) (h : impl_meet.f k l0 a1 a2 = some r) :
 Calls Try.prog 106 #[.slice A0 l0.length c0, .int .i64 a1, .int .i64 a2] w fun e w' => e = .returned (.int .i64 r) ∧ Drawn0 w w' := by
 have HR0 := ak hr0
 have g9 := ak hc0
 clear hr0 hc0
 have H : (impl_meet.l0 k l0 a1 a2 (l0.length : Int) 0) = some r := h
 clear h
 have H' := ak H
 clear H
 go_enter Try.func106, Try.ntmps106
 go_wp2
 go_loopg [12] k (fun kq f9 w' => ∃ (a0 : Int), f9 = .int .i64 a0 ∧ Aside0 (impl_meet.l0 kq l0 a1 a2 (l0.length : Int) a0 = some r) ∧ Aside0 (kq ≤ k) ∧ Drawn0 w w')
 case atStart => exact ⟨(0), z5_0, H', ⟨Nat.le_refl _⟩, z5_1⟩
 case round =>
  clear H'
  obtain ⟨a0, rfl, HA, HK1, ⟨m1, rfl⟩⟩ := hrel
  cases gk with
  | zero => exact absurd HA.out (by simp [impl_meet.l0])
  | succ k1 =>
   have H := HA.out
   clear HA
   simp only [impl_meet.l0] at H
   replace H := os_ H
   rcases H with ⟨b1, H⟩ | ⟨b1, H⟩
   ·
    have d9 := ak H
    clear H
    go_upto_region 4 with (fail)
    go_cut [32] (fun g0 wc => ∃ (kq : Nat) (a5 : Bool), g0 = .bool a5 ∧ Aside0 (impl_meet.j1 kq l0 a1 a2 a0 (l0.length : Int) a0 a5 = some r) ∧ Aside0 (kq ≤ k1) ∧ Drawn0 w wc)
    case first =>
     have H := d9.out
     clear d9
     replace H := od_ H
     obtain ⟨b7, H⟩ := H
     (first | rw [b7] | (simp only [i64_w, i32_w]; rw [b7]) | skip)
     replace H := od3 H
     obtain ⟨g1, g2, g3, H⟩ := H
     replace H := oe2 H
     rcases H with ⟨⟨-, b8, b9⟩, H⟩ | ⟨⟨h0, b8, b9⟩, H⟩
     ·
      have H' := ak H
      clear H
      obtain ⟨ad190, b2, b3, e190, hx190_0, a8, HR190_0, e0, q190⟩ := al_ HR0.out a0
      cases e190
      obtain ⟨ad191, e191, hx191_0, e1, q191⟩ := ai_ HR190_0.out a1
      cases e191
      go_wp2
      go_meet
      case rel => exact ⟨_, (true), z5_0, H', ⟨(by have := HK1.out; first | omega | exact Nat.le_refl _)⟩, z5_1⟩
     replace H := od2 H
     obtain ⟨e9, f0, H⟩ := H
     have H' := ak H
     clear H
     obtain ⟨ad190, b2, b3, e190, hx190_0, a8, HR190_0, e0, q190⟩ := al_ HR0.out a0
     cases e190
     obtain ⟨ad191, e191, hx191_0, e1, q191⟩ := ai_ HR190_0.out a1
     cases e191
     obtain ⟨ad192, e2, e3, e192, hx192_0, d7, HR192_0, g4, q192⟩ := al_ HR0.out a0
     obtain rfl := ij_ e192
     obtain ⟨rfl, rfl⟩ := is_ hx190_0 hx192_0
     obtain ⟨ad193, e193, hx193_0, g5, q193⟩ := ai_ HR192_0.out a2
     cases e193
     go_wp2
     go_meet
     case rel => exact ⟨_, (((rd (rd_L1 l0 a0) a2) == 0)), z5_0, H', ⟨(by have := HK1.out; first | omega | exact Nat.le_refl _)⟩, z5_1⟩
    case rest =>
     clear d9
     try clear c4
     try clear b1
     obtain ⟨kq, a5, rfl, HA, b0, ⟨mc4, rfl⟩⟩ := hcut
     cases kq with
     | zero => exact absurd HA.out (by simp [impl_meet.j1])
     | succ e4 =>
      have H := HA.out
      clear HA
      simp only [impl_meet.j1] at H
      replace H := ox_ H
      rcases H with ⟨rfl, H⟩ | ⟨rfl, H⟩
      ·
       have H' := ak H
       clear H
       go_wp2
       go_roundg e4
       case measure => have := HK1.out; have := b0.out; omega
       case rel => exact ⟨(wrap64 (a0 + 1)), z5_0, H', ⟨(by have := HK1.out; have := b0.out; omega)⟩, z5_1⟩
      have H' := ak H
      clear H
      go_wp2
      go_loopg [8, 35] e4 (fun kq v8 g6 w' => ∃ (b4 : Bool) (a3 : Int), v8 = .bool b4 ∧ g6 = .int .i64 a3 ∧ Aside0 (impl_meet.l1 kq l0 a1 a2 a0 b4 (l0.length : Int) a0 (l0.length : Int) a3 = some r) ∧ Aside0 (kq ≤ e4) ∧ Drawn0 w w')
      case atStart => exact ⟨(true), (0), z5_0, z5_0, H', ⟨Nat.le_refl _⟩, z5_1⟩
      case round =>
       clear H'
       try clear c4
       try clear b1
       try clear h1
       obtain ⟨b4, a3, rfl, rfl, HA, HK3, ⟨m3, rfl⟩⟩ := hrel
       cases gk with
       | zero => exact absurd HA.out (by simp [impl_meet.l1])
       | succ k3 =>
        have H := HA.out
        clear HA
        simp only [impl_meet.l1] at H
        replace H := os_ H
        rcases H with ⟨d0, H⟩ | ⟨d0, H⟩
        ·
         replace H := ox_ H
         rcases H with ⟨rfl, H⟩ | ⟨rfl, H⟩
         ·
          replace H := od4 H
          obtain ⟨f1, f2, f3, f4, H⟩ := H
          replace H := oe2 H
          rcases H with ⟨⟨-, d1, d2⟩, H⟩ | ⟨⟨h2, d1, d2⟩, H⟩
          ·
           have H' := ak H
           clear H
           obtain ⟨ad194, a6, a7, e194, hx194_0, a4, HR194_0, d3, q194⟩ := al_ HR0.out a3
           cases e194
           obtain ⟨ad195, e195, hx195_0, d4, q195⟩ := ai_ HR194_0.out a1
           cases e195
           go_wp2
           go_roundg k3
           case measure => have := HK1.out; have := b0.out; have := HK3.out; omega
           case rel => exact ⟨(true), (wrap64 (a3 + 1)), z5_0, z5_0, H', ⟨z5_2⟩, z5_1⟩
          replace H := od2 H
          obtain ⟨f5, f6, H⟩ := H
          replace H := oe2 H
          rcases H with ⟨⟨-, d5, d6⟩, H⟩ | ⟨⟨h3, d5, d6⟩, H⟩
          ·
           have H' := ak H
           clear H
           obtain ⟨ad194, a6, a7, e194, hx194_0, a4, HR194_0, d3, q194⟩ := al_ HR0.out a3
           cases e194
           obtain ⟨ad195, e195, hx195_0, d4, q195⟩ := ai_ HR194_0.out a1
           cases e195
           obtain ⟨ad196, b5, b6, e196, hx196_0, a9, HR196_0, e5, q196⟩ := al_ HR0.out a3
           obtain rfl := ij_ e196
           obtain ⟨rfl, rfl⟩ := is_ hx194_0 hx196_0
           obtain ⟨ad197, e197, hx197_0, e6, q197⟩ := ai_ HR196_0.out a2
           cases e197
           go_wp2
           go_roundg k3
           case measure => have := HK1.out; have := b0.out; have := HK3.out; omega
           case rel => exact ⟨(true), (wrap64 (a3 + 1)), z5_0, z5_0, H', ⟨z5_2⟩, z5_1⟩
          replace H := od2 H
          obtain ⟨f7, f8, H⟩ := H
          have H' := ak H
          clear H
          obtain ⟨ad194, a6, a7, e194, hx194_0, a4, HR194_0, d3, q194⟩ := al_ HR0.out a3
          cases e194
          obtain ⟨ad195, e195, hx195_0, d4, q195⟩ := ai_ HR194_0.out a1
          cases e195
          obtain ⟨ad196, b5, b6, e196, hx196_0, a9, HR196_0, e5, q196⟩ := al_ HR0.out a3
          obtain rfl := ij_ e196
          obtain ⟨rfl, rfl⟩ := is_ hx194_0 hx196_0
          obtain ⟨ad197, e197, hx197_0, e6, q197⟩ := ai_ HR196_0.out a2
          cases e197
          obtain ⟨ad198, e7, e8, e198, hx198_0, d8, HR198_0, g7, q198⟩ := al_ HR0.out a3
          obtain rfl := ij_ e198
          obtain ⟨rfl, rfl⟩ := is_ hx194_0 hx198_0
          obtain ⟨ad199, e199, hx199_0, g8, q199⟩ := ai_ HR198_0.out a0
          cases e199
          go_wp2
          go_roundg k3
          case measure => have := HK1.out; have := b0.out; have := HK3.out; omega
          case rel => exact ⟨(((rd (rd_L1 l0 a3) a0) == 1)), (wrap64 (a3 + 1)), z5_0, z5_0, H', ⟨z5_2⟩, z5_1⟩
         have H' := ak H
         clear H
         go_wp2
         go_roundg k3
         case measure => have := HK1.out; have := b0.out; have := HK3.out; omega
         case rel => exact ⟨(false), (wrap64 (a3 + 1)), z5_0, z5_0, H', ⟨z5_2⟩, z5_1⟩
        replace H := ox_ H
        rcases H with ⟨rfl, H⟩ | ⟨rfl, H⟩
        ·
         obtain rfl := Option.some.inj H
         go_wp2
         go_ret
         exact ⟨z5_0, z5_1⟩
        have H' := ak H
        clear H
        go_wp2
        go_roundg k3
        case measure => have := HK1.out; have := b0.out; have := HK3.out; omega
        case rel => exact ⟨(wrap64 (a0 + 1)), z5_0, H', ⟨z5_2⟩, z5_1⟩
   obtain rfl := Option.some.inj H
   go_wp2
   go_ret
   exact ⟨z5_0, z5_1⟩

end Go.Proofs.Ytacifhahfamipaa.P

-- written by gen.py (a program of this session) out of the kit's print of this seat's translation
namespace Go.Proofs.Ytacifhahfamipaa.P
open Go.RowKit Go.Proofs.YtacifhahfamipaaW.PrintWords Go.Proofs.YtacifhahfamipaaW.PrintLast Go.Proofs.YtacifhahfamipaaW.PrintMore
attribute [local go_sem] max2_int min2_int max_two min_two max_three min_three max_four min_four
set_option linter.unusedVariables false
set_option linter.unusedSimpArgs false
def impl_turned.T9 : Bool × List (List Nat × List Nat) := (true, [([], []), ([], []), ([0, 1], [0, 1]), ([2], [2]), ([], []), ([], []), ([], []), ([5, 6], [5, 6]), ([7], [7]), ([], []), ([8, 9], [8, 9]), ([10], [10]), ([3, 4, 0, 1, 2, 3, 4, 5, 6, 7, 8, 9, 10, 11], [3, 4]), ([12, 11, 0, 1, 2, 3, 4, 5, 6, 7, 8, 9, 10, 11], [11, 12])])
def impl_turned.B9 : List Nat := [0, 0, 3, 7, 0, 0, 0, 96, 224, 0, 992, 2016, 4095, 8191]
theorem impl_turned.tab9 : rtab .any (opsOf Try.f105 9) = impl_turned.T9 := by kernel_rfl
theorem impl_turned.bits9 : waitsOk impl_turned.T9.2 impl_turned.B9 = true := by kernel_rfl
theorem z7_1 {p : Prop} (h : p := by first | rfl | (simp; done) | (simp [*]; done)) : p := h
theorem z7_0 {p : Prop} (h : p := by repeat (first | (with_reducible first | exact HB.out | apply below_alloc | apply pw_below_drewN | apply below_drew1) | exact HB.out)) : p := h
set_option maxHeartbeats 8000000 in
set_option maxRecDepth 100000 in
theorem impl_turned.calls (k : Nat) (A0 : Option Addr) (c0 : Nat) (l0 : List (List Int)) (r : List (List Int)) (w : World) (hr0 : Kd.C (Kd.slice 3 (Kd.int .i64)) w A0 l0.length l0) (hc0 : l0.length ≤ c0) (h : impl_turned.f k l0 = some r) :
 Calls Try.prog 105 #[.slice A0 l0.length c0] w fun e w' => ∃ v0_ : Value, e = .returned (v0_) ∧ Kd.S (Kd.slice 3 (Kd.int .i64)) 25 w' w.heap.size (fun _ => True) v0_ r ∧ Below w.heap.size w w' := by
 have HR0 := ak hr0
 have f8 := ak hc0
 clear hr0 hc0
 have HB := ak (Below.refl w.heap.size w)
 have H : (if 0 ≤ (l0.length : Int) then (if ((l0.length : Int) : Int).toNat ≤ 11728124029610 then (impl_turned.l0 k l0 (List.replicate ((l0.length : Int) : Int).toNat []) (l0.length : Int) 0) else (none)) else (none)) = some r := h
 clear h
 replace H := ok_ H
 obtain ⟨c2, H⟩ := H
 have b3 := eq_true c2
 have b4 : decide (0 ≤ (l0.length : Int)) = true := dT_ c2
 clear c2
 replace H := ok_ H
 obtain ⟨c3, H⟩ := H
 have b5 := eq_true c3
 have b6 : decide (((l0.length : Int) : Int).toNat ≤ 11728124029610) = true := dT_ c3
 clear c3
 obtain ⟨y177, hy177⟩ : ∃ y_ : List (List Int), y_ = (List.replicate ((l0.length : Int) : Int).toNat []) := ⟨_, rfl⟩
 replace H : (impl_turned.l0 k l0 y177 (l0.length : Int) 0) = some r := by first | (rw [hy177]; with_reducible exact H) | (have H2_ := (Option.bind_some _ _).symm.trans H; rw [hy177]; with_reducible exact H2_) | (have H2_ := (Option.bind_some _ _).symm.trans H; with_reducible exact H2_) | with_reducible exact H | (rw [hy177]; exact H) | exact H
 have Ny177 := ak hy177
 clear hy177
 have H' := ak H
 clear H
 go_enter Try.func105, Try.ntmps105
 go_wp2_with (first | ((with_reducible refine gate_dst (N := 8) rfl ?_); refine Kd.S_make (Kd.slice 3 (Kd.int .i64)) _ 25 rfl (N := 8) rfl 24 _ _ rfl (l0.length : Int) rfl rfl Try.underlying24 (.slice none 0 0) 24 info25 rfl (by decide) (by omega) [] (ok := fun _ => True) (okp := fun _ => True) ⟨_, rfl, Kd.R_nil _ _ _ _ _⟩ (fun _ hk => hk) trivial (oa_) (Nat.le_trans (Nat.mul_le_mul_right _ (oa_ : (l0.length : Int).toNat ≤ 11728124029610)) (by omega)) (Below.refl _ _) (Nat.le_refl _) ?_; intro d8 w4 ho5 hb hg_ hnew_; clear hg_ hnew_; (first | rw [← Ny177.out] at ho5 | (simp only [Int.reduceToNat] at ho5; rw [← Ny177.out] at ho5)); have b7 := ak (Kd.S_lower ho5 (below_size z7_0)); replace HB := ak (below_step z7_0 hb); clear hb ho5))
 go_loopg [11] k (fun kq f5 w' => ∃ (a4 : List (List Int)) (a0 : Int), f5 = .int .i64 a0 ∧ Aside0 (impl_turned.l0 kq l0 a4 (l0.length : Int) a0 = some r) ∧ Aside0 (kq ≤ k) ∧ Aside0 (Kd.S (Kd.slice 3 (Kd.int .i64)) 25 w' w.heap.size (fun _ => True) d8 a4) ∧ Aside0 (Below w.heap.size w w'))
 case atStart => exact ⟨(y177), (0), z7_1, H', ⟨Nat.le_refl _⟩, ⟨(xS b7.out)⟩, ⟨z7_0⟩⟩
 case round =>
  clear H'
  try clear c2
  try clear b3
  try clear b4
  try clear c3
  try clear b5
  try clear b6
  obtain ⟨a4, a0, rfl, HA, HK1, a2, HB⟩ := hrel
  cases gk with
  | zero => exact absurd HA.out (by simp [impl_turned.l0])
  | succ k1 =>
   have H := HA.out
   clear HA
   simp only [impl_turned.l0] at H
   replace H := os_ H
   rcases H with ⟨b8, H⟩ | ⟨b8, H⟩
   ·
    replace H := ok_ H
    obtain ⟨c7, H⟩ := H
    have d9 := eq_true c7
    have e0 : decide (0 ≤ (l0.length : Int)) = true := dT_ c7
    clear c7
    replace H := ok_ H
    obtain ⟨c8, H⟩ := H
    have e1 := eq_true c8
    have e2 : decide (((l0.length : Int) : Int).toNat ≤ 35184372088832) = true := dT_ c8
    clear c8
    obtain ⟨y180, hy180⟩ : ∃ y_ : List Int, y_ = (List.replicate ((l0.length : Int) : Int).toNat 0) := ⟨_, rfl⟩
    replace H : (if 0 ≤ a0 then (if a0 < (a4.length : Int) then (impl_turned.l1 k1 l0 (a4.set (a0 : Int).toNat y180) a0 (l0.length : Int) a0 (l0.length : Int) 0) else (none)) else (none)) = some r := by first | (rw [hy180]; with_reducible exact H) | (have H2_ := (Option.bind_some _ _).symm.trans H; rw [hy180]; with_reducible exact H2_) | (have H2_ := (Option.bind_some _ _).symm.trans H; with_reducible exact H2_) | with_reducible exact H | (rw [hy180]; exact H) | exact H
    have Ny180 := ak hy180
    clear hy180
    replace H := od2 H
    obtain ⟨e3, b9, H⟩ := H
    obtain ⟨y183, hy183⟩ : ∃ y_ : List (List Int), y_ = (a4.set (a0 : Int).toNat y180) := ⟨_, rfl⟩
    replace H : (impl_turned.l1 k1 l0 y183 a0 (l0.length : Int) a0 (l0.length : Int) 0) = some r := by first | (rw [hy183]; with_reducible exact H) | (have H2_ := (Option.bind_some _ _).symm.trans H; rw [hy183]; with_reducible exact H2_) | (have H2_ := (Option.bind_some _ _).symm.trans H; with_reducible exact H2_) | with_reducible exact H | (rw [hy183]; exact H) | exact H
    have Ny183 := ak hy183
    clear hy183
    have H' := ak H
    clear H
    go_wp2_with (first | ((with_reducible refine gate_dst (N := 18) rfl ?_); refine Kd.R_make (Kd.int .i64) _ 3 rfl (N := 18) rfl 25 _ _ rfl (l0.length : Int) rfl rfl Try.underlying25 (.int .i64 0) 8 info3 rfl (by decide) (by omega) 0 (ok := fun _ => True) (okp := fun _ => True) rfl (fun _ hk => hk) trivial (oa_) (Nat.le_trans (Nat.mul_le_mul_right _ (oa_ : (l0.length : Int).toNat ≤ 35184372088832)) (by omega)) (Below.refl _ _) (Nat.le_refl _) ?_; intro a6 e4 ho13 hb hg_ hnew_; clear hg_ hnew_; (first | rw [← Ny180.out] at ho13 | (simp only [Int.reduceToNat] at ho13; rw [← Ny180.out] at ho13)); replace a2 := ak (Kd.S_elder' (xS a2.out) (Kd.R_base ho13) hb); have a5 := ak (Kd.R_lower ho13 (below_size z7_0)); replace HB := ak (below_step z7_0 hb); clear hb ho13; have d5 : 0 ≤ (a0 : Int) := oa_; have q11 : (a0 : Int) < ((a4.length : Int) : Int) := oa_; obtain ⟨go11, a8, d0, d1, gl11, cl11, HG11⟩ := Kd.S_form a2.out (by omega); (first | cases d0 | (injection d0 with ea_ en_ ec_; (first | subst ea_ | (injection ea_ with ea_; subst ea_)); subst ec_; clear en_)); have GB11 := ak d1; have GG11 := ak HG11; clear d1 gl11 HG11; obtain ⟨_, ce11, hcl11, hM11, hcc11, hfr11, _, _⟩ := Kd.S_elem a2.out [] (a0 : Int) d5 q11; obtain ⟨ve11_0, rfl, ge11_0⟩ := hM11; have hx11_0 := hcc11 0 _ rfl; have hf11_0 := hfr11 0; (try simp only [show ((Kd.slice 3 (Kd.int .i64))).sz = 1 from rfl, Nat.mul_one, Nat.add_zero] at hx11_0); (try simp only [show ((Kd.slice 3 (Kd.int .i64))).sz = 1 from rfl, Nat.mul_one, Nat.add_zero] at hf11_0); clear hcl11 hcc11 hfr11; (try clear hM11); replace d5 := eq_true d5; replace q11 := eq_true q11; have n_ := ak (Kd.S_mono (ok' := (fun k_ => some k_ ≠ (a6 : Value).ownBlock)) a2.out (fun k_ hk => hk.2)); clear a2; have a2 := n_; clear n_; have HX14 := ak (show Kd.S (Kd.slice 3 (Kd.int .i64)) 25 e4 w.heap.size (fun k_ => ((fun _ => True)) k_ ∧ ¬ ((fun k_ => some k_ = (a6 : Value).ownBlock)) k_) (.slice (some ⟨go11, 0, none⟩) a4.length a8) a4 from (by (with_reducible repeat (first | apply Kd.S_alloc | apply Kd.S_drewN | apply Kd.S_drew)); exact Kd.S_mono a2.out (fun k_ hk => ⟨trivial, fun e_ => hk e_⟩))); obtain ⟨oki14, ce14, hcl14, hM14, hcc14, hfr14, hoki14, hH14⟩ := Kd.S_elem HX14.out [] (a0 : Int) (oa_) (by have h_ : (a0 : Int) < ((a4.length : Int) : Int) := oa_; first | exact h_ | (have e_ := (Kd.S_reads' a2.out).1; omega) | simpa using h_); obtain ⟨ve14_0, rfl, ge14_0⟩ := hM14; have HP14 := Kd.S_seg hH14 (oa_) (by have h_ : (a0 : Int) < ((a4.length : Int) : Int) := oa_; first | exact h_ | (have e_ := (Kd.S_reads' a2.out).1; omega) | simpa using h_) (seg := [a6]) (j := 0) (show 1 ≤ 1 from by decide) (x' := y180) (Kd.M_row (Kd.R_mono (Kd.R_tight rfl (Kd.R_mono (ok' := fun k_ => ((fun _ => True)) k_ ∧ k_ ≠ go11) (Kd.R_apart' (a5.out) (Kd.S_typed a2.out) (by decide)) (fun k_ hk => ⟨trivial, fun e_ => (hk.2) (by rw [e_]; rfl)⟩))) (fun _ h_ => Or.inr (h_)))) (fun _ hk => hk) (fun k_ hk_ => ((Kd.R_mono (ok' := fun k_ => ((fun _ => True)) k_ ∧ k_ ≠ go11) (Kd.R_apart' (a5.out) (Kd.S_typed a2.out) (by decide)) (fun k_ hk => ⟨trivial, fun e_ => (hk.2) (by rw [e_]; rfl)⟩))).1 k_ hk_.symm); have hx14_0 := hcc14 0 _ rfl; (try simp only [show ((Kd.slice 3 (Kd.int .i64))).sz = 1 from rfl, Nat.mul_one, Nat.add_zero] at hx14_0); have hf14_0 := hfr14 0; (try simp only [show ((Kd.slice 3 (Kd.int .i64))).sz = 1 from rfl, Nat.mul_one, Nat.add_zero] at hf14_0); clear hcl14 hcc14 hfr14 hoki14 hH14; (try clear hM14); (try simp only [show ((Kd.slice 3 (Kd.int .i64))).sz = 1 from rfl, Nat.mul_one, Nat.add_zero] at HP14)) | ((with_reducible refine gate_store (t := 25) (p := 19) rfl ?_); refine store_event (t := 25) (p := 19) (v := ?vo_w15) (w1 := (e4.setCell ⟨go11, (a0 : Int).toNat, none⟩ (a6))) ?hg ?ho ?hn ?hr ?_; (case ho => rfl); (case hg => rfl); (case hn => rfl); (case hr => first | (go_simp; done) | (go_simp; rfl) | (obtain ⟨_, _, e_⟩ := Kd.R_slice a5.out; rw [e_]; first | (go_simp; done) | (go_simp; rfl))); intro e5 hw; have hg : e4.grownBy e5 (some go11) := (by rw [hw]; exact HP14.2); have hp_ : Kd.S (Kd.slice 3 (Kd.int .i64)) 25 e5 w.heap.size (fun _ => True) (.slice (some ⟨go11, 0, none⟩) a4.length a8) y183 := (by rw [hw, Ny183.out]; exact HP14.1); clear HP14; replace a2 := ak (hp_); replace HB := ak ((by rw [hw]; exact below_set (HB.out) GB11.out : Below w.heap.size w e5)); clear a5; clear hg hw hp_))
    go_loopg [22] k1 (fun kq f6 w' => ∃ (a3 : List (List Int)) (a1 : Int), f6 = .int .i64 a1 ∧ Aside0 (impl_turned.l1 kq l0 a3 a0 (l0.length : Int) a0 (l0.length : Int) a1 = some r) ∧ Aside0 (kq ≤ k1) ∧ Aside0 (Kd.S (Kd.slice 3 (Kd.int .i64)) 25 w' w.heap.size (fun _ => True) (.slice (some ⟨go11, 0, none⟩) a4.length a8) a3) ∧ Aside0 (Below w.heap.size w w'))
    case atStart => exact ⟨(y183), (0), z7_1, H', ⟨Nat.le_refl _⟩, ⟨(xS a2.out)⟩, ⟨z7_0⟩⟩
    case round =>
     clear H'
     try clear c2
     try clear b3
     try clear b4
     try clear c3
     try clear b5
     try clear b6
     try clear c6
     try clear b8
     try clear c7
     try clear d9
     try clear e0
     try clear c8
     try clear e1
     try clear e2
     try clear c9
     try clear e3
     try clear f9
     try clear b9
     try clear d5
     try clear q11
     try clear hx11_0
     try clear hx14_0
     obtain ⟨a3, a1, rfl, HA, HK2, a2, HB⟩ := hrel
     have hl3_2 := (Kd.S_reads' a2.out).1
     rw [hl3_2] at a2
     (try simp only [hl3_2])
     cases gk with
     | zero => exact absurd HA.out (by simp [impl_turned.l1])
     | succ k2 =>
      have H := HA.out
      clear HA
      simp only [impl_turned.l1] at H
      replace H := os_ H
      rcases H with ⟨d2, H⟩ | ⟨d2, H⟩
      ·
       replace H := od6 H
       obtain ⟨e9, f0, f1, f2, f3, f4, H⟩ := H
       obtain ⟨y187, hy187⟩ : ∃ y_ : List Int, y_ = ((rd_L1 a3 a0).set (a1 : Int).toNat (rd (rd_L1 l0 a1) a0)) := ⟨_, rfl⟩
       replace H : (impl_turned.l1 k2 l0 (a3.set (a0 : Int).toNat y187) a0 (l0.length : Int) a0 (l0.length : Int) (wrap64 (a1 + 1))) = some r := by first | (rw [hy187]; with_reducible exact H) | (have H2_ := (Option.bind_some _ _).symm.trans H; rw [hy187]; with_reducible exact H2_) | (have H2_ := (Option.bind_some _ _).symm.trans H; with_reducible exact H2_) | with_reducible exact H | (rw [hy187]; exact H) | exact H
       have Ny187 := ak hy187
       clear hy187
       obtain ⟨y189, hy189⟩ : ∃ y_ : List (List Int), y_ = (a3.set (a0 : Int).toNat y187) := ⟨_, rfl⟩
       replace H : (impl_turned.l1 k2 l0 y189 a0 (l0.length : Int) a0 (l0.length : Int) (wrap64 (a1 + 1))) = some r := by first | (rw [hy189]; with_reducible exact H) | (have H2_ := (Option.bind_some _ _).symm.trans H; rw [hy189]; with_reducible exact H2_) | (have H2_ := (Option.bind_some _ _).symm.trans H; with_reducible exact H2_) | with_reducible exact H | (rw [hy189]; exact H) | exact H
       have Ny189 := ak hy189
       clear hy189
       have H' := ak H
       clear H
       try go_wp2
       replace a2 := ak (Kd.S_drew a2.out)
       replace HB := ak (below_drew1 HB.out)
       have a7 : 0 ≤ (a0 : Int) := oa_
       have q184 : a0 < (a3.length : Int) := oa_
       obtain ⟨ad184, e6, a9, e184, hx184_0, hl184_0, hi184_0⟩ := at_L1 (Kd.S_reads' a2.out).2.2 a0 a7 q184
       obtain rfl : (⟨go11, 0, none⟩ : Addr) = ad184 := (by injection e184)
       obtain ⟨ce184, hce184, hMe184, hcc184⟩ := Kd.S_get a2.out [] a0 a7 (by first | exact q184 | exact oa_ | (have e_ := (Kd.S_reads' a2.out).1; omega))
       obtain ⟨ve184_0, rfl, ge184_0⟩ := hMe184
       have hv184_0 := hcc184 0 _ rfl
       rw [Nat.add_zero, show ((Kd.slice 3 (Kd.int .i64))).sz = 1 from rfl, Nat.mul_one] at hv184_0
       replace hv184_0 := Option.some.inj (hv184_0.symm.trans hx184_0)
       rw [hv184_0] at ge184_0
       have HL184_0 := ak (show Kd.R (Kd.int .i64) 3 _ _ _ _ (rd_L1 a3 a0) from ge184_0)
       clear hv184_0 ge184_0
       have HX184_0 := ak hx184_0
       clear hcc184 hce184
       (first | simp only [add_plain] at hx184_0 | simp only [add_at] at hx184_0 | simp only [Addr.add, Nat.zero_add] at hx184_0 | skip)
       have HR184_0 := ak hi184_0
       have d6 := ak hl184_0
       clear hi184_0 hl184_0
       replace a7 := eq_true a7
       replace q184 := eq_true q184
       have b0 : 0 ≤ (a1 : Int) := oa_
       have q185 : a1 < (l0.length : Int) := oa_
       obtain ⟨ad185, e7, b1, e185, hx185_0, hl185_0, hi185_0⟩ := at_L1 HR0.out a1 b0 q185
       have hw185_0 := hx185_0
       cases e185
       replace hx185_0 := (HB.out.cell (World.block_lt_of_cell? w _ hx185_0)).trans hx185_0
       have HR185_0 := ak hi185_0
       have d7 := ak hl185_0
       clear hi185_0 hl185_0
       replace b0 := eq_true b0
       replace q185 := eq_true q185
       have b2 : 0 ≤ (a0 : Int) := oa_
       have q186 : a0 < ((rd_L1 l0 a1).length : Int) := oa_
       obtain ⟨ad186, e186, hx186_0⟩ := Kd.at_int HR185_0.out a0 b2 q186
       have hw186_0 := hx186_0
       cases e186
       replace hx186_0 := (HB.out.cell (World.block_lt_of_cell? w _ hx186_0)).trans hx186_0
       replace b2 := eq_true b2
       replace q186 := eq_true q186
       have e8 : 0 ≤ (a1 : Int) := oa_
       have q23 : (a1 : Int) < (((rd_L1 a3 a0).length : Int) : Int) := oa_
       obtain ⟨go23, f7, d3, d4, gl23, cl23, HG23⟩ := Kd.R_form HL184_0.out (by omega)
       (first | cases d3 | (injection d3 with ea_ en_ ec_; (first | subst ea_ | (injection ea_ with ea_; subst ea_)); subst ec_; clear en_))
       have GB23 := ak d4
       have GG23 := ak HG23
       clear d4 gl23 HG23
       obtain ⟨hx23_0, hf23_0⟩ := Kd.R_celln 0 HL184_0.out (a1 : Int) e8 q23
       replace e8 := eq_true e8
       replace q23 := eq_true q23
       have hq25 : (a0 : Int) < (a3.length : Int) := (by have h_ : (a0 : Int) < ((a3.length : Int) : Int) := oa_; first | exact h_ | (have e_ := (Kd.S_reads' a2.out).1; omega) | simpa only [List.length_set, List.length_set] using h_)
       obtain ⟨oki25, ce25, hcl25, hM25, hcc25, hok25, hbk25⟩ := Kd.S_borrow a2.out [] (a0 : Int) (oa_) hq25
       obtain ⟨ve25_0, rfl, ge25_0⟩ := hM25
       have hv25 := hcc25 0 _ rfl
       rw [Nat.add_zero, show ((Kd.slice 3 (Kd.int .i64))).sz = 1 from rfl, Nat.mul_one] at hv25
       replace hv25 := Option.some.inj (hv25.symm.trans HX184_0.out)
       subst hv25
       clear hcc25 hcl25
       replace ge25_0 := (show Kd.R (Kd.int .i64) 3 _ _ _ _ (rd_L1 a3 a0) from ge25_0)
       have HP25 := Kd.R_putg ge25_0 (a1 : Int) (rd (rd_L1 l0 a1) a0)
       rw [← Ny187.out] at HP25
       have HS25 := hbk25 HP25.2 (fun k_ e_ => by injection e_ with e_; subst e_; exact ge25_0.1 _ rfl) (x' := y187) (Kd.M_row HP25.1)
       rw [← Ny189.out] at HS25
       have HQ25 := ak HS25
       clear HP25 HS25 hbk25 hok25
       refine start_ (n := 14) (S := fun w' => w'.cell? ⟨go11, (a0).toNat, none⟩ = some (.slice (some ⟨go23, 0, none⟩) (rd_L1 a3 a0).length a9) ∧ w'.cell? (ad185.add (a1).toNat) = some (.slice (some ad186) (rd_L1 l0 a1).length b1) ∧ w'.cell? (ad186.add (a0).toNat) = some (.int .i64 (rd (rd_L1 l0 a1) a0))) (ds := [13]) (bA 14 0) (by kernel_rfl) rfl rfl ⟨hx184_0, ((HB.out.cell (World.block_lt_of_cell? w _ hw185_0)).trans hw185_0), ((HB.out.cell (World.block_lt_of_cell? w _ hw186_0)).trans hw186_0)⟩ (fun hHeld => ?_); refine with_tabW impl_turned.tab9 impl_turned.bits9 (fun HT_ HW_ => ?_)
       generalize wr.drew = g0 at a2 HB GG23 HL184_0 HQ25 HR184_0 HR185_0 HX184_0 hf23_0 hx184_0 hx185_0 hx186_0 hx23_0 hHeld ⊢
       refine pu_ (i := 0) (N := some 25) (bA 14 1) ?_
       refine pu_ (i := 1) (N := some 26) (bA 14 3) ?_
       refine pu_ (i := 2) (N := some 27) (bA 14 7) ?_
       refine pu_ (i := 4) (N := some 29) (bA 14 23) ?_
       refine pu_ (i := 5) (N := some 30) (bA 14 55) ?_
       refine pu_ (i := 6) (N := some 31) (bA 14 119) ?_
       refine pu_ (i := 7) (N := some 32) (bA 14 247) ?_
       refine pu_ (i := 9) (N := some 34) (bA 14 759) ?_
       refine tk_ (i := 3) (N := some 28) (bA 14 767) ?_
       refine tk_ (i := 8) (N := some 33) (bA 14 1023) ?_
       refine pu_ (i := 10) (N := some 35) (bA 14 2047) ?_
       refine tk_ (i := 11) (N := some 36) (bA 14 4095) ?_
       refine pu_ (i := 12) (N := some 37) (bA 14 8191) ?_
       refine last_ (i := 13) (N := none) (bA 14 16383) rfl rfl (one_of HT_.out (by kernel_rfl)) (by decide) (fun K hK => ?_)
       refine skip_ (w1 := ?_) (by rfl) rfl ?_ ?_
       rotate_left
       ·
        go_simp
        rfl
       refine hK.out _ _ ?_
       clear hK K
       refine done_ (done_of HT_.out (by kernel_rfl)) ?_
       try go_wp2
       (try simp only [← hl3_2])
       go_roundg k2
       case measure => have := HK1.out; have := HK2.out; omega
       case rel => exact ⟨(y189), (wrap64 (a1 + 1)), z7_1, H', ⟨(by have := HK1.out; have := HK2.out; omega)⟩, ⟨(by (try simp only [hl3_2]); (with_reducible repeat (first | apply Kd.S_alloc | apply Kd.S_drewN | apply Kd.S_drew)); exact HQ25.out)⟩, ⟨(by repeat (first | (with_reducible first | exact HB.out | apply below_alloc | apply pw_below_drewN | apply below_drew1 | refine below_set ?_ GB23.out) | exact HB.out))⟩⟩
      have H' := ak H
      clear H
      go_wp2
      (try simp only [← hl3_2])
      go_roundg k2
      case measure => have := HK1.out; have := HK2.out; omega
      case rel => exact ⟨(a3), (wrap64 (a0 + 1)), z7_1, H', ⟨(by have := HK1.out; have := HK2.out; omega)⟩, ⟨(by (try simp only [hl3_2]); (with_reducible repeat (first | apply Kd.S_alloc | apply Kd.S_drewN | apply Kd.S_drew)); exact a2.out)⟩, ⟨z7_0⟩⟩
   obtain rfl := Option.some.inj H
   go_wp2
   go_ret
   exact ⟨_, (by first | rfl | (simp [errW_none, errW_some] <;> rfl) | (simp [*, errW_none, errW_some] <;> rfl)), (xS a2.out), z7_0⟩

end Go.Proofs.Ytacifhahfamipaa.P

-- written by gen.py (a program of this session) out of the kit's print of this seat's translation
namespace Go.Proofs.Ytacifhahfamipaa.P
open Go.RowKit Go.Proofs.YtacifhahfamipaaW.PrintWords Go.Proofs.YtacifhahfamipaaW.PrintLast Go.Proofs.YtacifhahfamipaaW.PrintMore
attribute [local go_sem] max2_int min2_int max_two min_two max_three min_three max_four min_four
set_option linter.unusedVariables false
set_option linter.unusedSimpArgs false
theorem z3_2 {p : Prop} (h : p := by first | rfl | (simp; done) | (simp [*]; done)) : p := h
theorem z3_1 {p : Prop} (h : p := by first | rfl | (simp [errW_none, errW_some] <;> rfl) | (simp [*, errW_none, errW_some] <;> rfl)) : p := h
theorem z3_0 {p : Prop} (h : p := by repeat (first | (with_reducible first | exact HB.out | apply below_alloc | apply pw_below_drewN | apply below_drew1) | exact HB.out)) : p := h
set_option maxHeartbeats 8000000 in
set_option maxRecDepth 100000 in
theorem impl_LatticeOk.calls (k : Nat) (A0 : Option Addr) (c0 : Nat) (l0 : List (List Int)) (r : Bool) (w : World) (hr0 : Kd.C (Kd.slice 3 (Kd.int .i64)) w A0 l0.length l0) (hc0 : l0.length ≤ c0) (h : impl_LatticeOk.f k l0 = some r) :
 Calls Try.prog 104 #[.slice A0 l0.length c0] w fun e w' => e = .returned (.bool r) ∧ Below w.heap.size w w' := by
 have HR0 := ak hr0
 have a5 := ak hc0
 clear hr0 hc0
 have HB := ak (Below.refl w.heap.size w)
 have H : ((impl_OrderOk.f k l0).bind fun a6 => (if a6 = true then ((impl_turned.f k l0).bind fun a3 => (impl_LatticeOk.l0 k l0 a3 (l0.length : Int) 0)) else (some false))) = some r := h
 clear h
 obtain ⟨a6, A2, H⟩ := bd_ H
 try dsimp only at H
 replace H := ox_ H
 rcases H with ⟨rfl, H⟩ | ⟨rfl, H⟩
 ·
  obtain ⟨a3, A4, H⟩ := bd_ H
  try dsimp only at H
  have H' := ak H
  clear H
  go_enter Try.func104, Try.ntmps104
  go_wp2_with (first | ((with_reducible refine gate_callee (f := 67) rfl ?_); refine gl_ (some 7) Try.func67 #[.slice A0 l0.length c0] ?_; (with_reducible refine (impl_OrderOk.calls k _ _ l0 true _ (y4 HR0.out) a5.out A2.out).mono ?_); rintro e w' ⟨rfl, ⟨nd, rfl⟩⟩; refine ⟨_, rfl, ?_⟩) | ((with_reducible refine gate_callee (f := 105) rfl ?_); refine gl_ (some 10) Try.func105 #[.slice A0 l0.length c0] ?_; (with_reducible refine (impl_turned.calls k _ _ l0 a3 _ (y4 HR0.out) a5.out A4.out).mono ?_); rintro e w' ⟨a7, rfl, ho0, hb⟩; refine ⟨_, rfl, ?_⟩; have a8 := ak (Kd.S_lower ho0 (below_size z3_0)); replace HB := ak (below_step z3_0 hb); (try clear hb); (try clear hb2); (try clear hk); (try clear hi); (try clear ho0)))
  go_loopg [13] k (fun kq b7 w' => ∃ (a0 : Int), b7 = .int .i64 a0 ∧ Aside0 (impl_LatticeOk.l0 kq l0 a3 (l0.length : Int) a0 = some r) ∧ Aside0 (kq ≤ k) ∧ Aside0 (Kd.S (Kd.slice 3 (Kd.int .i64)) 25 w' w.heap.size (fun _ => True) a7 a3) ∧ Aside0 (Below w.heap.size w w'))
  case atStart => exact ⟨(0), z3_2, H', ⟨Nat.le_refl _⟩, ⟨(xS a8.out)⟩, ⟨z3_0⟩⟩
  case round =>
   clear H'
   try clear c3
   obtain ⟨a0, rfl, HA, HK1, a2, HB⟩ := hrel
   cases gk with
   | zero => exact absurd HA.out (by simp [impl_LatticeOk.l0])
   | succ k1 =>
    have H := HA.out
    clear HA
    simp only [impl_LatticeOk.l0] at H
    replace H := os_ H
    rcases H with ⟨a9, H⟩ | ⟨a9, H⟩
    ·
     have H' := ak H
     clear H
     go_wp2
     go_loopg [18] k1 (fun kq b8 w' => ∃ (a1 : Int), b8 = .int .i64 a1 ∧ Aside0 (impl_LatticeOk.l1 kq l0 a3 a0 (l0.length : Int) a0 (l0.length : Int) a1 = some r) ∧ Aside0 (kq ≤ k1) ∧ Aside0 (Kd.S (Kd.slice 3 (Kd.int .i64)) 25 w' w.heap.size (fun _ => True) a7 a3) ∧ Aside0 (Below w.heap.size w w'))
     case atStart => exact ⟨(0), z3_2, H', ⟨Nat.le_refl _⟩, ⟨(xS a2.out)⟩, ⟨z3_0⟩⟩
     case round =>
      clear H'
      try clear c3
      try clear c6
      try clear a9
      obtain ⟨a1, rfl, HA, HK2, a2, HB⟩ := hrel
      cases gk with
      | zero => exact absurd HA.out (by simp [impl_LatticeOk.l1])
      | succ k2 =>
       have H := HA.out
       clear HA
       simp only [impl_LatticeOk.l1] at H
       replace H := os_ H
       rcases H with ⟨b2, H⟩ | ⟨b2, H⟩
       ·
        obtain ⟨a4, A8, H⟩ := bd_ H
        try dsimp only at H
        replace H := os_ H
        rcases H with ⟨b3, H⟩ | ⟨b3, H⟩
        ·
         obtain rfl := Option.some.inj H
         go_wp2_with (first | ((with_reducible refine gate_callee (f := 106) rfl ?_); refine gl_ (some 24) Try.func106 #[.slice A0 l0.length c0, .int .i64 a0, .int .i64 a1] ?_; (with_reducible refine (impl_meet.calls k2 _ _ l0 a0 a1 a4 _ (y3 HR0.out HB.out) a5.out A8.out).mono ?_); rintro e w' ⟨rfl, ⟨nd, rfl⟩⟩; refine ⟨_, rfl, ?_⟩))
         go_ret
         exact ⟨z3_1, z3_0⟩
        obtain ⟨b0, b6, H⟩ := bd_ H
        try dsimp only at H
        replace H := os_ H
        rcases H with ⟨b1, H⟩ | ⟨b1, H⟩
        ·
         obtain rfl := Option.some.inj H
         go_wp2_with (first | ((with_reducible refine gate_callee (f := 106) rfl ?_); refine gl_ (some 24) Try.func106 #[.slice A0 l0.length c0, .int .i64 a0, .int .i64 a1] ?_; (with_reducible refine (impl_meet.calls k2 _ _ l0 a0 a1 a4 _ (y3 HR0.out HB.out) a5.out A8.out).mono ?_); rintro e w' ⟨rfl, ⟨nd, rfl⟩⟩; refine ⟨_, rfl, ?_⟩; obtain ⟨b9, d0, b4⟩ := Kd.S_slice a2.out; subst b4) | (go_at_call 106; (with_reducible refine (impl_meet.calls k2 _ _ a3 a0 a1 b0 _ (y1 a2.out) (y2 a2.out) b6.out).mono ?_); rintro e w' ⟨rfl, ⟨nd, rfl⟩⟩))
         go_ret
         exact ⟨z3_1, z3_0⟩
        have H' := ak H
        clear H
        go_wp2_with (first | ((with_reducible refine gate_callee (f := 106) rfl ?_); refine gl_ (some 24) Try.func106 #[.slice A0 l0.length c0, .int .i64 a0, .int .i64 a1] ?_; (with_reducible refine (impl_meet.calls k2 _ _ l0 a0 a1 a4 _ (y3 HR0.out HB.out) a5.out A8.out).mono ?_); rintro e w' ⟨rfl, ⟨nd, rfl⟩⟩; refine ⟨_, rfl, ?_⟩; obtain ⟨d1, d2, b5⟩ := Kd.S_slice a2.out; subst b5) | (go_at_call 106; (with_reducible refine (impl_meet.calls k2 _ _ a3 a0 a1 b0 _ (y1 a2.out) (y2 a2.out) b6.out).mono ?_); rintro e w' ⟨rfl, ⟨nd, rfl⟩⟩))
        go_roundg k2
        case measure => have := HK1.out; have := HK2.out; omega
        case rel => exact ⟨(wrap64 (a1 + 1)), z3_2, H', ⟨(by have := HK1.out; have := HK2.out; omega)⟩, ⟨(xS a2.out)⟩, ⟨z3_0⟩⟩
       have H' := ak H
       clear H
       go_wp2
       go_roundg k2
       case measure => have := HK1.out; have := HK2.out; omega
       case rel => exact ⟨(wrap64 (a0 + 1)), z3_2, H', ⟨(by have := HK1.out; have := HK2.out; omega)⟩, ⟨(xS a2.out)⟩, ⟨z3_0⟩⟩
    obtain rfl := Option.some.inj H
    go_wp2
    go_ret
    exact ⟨z3_1, z3_0⟩
 obtain rfl := Option.some.inj H
 go_enter Try.func104, Try.ntmps104
 go_wp2_with (first | ((with_reducible refine gate_callee (f := 67) rfl ?_); refine gl_ (some 7) Try.func67 #[.slice A0 l0.length c0] ?_; (with_reducible refine (impl_OrderOk.calls k _ _ l0 false _ (y4 HR0.out) a5.out A2.out).mono ?_); rintro e w' ⟨rfl, ⟨nd, rfl⟩⟩; refine ⟨_, rfl, ?_⟩))
 go_ret
 exact ⟨z3_1, z3_0⟩

end Go.Proofs.Ytacifhahfamipaa.P
