/- 16 texts of this seat joined: walks, and the laws of what they compute. -/
import Derived.Test.YtacifhahfamipaaPk2
namespace Go.Proofs.Ytacifhahfamipaa.Q
open Go.RowKit Go.Proofs.YtacifhahfamipaaW.PrintWords Go.Proofs.YtacifhahfamipaaW.PrintLast Go.Proofs.YtacifhahfamipaaW.PrintMore Go.Proofs.Ytacifhahfamipaa.P Go.Proofs.Cl
set_option linter.unusedVariables false

theorem Ev.pos {α : Type} {c : Prop} [Decidable c] {f g : Nat → Option α} {r : α} (h : c) (H : Ev f r) : Ev (fun k => if c then f k else g k) r := by
  simp only [if_pos h]
  exact H
theorem Ev.neg {α : Type} {c : Prop} [Decidable c] {f g : Nat → Option α} {r : α} (h : ¬ c) (H : Ev g r) : Ev (fun k => if c then f k else g k) r := by
  simp only [if_neg h]
  exact H
theorem Ev.tt {α : Type} {b : Bool} {f g : Nat → Option α} {r : α} (h : b = true) (H : Ev f r) : Ev (fun k => if b = true then f k else g k) r := Ev.pos h H
theorem Ev.ff {α : Type} {b : Bool} {f g : Nat → Option α} {r : α} (h : b = false) (H : Ev g r) : Ev (fun k => if b = true then f k else g k) r := Ev.neg (by rw [h]; exact Bool.false_ne_true) H
theorem Ev.ret {α : Type} {a r : α} (h : a = r) : Ev (fun _ => some a) r := h ▸ Ev.now a
theorem Ev.bindc {α β : Type} {o : Option α} {f : Nat → α → Option β} {a : α} {r : β} (h : o = some a) (k : Ev (fun n => f n a) r) : Ev (fun n => o.bind (f n)) r := by
  subst h
  exact k
theorem Ev.to {α : Type} {f : Nat → Option α} {a r : α} (H : Ev f a) (h : a = r) : Ev f r := h ▸ H
theorem wrap_of (x : Int) (h0 : -9223372036854775808 ≤ x) (h1 : x ≤ 9223372036854775807) : wrap64 x = x := by
  unfold wrap64
  omega
theorem wrap_succ (i : Nat) (h : i < 4611686018427387904) : wrap64 ((i : Int) + 1) = ((i + 1 : Nat) : Int) := by
  rw [wrap_of _ (by omega) (by omega)]
  omega
theorem rd_nat (xs : List Int) (i : Nat) : rd xs (i : Int) = xs.getD i 0 := rfl
theorem row_nat (u : List (List Int)) (i : Nat) : rd_L1 u (i : Int) = u.getD i [] := rfl
theorem at_nat (u : List (List Int)) (i j : Nat) : rd (rd_L1 u (i : Int)) (j : Int) = rdN u i j := rfl
theorem set_step {α : Type} (xs : List α) (z : α) (i : Nat) (h : i < xs.length) : (xs.take i ++ List.replicate (xs.length - i) z).set i xs[i] = xs.take (i + 1) ++ List.replicate (xs.length - (i + 1)) z := by
  rw [show xs.length - i = (xs.length - (i + 1)) + 1 by omega, List.replicate_succ, List.set_append, if_neg (by rw [List.length_take]; omega)]
  rw [List.length_take, show i - min i xs.length = 0 by omega, List.set_cons_zero, List.take_succ_eq_append_getElem h, List.append_assoc]
  rfl
theorem nat_of {a : Int} {n : Nat} (h : 0 ≤ a ∧ a < n) : ∃ m : Nat, a = m ∧ m < n := ⟨a.toNat, by omega, by omega⟩
end Go.Proofs.Ytacifhahfamipaa.Q


namespace Go.Proofs.Ytacifhahfamipaa.Q
open Go.RowKit Go.Proofs.YtacifhahfamipaaW.PrintWords Go.Proofs.YtacifhahfamipaaW.PrintLast Go.Proofs.YtacifhahfamipaaW.PrintMore Go.Proofs.Ytacifhahfamipaa.P Go.Proofs.Cl
set_option linter.unusedVariables false

theorem l1In_eq (a b c : Int) : spec_l1In.f a b c = some (decide (b ≤ a ∧ a ≤ c)) := by
  unfold spec_l1In.f
  by_cases h : a ≥ b
  · rw [if_pos h]
    congr 1
    rw [decide_eq_decide]
    exact ⟨fun k => ⟨h, k⟩, fun k => k.2⟩
  · rw [if_neg h]
    congr 1
    symm
    rw [decide_eq_false_iff_not]
    exact fun k => h k.1

section
variable (u : List (List Int))
def p4 (a b c : Nat) : Bool := !(decide (rdN u a b = 1) && decide (rdN u b c = 1) && decide (rdN u a c = 0))
def p3 (a b : Nat) : Bool := !(if a = b then decide (rdN u a b = 0) else (decide (rdN u a b = 1) && decide (rdN u b a = 1))) && allF u.length (p4 u a b) 0
def p1 (a b : Nat) : Bool := decide (0 ≤ rdN u a b ∧ rdN u a b ≤ 1)
def p0 (a : Nat) : Bool := decide ((u.getD a []).length = u.length) && allF u.length (p1 u a) 0
variable {u}
variable (hn : u.length ≤ 12)
theorem so_l4 (hn : u.length ≤ 12) (HR : ∀ a, a < u.length → (rd_L1 u (a : Int)).length = u.length) {a b : Nat} (ha : a < u.length) (hb : b < u.length) {r : Bool}
    (H : Ev (fun k => spec_OrderOk.l3 k u u.length a ((b + 1 : Nat) : Int)) r) (c : Nat) (hc : c ≤ u.length) :
    Ev (fun k => spec_OrderOk.l4 k u u.length a b c) (allF u.length (p4 u a b) c && r) := by
  refine down u.length (fun c => Ev (fun k => spec_OrderOk.l4 k u u.length a b c) (allF u.length (p4 u a b) c && r)) ?_ ?_ c hc
  · refine Ev.step (fun k => spec_OrderOk.l4.eq_2 ..) ?_
    refine Ev.neg (by omega) ?_
    rw [allF_end (Nat.le_refl _), Bool.true_and, wrap_succ b (by omega)]
    exact H
  · intro c hc ih
    have h1 := HR a ha
    have h2 := HR b hb
    refine Ev.step (fun k => spec_OrderOk.l4.eq_2 ..) ?_
    repeat (refine Ev.pos (by omega) ?_)
    rw [allF_step hc, wrap_succ c (by omega)]
    by_cases k1 : rdN u a b = 1
    · refine Ev.pos k1 ?_
      repeat (refine Ev.pos (by omega) ?_)
      by_cases k2 : rdN u b c = 1
      · refine Ev.pos k2 ?_
        repeat (refine Ev.pos (by omega) ?_)
        by_cases k3 : rdN u a c = 0
        · refine Ev.pos k3 ?_
          exact Ev.ret (by simp [p4, k1, k2, k3])
        · refine Ev.neg k3 ?_
          exact Ev.to ih (by simp [p4, k3])
      · refine Ev.neg k2 ?_
        exact Ev.to ih (by simp [p4, k2])
    · refine Ev.neg k1 ?_
      exact Ev.to ih (by simp [p4, k1])
theorem so_l3 (hn : u.length ≤ 12) (HR : ∀ a, a < u.length → (rd_L1 u (a : Int)).length = u.length) {a : Nat} (ha : a < u.length) {r : Bool}
    (H : Ev (fun k => spec_OrderOk.l2 k u u.length ((a + 1 : Nat) : Int)) r) (b : Nat) (hb : b ≤ u.length) :
    Ev (fun k => spec_OrderOk.l3 k u u.length a b) (allF u.length (p3 u a) b && r) := by
  refine down u.length (fun b => Ev (fun k => spec_OrderOk.l3 k u u.length a b) (allF u.length (p3 u a) b && r)) ?_ ?_ b hb
  · refine Ev.step (fun k => spec_OrderOk.l3.eq_2 ..) ?_
    refine Ev.neg (by omega) ?_
    rw [allF_end (Nat.le_refl _), Bool.true_and, wrap_succ a (by omega)]
    exact H
  · intro b hb ih
    have h1 := HR a ha
    have h2 := HR b hb
    have key : ∀ x : Bool, Ev (fun k => spec_OrderOk.j4 k u u.length a b x) (!x && allF u.length (p4 u a b) 0 && allF u.length (p3 u a) (b + 1) && r) := by
      intro x
      refine Ev.step (fun k => spec_OrderOk.j4.eq_2 ..) ?_
      cases x with
      | true => exact Ev.pos rfl (Ev.ret (by simp))
      | false =>
        refine Ev.neg Bool.false_ne_true ?_
        exact Ev.to (so_l4 hn HR ha hb ih 0 (Nat.zero_le _)) (by simp [Bool.and_assoc])
    refine Ev.step (fun k => spec_OrderOk.l3.eq_2 ..) ?_
    refine Ev.pos (by omega) ?_
    rw [allF_step hb]
    by_cases e : a = b
    · refine Ev.pos (by omega) ?_
      repeat (refine Ev.pos (by omega) ?_)
      by_cases k1 : rdN u a b = 0
      · exact Ev.pos k1 (Ev.to (key true) (by rw [p3, if_pos e, decide_eq_true k1]))
      · exact Ev.neg k1 (Ev.to (key false) (by rw [p3, if_pos e, decide_eq_false k1]))
    · refine Ev.neg (by omega) ?_
      repeat (refine Ev.pos (by omega) ?_)
      by_cases k1 : rdN u a b = 1
      · refine Ev.pos k1 ?_
        repeat (refine Ev.pos (by omega) ?_)
        refine Ev.to (key _) ?_
        rw [p3, if_neg e, decide_eq_true k1, Bool.true_and]
        rfl
      · refine Ev.neg k1 (Ev.to (key false) ?_)
        rw [p3, if_neg e, decide_eq_false k1, Bool.false_and]
theorem so_l2 (hn : u.length ≤ 12) (HR : ∀ a, a < u.length → (rd_L1 u (a : Int)).length = u.length) (a : Nat) (ha : a ≤ u.length) :
    Ev (fun k => spec_OrderOk.l2 k u u.length a) (allF u.length (fun a => allF u.length (p3 u a) 0) a) := by
  refine down u.length (fun a => Ev (fun k => spec_OrderOk.l2 k u u.length a) (allF u.length (fun a => allF u.length (p3 u a) 0) a)) ?_ ?_ a ha
  · refine Ev.step (fun k => spec_OrderOk.l2.eq_2 ..) ?_
    refine Ev.neg (by omega) ?_
    exact Ev.ret (allF_end (Nat.le_refl _)).symm
  · intro a ha ih
    refine Ev.step (fun k => spec_OrderOk.l2.eq_2 ..) ?_
    refine Ev.pos (by omega) ?_
    rw [allF_step ha]
    exact so_l3 hn HR ha ih 0 (Nat.zero_le _)
theorem so_l1 (hn : u.length ≤ 12) {a : Nat} (ha : a < u.length) (HR : (rd_L1 u (a : Int)).length = u.length) {r : Bool}
    (H : Ev (fun k => spec_OrderOk.l0 k u u.length ((a + 1 : Nat) : Int)) r) (b : Nat) (hb : b ≤ u.length) :
    Ev (fun k => spec_OrderOk.l1 k u u.length a b) (allF u.length (p1 u a) b && r) := by
  refine down u.length (fun b => Ev (fun k => spec_OrderOk.l1 k u u.length a b) (allF u.length (p1 u a) b && r)) ?_ ?_ b hb
  · refine Ev.step (fun k => spec_OrderOk.l1.eq_2 ..) ?_
    refine Ev.neg (by omega) ?_
    rw [allF_end (Nat.le_refl _), Bool.true_and, wrap_succ a (by omega)]
    exact H
  · intro b hb ih
    refine Ev.step (fun k => spec_OrderOk.l1.eq_2 ..) ?_
    repeat (refine Ev.pos (by omega) ?_)
    refine Ev.bindc (l1In_eq _ _ _) ?_
    rw [allF_step hb, wrap_succ b (by omega)]
    cases hp : p1 u a b with
    | true => exact Ev.tt hp (Ev.to ih (by simp))
    | false => exact Ev.ff hp (Ev.ret (by simp))
theorem so_l0 (hn : u.length ≤ 12) (a : Nat) (ha : a ≤ u.length) : (∀ c, c < a → (rd_L1 u (c : Int)).length = u.length) →
    Ev (fun k => spec_OrderOk.l0 k u u.length a) (allF u.length (p0 u) a && allF u.length (fun a => allF u.length (p3 u a) 0) 0) := by
  refine down u.length (fun a => (∀ c, c < a → (rd_L1 u (c : Int)).length = u.length) →
    Ev (fun k => spec_OrderOk.l0 k u u.length a) (allF u.length (p0 u) a && allF u.length (fun a => allF u.length (p3 u a) 0) 0)) ?_ ?_ a ha
  · intro HR
    refine Ev.step (fun k => spec_OrderOk.l0.eq_2 ..) ?_
    refine Ev.neg (by omega) ?_
    rw [allF_end (Nat.le_refl _), Bool.true_and]
    exact so_l2 hn HR 0 (Nat.zero_le _)
  · intro a ha ih HR
    refine Ev.step (fun k => spec_OrderOk.l0.eq_2 ..) ?_
    repeat (refine Ev.pos (by omega) ?_)
    rw [allF_step ha]
    by_cases e : (rd_L1 u (a : Int)).length = u.length
    · refine Ev.pos (by omega) ?_
      have k := so_l1 hn ha e (ih (fun c hc => by
        by_cases e2 : c = a
        · rw [e2]; exact e
        · exact HR c (by omega))) 0 (Nat.zero_le _)
      refine Ev.to k ?_
      rw [p0, decide_eq_true (show (u.getD a []).length = u.length from e), Bool.true_and, Bool.and_assoc]
    · refine Ev.neg (by omega) ?_
      refine Ev.ret ?_
      rw [p0, decide_eq_false (show ¬ (u.getD a []).length = u.length from e)]
      simp
end
theorem ord_of_loops (u : List (List Int)) (h1 : 1 ≤ u.length) (h2 : u.length ≤ 12) :
    (allF u.length (p0 u) 0 && allF u.length (fun a => allF u.length (p3 u a) 0) 0) = decide (Ord u) := by
  rw [Bool.eq_iff_iff, Bool.and_eq_true, allF0, allF0, decide_eq_true_iff]
  constructor
  · intro ⟨k0, k3⟩
    have rows : ∀ a, a < u.length → (u.getD a []).length = u.length := fun a ha => by
      have := k0 a ha
      rw [p0, Bool.and_eq_true] at this
      exact of_decide_eq_true this.1
    have bits : ∀ a, a < u.length → ∀ b, b < u.length → rdN u a b = 0 ∨ rdN u a b = 1 := fun a ha b hb => by
      have := k0 a ha
      rw [p0, Bool.and_eq_true, allF0] at this
      have := of_decide_eq_true (this.2 b hb)
      omega
    have ps : ∀ a, a < u.length → ∀ b, b < u.length → p3 u a b = true := fun a ha b hb => allF0.1 (k3 a ha) b hb
    refine ⟨h1, h2, rows, bits, ?_, ?_, ?_⟩
    · intro a ha
      have := ps a ha a ha
      rw [p3, if_pos rfl, Bool.and_eq_true, Bool.not_eq_true', decide_eq_false_iff_not] at this
      rcases bits a ha a ha with k | k
      · exact absurd k this.1
      · exact k
    · intro a ha b hb k l
      have := ps a ha b hb
      by_cases e : a = b
      · exact e
      · rw [p3, if_neg e, k, l] at this
        simp at this
    · intro a ha b hb c hc k l
      have := ps a ha b hb
      rw [p3, Bool.and_eq_true, allF0] at this
      have := this.2 c hc
      rcases bits a ha c hc with m | m
      · rw [p4, k, l, m] at this
        simp at this
      · exact m
  · intro h
    refine ⟨fun a ha => ?_, fun a ha => allF0.2 fun b hb => ?_⟩
    · rw [p0, Bool.and_eq_true, allF0]
      refine ⟨decide_eq_true (h.row ha), fun b hb => decide_eq_true ?_⟩
      have := h.bit ha hb
      omega
    · rw [p3, Bool.and_eq_true, allF0]
      constructor
      · by_cases e : a = b
        · subst e
          rw [if_pos rfl, h.refl ha]
          rfl
        · rw [if_neg e, Bool.not_eq_true', Bool.and_eq_false_iff, decide_eq_false_iff_not, decide_eq_false_iff_not]
          by_cases k : rdN u a b = 1
          · exact .inr fun l => e (h.anti ha hb k l)
          · exact .inl k
      · intro c hc
        rw [p4, Bool.not_eq_true']
        by_cases k : rdN u a b = 1
        · by_cases l : rdN u b c = 1
          · rw [h.trans ha hb hc k l]
            simp
          · simp [l]
        · simp [k]
theorem spec_ord (u : List (List Int)) : Ev (fun k => spec_OrderOk.f k u) (decide (Ord u)) := by
  unfold spec_OrderOk.f
  refine Ev.bindc (l1In_eq _ _ _) ?_
  by_cases h : 1 ≤ u.length ∧ u.length ≤ 12
  · refine Ev.tt (decide_eq_true (by omega)) ?_
    exact Ev.to (so_l0 h.2 0 (Nat.zero_le _) (fun c hc => by omega)) (ord_of_loops u h.1 h.2)
  · refine Ev.ff (decide_eq_false (by omega)) ?_
    exact Ev.ret (decide_eq_false (fun k => h ⟨k.1, k.2.1⟩)).symm
end Go.Proofs.Ytacifhahfamipaa.Q


namespace Go.Proofs.Ytacifhahfamipaa.Q
open Go.RowKit Go.Proofs.YtacifhahfamipaaW.PrintWords Go.Proofs.YtacifhahfamipaaW.PrintLast Go.Proofs.YtacifhahfamipaaW.PrintMore Go.Proofs.Ytacifhahfamipaa.P Go.Proofs.Cl
set_option linter.unusedVariables false

section
variable (u : List (List Int))
def q4 (a b c : Nat) : Bool := !(decide (rdN u a b = 1) && decide (rdN u b c = 1) && !decide (rdN u a c = 1))
def q1 (a b : Nat) : Bool := (decide (rdN u a b = 0) || decide (rdN u a b = 1)) && decide ((u.getD b []).length = u.length) && !(decide (rdN u a b = 1) && !decide (a = b) && decide (rdN u b a = 1))
def q0 (a : Nat) : Bool := decide ((u.getD a []).length = u.length) && decide (rdN u a a = 1) && allF u.length (q1 u a) 0
variable {u}
theorem io_l4 (hn : u.length ≤ 12) (HR : ∀ a, a < u.length → (rd_L1 u (a : Int)).length = u.length) {a b : Nat} (ha : a < u.length) (hb : b < u.length) {r : Bool}
    (H : Ev (fun k => impl_OrderOk.l3 k u u.length a u.length a u.length ((b + 1 : Nat) : Int)) r) (c : Nat) (hc : c ≤ u.length) :
    Ev (fun k => impl_OrderOk.l4 k u u.length a b u.length a u.length b u.length c) (allF u.length (q4 u a b) c && r) := by
  refine down u.length (fun c => Ev (fun k => impl_OrderOk.l4 k u u.length a b u.length a u.length b u.length c) (allF u.length (q4 u a b) c && r)) ?_ ?_ c hc
  · refine Ev.step (fun k => impl_OrderOk.l4.eq_2 ..) ?_
    refine Ev.neg (by omega) ?_
    rw [allF_end (Nat.le_refl _), Bool.true_and, wrap_succ b (by omega)]
    exact H
  · intro c hc ih
    have h1 := HR a ha
    have h2 := HR b hb
    refine Ev.step (fun k => impl_OrderOk.l4.eq_2 ..) ?_
    repeat (refine Ev.pos (by omega) ?_)
    rw [allF_step hc, wrap_succ c (by omega)]
    by_cases k1 : rdN u a b = 1
    · refine Ev.pos k1 ?_
      repeat (refine Ev.pos (by omega) ?_)
      by_cases k2 : rdN u b c = 1
      · refine Ev.pos k2 ?_
        repeat (refine Ev.pos (by omega) ?_)
        by_cases k3 : rdN u a c = 1
        · refine Ev.pos k3 ?_
          exact Ev.to ih (by simp [q4, k3])
        · refine Ev.neg k3 ?_
          exact Ev.ret (by simp [q4, k1, k2, k3])
      · refine Ev.neg k2 ?_
        exact Ev.to ih (by simp [q4, k2])
    · refine Ev.neg k1 ?_
      exact Ev.to ih (by simp [q4, k1])
theorem io_l3 (hn : u.length ≤ 12) (HR : ∀ a, a < u.length → (rd_L1 u (a : Int)).length = u.length) {a : Nat} (ha : a < u.length) {r : Bool}
    (H : Ev (fun k => impl_OrderOk.l2 k u u.length u.length ((a + 1 : Nat) : Int)) r) (b : Nat) (hb : b ≤ u.length) :
    Ev (fun k => impl_OrderOk.l3 k u u.length a u.length a u.length b) (allF u.length (fun b => allF u.length (q4 u a b) 0) b && r) := by
  refine down u.length (fun b => Ev (fun k => impl_OrderOk.l3 k u u.length a u.length a u.length b) (allF u.length (fun b => allF u.length (q4 u a b) 0) b && r)) ?_ ?_ b hb
  · refine Ev.step (fun k => impl_OrderOk.l3.eq_2 ..) ?_
    refine Ev.neg (by omega) ?_
    rw [allF_end (Nat.le_refl _), Bool.true_and, wrap_succ a (by omega)]
    exact H
  · intro b hb ih
    refine Ev.step (fun k => impl_OrderOk.l3.eq_2 ..) ?_
    refine Ev.pos (by omega) ?_
    rw [allF_step hb, Bool.and_assoc]
    exact io_l4 hn HR ha hb ih 0 (Nat.zero_le _)
theorem io_l2 (hn : u.length ≤ 12) (HR : ∀ a, a < u.length → (rd_L1 u (a : Int)).length = u.length) (a : Nat) (ha : a ≤ u.length) :
    Ev (fun k => impl_OrderOk.l2 k u u.length u.length a) (allF u.length (fun a => allF u.length (fun b => allF u.length (q4 u a b) 0) 0) a) := by
  refine down u.length (fun a => Ev (fun k => impl_OrderOk.l2 k u u.length u.length a) (allF u.length (fun a => allF u.length (fun b => allF u.length (q4 u a b) 0) 0) a)) ?_ ?_ a ha
  · refine Ev.step (fun k => impl_OrderOk.l2.eq_2 ..) ?_
    refine Ev.neg (by omega) ?_
    exact Ev.ret (allF_end (Nat.le_refl _)).symm
  · intro a ha ih
    refine Ev.step (fun k => impl_OrderOk.l2.eq_2 ..) ?_
    refine Ev.pos (by omega) ?_
    rw [allF_step ha]
    exact io_l3 hn HR ha ih 0 (Nat.zero_le _)
theorem io_l1 (hn : u.length ≤ 12) {a : Nat} (ha : a < u.length) (h1 : (rd_L1 u (a : Int)).length = u.length) {r : Bool}
    (H : Ev (fun k => impl_OrderOk.l0 k u u.length u u.length ((a + 1 : Nat) : Int)) r) (b : Nat) (hb : b ≤ u.length) :
    Ev (fun k => impl_OrderOk.l1 k u u.length a u u.length a (rd_L1 u (a : Int)) u.length b) (allF u.length (q1 u a) b && r) := by
  refine down u.length (fun b => Ev (fun k => impl_OrderOk.l1 k u u.length a u u.length a (rd_L1 u (a : Int)) u.length b) (allF u.length (q1 u a) b && r)) ?_ ?_ b hb
  · refine Ev.step (fun k => impl_OrderOk.l1.eq_2 ..) ?_
    refine Ev.neg (by omega) ?_
    rw [allF_end (Nat.le_refl _), Bool.true_and, wrap_succ a (by omega)]
    exact H
  · intro b hb ih
    have key : ∀ x : Bool, x = !(decide (rdN u a b = 0) || decide (rdN u a b = 1)) → Ev (fun k => impl_OrderOk.j4 k u u.length a b (rd (rd_L1 u (a : Int)) (b : Int)) u u.length a (rd_L1 u (a : Int)) u.length b x) (q1 u a b && allF u.length (q1 u a) (b + 1) && r) := by
      intro x hx
      refine Ev.step (fun k => impl_OrderOk.j4.eq_2 ..) ?_
      have hx' : (decide (rdN u a b = 0) || decide (rdN u a b = 1)) = !x := by rw [hx, Bool.not_not]
      cases x with
      | true => exact Ev.pos rfl (Ev.ret (by simp [q1, hx']))
      | false =>
        refine Ev.neg Bool.false_ne_true ?_
        repeat (refine Ev.pos (by omega) ?_)
        by_cases k1 : (rd_L1 u (b : Int)).length = u.length
        · refine Ev.pos (by omega) ?_
          have k1' : (u.getD b []).length = u.length := k1
          rw [wrap_succ b (by omega)]
          by_cases k2 : rdN u a b = 1
          · refine Ev.pos k2 ?_
            by_cases e : a = b
            · refine Ev.pos (by omega) ?_
              exact Ev.to ih (by rw [q1, hx', decide_eq_true k1', decide_eq_true e]; simp)
            · refine Ev.neg (by omega) ?_
              repeat (refine Ev.pos (by omega) ?_)
              by_cases k3 : rdN u b a = 1
              · exact Ev.pos k3 (Ev.ret (by rw [q1, hx', decide_eq_true k1', decide_eq_true k2, decide_eq_true k3, decide_eq_false e]; simp))
              · exact Ev.neg k3 (Ev.to ih (by rw [q1, hx', decide_eq_true k1', decide_eq_false k3]; simp))
          · exact Ev.neg k2 (Ev.to ih (by rw [q1, hx', decide_eq_true k1', decide_eq_false k2]; simp))
        · refine Ev.neg (by omega) ?_
          have k1' : ¬ (u.getD b []).length = u.length := k1
          exact Ev.ret (by rw [q1, decide_eq_false k1']; simp)
    refine Ev.step (fun k => impl_OrderOk.l1.eq_2 ..) ?_
    rw [h1]
    repeat (refine Ev.pos (by omega) ?_)
    rw [allF_step hb]
    by_cases k1 : rdN u a b = 0
    · exact Ev.pos k1 (key false (by rw [decide_eq_true k1]; rfl))
    · refine Ev.neg k1 (key _ ?_)
      rw [decide_eq_false k1, Bool.false_or]
      rfl
theorem io_l0 (hn : u.length ≤ 12) (a : Nat) (ha : a ≤ u.length) : (∀ c, c < a → (rd_L1 u (c : Int)).length = u.length) →
    Ev (fun k => impl_OrderOk.l0 k u u.length u u.length a) (allF u.length (q0 u) a && allF u.length (fun a => allF u.length (fun b => allF u.length (q4 u a b) 0) 0) 0) := by
  refine down u.length (fun a => (∀ c, c < a → (rd_L1 u (c : Int)).length = u.length) →
    Ev (fun k => impl_OrderOk.l0 k u u.length u u.length a) (allF u.length (q0 u) a && allF u.length (fun a => allF u.length (fun b => allF u.length (q4 u a b) 0) 0) 0)) ?_ ?_ a ha
  · intro HR
    refine Ev.step (fun k => impl_OrderOk.l0.eq_2 ..) ?_
    refine Ev.neg (by omega) ?_
    rw [allF_end (Nat.le_refl _), Bool.true_and]
    exact io_l2 hn HR 0 (Nat.zero_le _)
  · intro a ha ih HR
    refine Ev.step (fun k => impl_OrderOk.l0.eq_2 ..) ?_
    repeat (refine Ev.pos (by omega) ?_)
    rw [allF_step ha]
    by_cases e : (rd_L1 u (a : Int)).length = u.length
    · refine Ev.pos (by omega) ?_
      refine Ev.pos (by omega) ?_
      have e' : (u.getD a []).length = u.length := e
      refine Ev.step (fun k => impl_OrderOk.j2.eq_2 ..) ?_
      by_cases k1 : rdN u a a = 1
      · refine Ev.ff (show (rd (rd_L1 u (a : Int)) (a : Int) != 1) = false from bne_eq_false_iff_eq.2 k1) ?_
        rw [e]
        refine Ev.to (io_l1 hn ha e (ih (fun c hc => by
          by_cases e2 : c = a
          · rw [e2]; exact e
          · exact HR c (by omega))) 0 (Nat.zero_le _)) ?_
        rw [q0, decide_eq_true e', decide_eq_true k1, Bool.true_and, Bool.true_and, Bool.and_assoc]
      · refine Ev.tt (show (rd (rd_L1 u (a : Int)) (a : Int) != 1) = true from bne_iff_ne.2 k1) ?_
        exact Ev.ret (by rw [q0, decide_eq_false k1]; simp)
    · refine Ev.neg (by omega) ?_
      refine Ev.step (fun k => impl_OrderOk.j2.eq_2 ..) ?_
      refine Ev.pos rfl (Ev.ret ?_)
      rw [q0, decide_eq_false (show ¬ (u.getD a []).length = u.length from e)]
      simp
end
theorem ord_of_loops' (u : List (List Int)) (h1 : 1 ≤ u.length) (h2 : u.length ≤ 12) :
    (allF u.length (q0 u) 0 && allF u.length (fun a => allF u.length (fun b => allF u.length (q4 u a b) 0) 0) 0) = decide (Ord u) := by
  rw [Bool.eq_iff_iff, Bool.and_eq_true, allF0, allF0, decide_eq_true_iff]
  constructor
  · intro ⟨k0, k4⟩
    have all0 : ∀ a, a < u.length → (u.getD a []).length = u.length ∧ rdN u a a = 1 ∧ ∀ b, b < u.length → q1 u a b = true := fun a ha => by
      have := k0 a ha
      rw [q0, Bool.and_eq_true, Bool.and_eq_true, decide_eq_true_iff, decide_eq_true_iff, allF0] at this
      exact ⟨this.1.1, this.1.2, this.2⟩
    refine ⟨h1, h2, fun a ha => (all0 a ha).1, ?_, fun a ha => (all0 a ha).2.1, ?_, ?_⟩
    · intro a ha b hb
      have := (all0 a ha).2.2 b hb
      simp only [q1, Bool.and_eq_true, Bool.or_eq_true, decide_eq_true_iff] at this
      exact this.1.1
    · intro a ha b hb k l
      have := (all0 a ha).2.2 b hb
      by_cases e : a = b
      · exact e
      · simp [q1, k, l, e] at this
    · intro a ha b hb c hc k l
      have := allF0.1 (allF0.1 (k4 a ha) b hb) c hc
      simpa [q4, k, l] using this
  · intro h
    refine ⟨fun a ha => ?_, fun a ha => allF0.2 fun b hb => allF0.2 fun c hc => ?_⟩
    · rw [q0, Bool.and_eq_true, Bool.and_eq_true, decide_eq_true_iff, decide_eq_true_iff, allF0]
      refine ⟨⟨h.row ha, h.refl ha⟩, fun b hb => ?_⟩
      rw [q1, Bool.and_eq_true, Bool.and_eq_true, Bool.or_eq_true, decide_eq_true_iff, decide_eq_true_iff, decide_eq_true_iff, Bool.not_eq_true']
      refine ⟨⟨h.bit ha hb, h.row hb⟩, ?_⟩
      by_cases k : rdN u a b = 1
      · by_cases l : rdN u b a = 1
        · simp [h.anti ha hb k l]
        · simp [l]
      · simp [k]
    · rw [q4, Bool.not_eq_true']
      by_cases k : rdN u a b = 1
      · by_cases l : rdN u b c = 1
        · simp [h.trans ha hb hc k l]
        · simp [l]
      · simp [k]
theorem impl_ord (u : List (List Int)) : Ev (fun k => impl_OrderOk.f k u) (decide (Ord u)) := by
  unfold impl_OrderOk.f
  by_cases h1 : 1 ≤ u.length
  · refine Ev.neg (by omega) ?_
    refine Ev.step (fun k => impl_OrderOk.j0.eq_2 ..) ?_
    by_cases h2 : u.length ≤ 12
    · refine Ev.ff (decide_eq_false (by omega)) ?_
      exact Ev.to (io_l0 h2 0 (Nat.zero_le _) (fun c hc => by omega)) (ord_of_loops' u h1 h2)
    · refine Ev.tt (decide_eq_true (by omega)) ?_
      exact Ev.ret (decide_eq_false (fun k => h2 k.2.1)).symm
  · refine Ev.pos (by omega) ?_
    refine Ev.step (fun k => impl_OrderOk.j0.eq_2 ..) ?_
    exact Ev.pos rfl (Ev.ret (decide_eq_false (fun k => h1 k.1)).symm)
theorem isAnswer_eq (u : List (List Int)) (a : Int) : impl_isAnswer.f u a = some (decide (0 ≤ a ∧ a < u.length)) := by
  unfold impl_isAnswer.f
  by_cases h : a ≥ 0
  · rw [if_pos h]
    congr 1
    rw [decide_eq_decide]
    exact ⟨fun k => ⟨h, k⟩, fun k => k.2⟩
  · rw [if_neg h]
    congr 1
    symm
    rw [decide_eq_false_iff_not]
    exact fun k => h k.1
theorem len_pred {u : List (List Int)} (h : Ord u) : wrap64 ((u.length : Int) - 1) = (u.length : Int) - 1 := by
  have := h.le12
  exact wrap_of _ (by omega) (by omega)
end Go.Proofs.Ytacifhahfamipaa.Q


namespace Go.Proofs.Ytacifhahfamipaa.Q
open Go.RowKit Go.Proofs.YtacifhahfamipaaW.PrintWords Go.Proofs.YtacifhahfamipaaW.PrintLast Go.Proofs.YtacifhahfamipaaW.PrintMore Go.Proofs.Ytacifhahfamipaa.P Go.Proofs.Cl
set_option linter.unusedVariables false

theorem pow62' : (2 : Nat) ^ 62 = 4611686018427387904 := by decide
theorem bits_small (op : BinOp) (x y : Nat) (hx : x < 2 ^ 62) (hy : y < 2 ^ 62) :
    Go.bits .xor .i64 x y = ((x ^^^ y : Nat) : Int) ∧ Go.bits .and .i64 x y = ((x &&& y : Nat) : Int) ∧ Go.bits .or .i64 x y = ((x ||| y : Nat) : Int) := by
  have e64 : IntKind.i64.bits = 64 := rfl
  have hp : (2 : Nat) ^ 62 ≤ 2 ^ 64 := Nat.pow_le_pow_right (by decide) (by decide)
  have hx' : x % 2 ^ 64 = x := Nat.mod_eq_of_lt (Nat.lt_of_lt_of_le hx hp)
  have hy' : y % 2 ^ 64 = y := Nat.mod_eq_of_lt (Nat.lt_of_lt_of_le hy hp)
  have w : ∀ n : Nat, n < 2 ^ 62 → IntKind.i64.wrap (n : Int) = n := by
    intro n h
    rw [pow62'] at h
    rw [IntKind.wrap_i64]
    omega
  refine ⟨?_, ?_, ?_⟩
  · simp only [Go.bits, e64, BitVec.ofInt_natCast, BitVec.toNat_xor, BitVec.toNat_ofNat, hx', hy']
    exact w _ (Nat.xor_lt_two_pow hx hy)
  · simp only [Go.bits, e64, BitVec.ofInt_natCast, BitVec.toNat_and, BitVec.toNat_ofNat, hx', hy']
    exact w _ (Nat.and_lt_two_pow _ hy)
  · simp only [Go.bits, e64, BitVec.ofInt_natCast, BitVec.toNat_or, BitVec.toNat_ofNat, hx', hy']
    exact w _ (Nat.or_lt_two_pow hx hy)
theorem xor_nonneg (x y : Int) (hx0 : 0 ≤ x) (hx : x < 4611686018427387904) (hy0 : 0 ≤ y) (hy : y < 4611686018427387904) : 0 ≤ Go.bits .xor .i64 x y := by
  obtain ⟨a, rfl⟩ := Int.eq_ofNat_of_zero_le hx0
  obtain ⟨b, rfl⟩ := Int.eq_ofNat_of_zero_le hy0
  have := (bits_small .xor a b (by rw [pow62']; omega) (by rw [pow62']; omega)).1
  rw [this]
  omega
theorem tmod_in (x n : Int) (hx : 0 ≤ x) (hn : 0 < n) : 0 ≤ Int.tmod x n ∧ Int.tmod x n < n := ⟨Int.tmod_nonneg _ hx, Int.tmod_lt_of_pos _ hn⟩
theorem tdiv_in (x n : Int) (hx : 0 ≤ x) (hn : 0 < n) : 0 ≤ Int.tdiv x n ∧ Int.tdiv x n ≤ x := by
  rw [Int.tdiv_eq_ediv_of_nonneg hx]
  exact ⟨Int.ediv_nonneg hx (by omega), Int.ediv_le_self _ hx⟩
def Bytes (b : List Int) : Prop := ∀ x, x ∈ b → 0 ≤ x ∧ x ≤ 255
theorem Bytes.at_ {b : List Int} (h : Bytes b) {i : Int} (h0 : 0 ≤ i) (h1 : i < b.length) : 0 ≤ rd b i ∧ rd b i ≤ 255 := by
  obtain ⟨j, rfl⟩ := Int.eq_ofNat_of_zero_le h0
  have hj : j < b.length := by omega
  have : rd b (j : Int) = b[j] := by
    show b.getD j 0 = b[j]
    rw [List.getD_eq_getElem?_getD, List.getElem?_eq_getElem hj]
    rfl
  rw [this]
  exact h _ (List.getElem_mem hj)
theorem pick_ev {b : List Int} (hb : Bytes b) (hl : b.length ≤ 2000) {p : Int} (h0 : 0 ≤ p) (h1 : p < 1000000) (n : Int) :
    ∃ v, Ev (fun k => spec_l20Rd_pick.f k b p n) (v, p + 1) ∧ 0 ≤ v ∧ (1 ≤ n → v < n) := by
  unfold spec_l20Rd_pick.f
  have w1 : wrap64 (p + 1) = p + 1 := wrap_of _ (by omega) (by omega)
  have w2 : wrap64 (p + 1 - 1) = p := by rw [wrap_of _ (by omega) (by omega)]; omega
  rw [w1]
  by_cases hn : n < 1
  · refine ⟨0, ?_, by omega, fun h => by omega⟩
    refine Ev.pos hn ?_
    refine Ev.step (fun k => spec_l20Rd_pick.j0.eq_2 ..) ?_
    exact Ev.pos rfl (Ev.ret rfl)
  · by_cases he : (b.length : Int) = 0
    · refine ⟨0, ?_, by omega, fun h => by omega⟩
      refine Ev.neg hn ?_
      refine Ev.step (fun k => spec_l20Rd_pick.j0.eq_2 ..) ?_
      exact Ev.tt (beq_iff_eq.2 he) (Ev.ret rfl)
    · by_cases hk : p < (b.length : Int)
      · have hr := hb.at_ h0 hk
        have ht := tmod_in (wrap64 (rd b p)) n (by rw [wrap_of _ (by omega) (by omega)]; exact hr.1) (by omega)
        refine ⟨_, ?_, ht.1, fun _ => ht.2⟩
        refine Ev.neg hn ?_
        refine Ev.step (fun k => spec_l20Rd_pick.j0.eq_2 ..) ?_
        refine Ev.ff (beq_eq_false_iff_ne.2 he) ?_
        rw [w2]
        exact Ev.pos hk (Ev.pos h0 (Ev.neg (by omega) (Ev.ret rfl)))
      · have i1 := tmod_in p (b.length : Int) h0 (by omega)
        have w3 : wrap64 (wrap64 (p * 7) + 3) = p * 7 + 3 := by
          rw [wrap_of (p * 7) (by omega) (by omega), wrap_of _ (by omega) (by omega)]
        have i2 := tmod_in (p * 7 + 3) (b.length : Int) (by omega) (by omega)
        have r1 := hb.at_ i1.1 i1.2
        have r2 := hb.at_ i2.1 i2.2
        have d1 := tdiv_in p (b.length : Int) h0 (by omega)
        have hX : ∃ X, wrap64 ((wrap64 ((wrap64 ((wrap64 ((wrap64 (rd b (Int.tmod p (b.length : Int)))) * 131)) + (wrap64 ((wrap64 (rd b (Int.tmod (p * 7 + 3) (b.length : Int)))) * 1117)))) + (wrap64 (p * 29)))) + (wrap64 ((wrap64 (Int.tdiv p (b.length : Int))) * 53))) = X ∧ 0 ≤ X ∧ X < 1000000000 := by
          generalize rd b (Int.tmod p (b.length : Int)) = y1 at *
          generalize rd b (Int.tmod (p * 7 + 3) (b.length : Int)) = y2 at *
          generalize Int.tdiv p (b.length : Int) = y3 at *
          refine ⟨_, rfl, ?_⟩
          rw [wrap_of y1 (by omega) (by omega), wrap_of y2 (by omega) (by omega), wrap_of y3 (by omega) (by omega), wrap_of (y1 * 131) (by omega) (by omega), wrap_of (y2 * 1117) (by omega) (by omega), wrap_of (y3 * 53) (by omega) (by omega), wrap_of (p * 29) (by omega) (by omega), wrap_of (y1 * 131 + y2 * 1117) (by omega) (by omega), wrap_of (y1 * 131 + y2 * 1117 + p * 29) (by omega) (by omega), wrap_of _ (by omega) (by omega)]
          omega
        obtain ⟨X, hX, x0, x1⟩ := hX
        have hY : 0 ≤ wrap64 (Int.tdiv X 64) ∧ wrap64 (Int.tdiv X 64) < 4611686018427387904 := by
          have := tdiv_in X 64 x0 (by omega)
          rw [wrap_of _ (by omega) (by omega)]
          omega
        have ht := tmod_in (Go.bits .xor .i64 X (wrap64 (Int.tdiv X 64))) n (xor_nonneg _ _ x0 (by omega) hY.1 hY.2) (by omega)
        refine ⟨_, ?_, ht.1, fun _ => ht.2⟩
        refine Ev.neg hn ?_
        refine Ev.step (fun k => spec_l20Rd_pick.j0.eq_2 ..) ?_
        refine Ev.ff (beq_eq_false_iff_ne.2 he) ?_
        rw [w2, w3, hX]
        exact Ev.neg hk (Ev.neg he (Ev.pos i1.1 (Ev.pos i1.2 (Ev.pos i2.1 (Ev.pos i2.2 (Ev.neg (by omega) (Ev.ret rfl)))))))
theorem open_eq {code : List Int} (h : Bytes code) : ∃ b, spec_l20Open.f code = some (b, 0) ∧ Bytes b ∧ b.length ≤ 2000 := by
  unfold spec_l20Open.f
  by_cases k : (code.length : Int) > 2000
  · refine ⟨code.take 2000, ?_, fun x hx => h x (List.mem_of_mem_take hx), by rw [List.length_take]; omega⟩
    rw [if_pos k, if_pos (by omega)]
  · exact ⟨code, by rw [if_neg k], h, by omega⟩
theorem bytes_of_wf {code : List Int} (h : ∀ x ∈ code, (Lit.int .u8 x).wf = true) : Bytes code := by
  intro x hx
  have := h x hx
  simp [Lit.wf] at this
  exact this
end Go.Proofs.Ytacifhahfamipaa.Q


namespace Go.Proofs.Ytacifhahfamipaa.Q
open Go.RowKit Go.Proofs.YtacifhahfamipaaW.PrintWords Go.Proofs.YtacifhahfamipaaW.PrintLast Go.Proofs.YtacifhahfamipaaW.PrintMore Go.Proofs.Ytacifhahfamipaa.P Go.Proofs.Cl
set_option linter.unusedVariables false

def Sqr (m : Nat) (u : List (List Int)) : Prop := u.length = m ∧ ∀ a, a < m → (u.getD a []).length = m
theorem Sqr.set {m : Nat} {u : List (List Int)} (h : Sqr m u) (a c : Nat) (x : Int) : Sqr m (u.set a ((u.getD a []).set c x)) := by
  refine ⟨by rw [List.length_set]; exact h.1, fun d hd => ?_⟩
  rw [List.getD_eq_getElem?_getD, List.getElem?_set]
  by_cases e : a = d
  · subst e
    have : a < u.length := by rw [h.1]; exact hd
    simp only [this, if_true, Option.getD_some, List.length_set]
    exact h.2 a hd
  · rw [if_neg e, ← List.getD_eq_getElem?_getD]
    exact h.2 d hd
section
variable {b : List Int} (hb : Bytes b) (hl : b.length ≤ 2000)
def Rows_ (m a : Nat) (u : List (List Int)) : Prop := u.length = a ∧ ∀ c, c < a → (u.getD c []).length = m
theorem Rows_.snoc {m a : Nat} {u : List (List Int)} (h : Rows_ m a u) {row : List Int} (hr : row.length = m) : Rows_ m (a + 1) (u ++ [row]) := by
  refine ⟨by simp [h.1], fun c hc => ?_⟩
  by_cases e : c = a
  · subst e
    rw [List.getD_eq_getElem?_getD, List.getElem?_append_right (by rw [h.1]; omega), h.1]
    simpa using hr
  · rw [List.getD_eq_getElem?_getD, List.getElem?_append_left (by rw [h.1]; omega), ← List.getD_eq_getElem?_getD]
    exact h.2 c (by omega)
end
end Go.Proofs.Ytacifhahfamipaa.Q


namespace Go.Proofs.Ytacifhahfamipaa.Q
open Go.RowKit Go.Proofs.YtacifhahfamipaaW.PrintWords Go.Proofs.YtacifhahfamipaaW.PrintLast Go.Proofs.YtacifhahfamipaaW.PrintMore Go.Proofs.Ytacifhahfamipaa.P Go.Proofs.Cl
set_option linter.unusedVariables false

theorem Ev.clos {α : Type} {f : Nat → Option α} {r : α} (n : Nat) (h : ∀ k, f (k + n) = some r) : Ev f r :=
  ⟨n, fun k hk => by obtain ⟨j, rfl⟩ := Nat.exists_eq_add_of_le' hk; exact h j⟩
def InRL (m : Nat) (x : List Int) : Prop := ∀ y ∈ x, ∃ v : Nat, y = v ∧ v < m
theorem InRL.get {m : Nat} {x : List Int} (h : InRL m x) {i : Nat} (hi : i < x.length) : ∃ v : Nat, rd x (i : Int) = v ∧ v < m := by
  have : rd x (i : Int) = x[i] := by
    show x.getD i 0 = x[i]
    rw [List.getD_eq_getElem?_getD, List.getElem?_eq_getElem hi, Option.getD_some]
  rw [this]
  exact h _ (List.getElem_mem hi)
theorem InRL.set {m : Nat} {x : List Int} (h : InRL m x) (i : Nat) {y : Nat} (hy : y < m) : InRL m (x.set i (y : Int)) := by
  intro z hz
  rcases List.mem_or_eq_of_mem_set hz with h1 | h1
  · exact h z h1
  · exact ⟨y, h1, hy⟩
theorem InRL.snoc {m : Nat} {x : List Int} (h : InRL m x) {y : Nat} (hy : y < m) : InRL m (x ++ [(y : Int)]) := by
  intro z hz
  rcases List.mem_append.mp hz with h1 | h1
  · exact h z h1
  · exact ⟨y, by simpa using h1, hy⟩
section
variable {m : Nat} (h12 : m ≤ 12) {o nt : List Int} {u : List (List Int)} (ho : o.length = m) (hoI : InRL m o) (hu : Sqr m u) (hn : nt.length = m) (hnI : InRL m nt)
end

section
variable {b : List Int}
end
end Go.Proofs.Ytacifhahfamipaa.Q


namespace Go.Proofs.Ytacifhahfamipaa.Q
open Go.RowKit Go.Proofs.YtacifhahfamipaaW.PrintWords Go.Proofs.YtacifhahfamipaaW.PrintLast Go.Proofs.YtacifhahfamipaaW.PrintMore Go.Proofs.Ytacifhahfamipaa.P Go.Proofs.Cl
set_option linter.unusedVariables false

section
variable (u : List (List Int))
def pm (a b c d : Nat) : Bool := decide (rdN u d a = 0) || decide (rdN u d b = 0) || decide (rdN u d c = 1)
variable {u}
theorem row_len (h : Ord u) {a : Nat} (ha : a < u.length) : (rd_L1 u (a : Int)).length = u.length := h.row ha
theorem isMeet_iff (h : Ord u) {a b c : Nat} (ha : a < u.length) (hb : b < u.length) (hc : c < u.length) :
    IsMeet u a b c ↔ rdN u c a = 1 ∧ rdN u c b = 1 ∧ allF u.length (pm u a b c) 0 = true := by
  unfold IsMeet
  rw [allF0]
  constructor
  · intro ⟨_, k1, k2, k3⟩
    refine ⟨k1, k2, fun d hd => ?_⟩
    simp only [pm, Bool.or_eq_true, decide_eq_true_iff]
    rcases h.bit hd ha with m | m
    · exact .inl (.inl m)
    · rcases h.bit hd hb with l | l
      · exact .inl (.inr l)
      · exact .inr (k3 d hd m l)
  · intro ⟨k1, k2, k3⟩
    refine ⟨hc, k1, k2, fun d hd m l => ?_⟩
    have := k3 d hd
    simp only [pm, Bool.or_eq_true, decide_eq_true_iff] at this
    rcases this with (z | z) | z
    · omega
    · omega
    · exact z

theorem im_l1 (h : Ord u) {a b c : Nat} (ha : a < u.length) (hb : b < u.length) (hc : c < u.length) {r : Int}
    (H : Ev (fun k => impl_meet.l0 k u a b u.length ((c + 1 : Nat) : Int)) r) (d : Nat) (hd : d ≤ u.length) :
    ∀ g : Bool, Ev (fun k => impl_meet.l1 k u a b c g u.length c u.length d) (if (g && allF u.length (pm u a b c) d) = true then (c : Int) else r) := by
  have hn := h.le12
  refine down u.length (fun d => ∀ g : Bool, Ev (fun k => impl_meet.l1 k u a b c g u.length c u.length d) (if (g && allF u.length (pm u a b c) d) = true then (c : Int) else r)) ?_ ?_ d hd
  · intro g
    refine Ev.step (fun k => impl_meet.l1.eq_2 ..) ?_
    refine Ev.neg (by omega) ?_
    rw [allF_end (Nat.le_refl _), Bool.and_true]
    cases g with
    | true => exact Ev.pos rfl (Ev.ret (by simp))
    | false =>
      refine Ev.neg Bool.false_ne_true ?_
      rw [wrap_succ c (by omega)]
      exact Ev.to H (by simp)
  · intro d hd ih g
    have h1 := row_len h hd
    refine Ev.step (fun k => impl_meet.l1.eq_2 ..) ?_
    refine Ev.pos (by omega) ?_
    rw [allF_step hd, wrap_succ d (by omega)]
    cases g with
    | false =>
      refine Ev.neg Bool.false_ne_true ?_
      exact Ev.to (ih false) (by simp)
    | true =>
      refine Ev.pos rfl ?_
      repeat (refine Ev.pos (by omega) ?_)
      by_cases k1 : rdN u d a = 0
      · exact Ev.pos k1 (Ev.to (ih true) (by simp [pm, k1]))
      · refine Ev.neg k1 ?_
        repeat (refine Ev.pos (by omega) ?_)
        by_cases k2 : rdN u d b = 0
        · exact Ev.pos k2 (Ev.to (ih true) (by simp [pm, k2]))
        · refine Ev.neg k2 ?_
          repeat (refine Ev.pos (by omega) ?_)
          refine Ev.to (ih _) ?_
          rw [pm, decide_eq_false k1, decide_eq_false k2]
          rfl
theorem im_l0 (h : Ord u) {a b : Nat} (ha : a < u.length) (hb : b < u.length) (c : Nat) (hc : c ≤ u.length) :
    Ev (fun k => impl_meet.l0 k u a b u.length c) (firstF u.length (fun c => decide (IsMeet u a b c)) c) := by
  have hn := h.le12
  refine down u.length (fun c => Ev (fun k => impl_meet.l0 k u a b u.length c) (firstF u.length (fun c => decide (IsMeet u a b c)) c)) ?_ ?_ c hc
  · refine Ev.step (fun k => impl_meet.l0.eq_2 ..) ?_
    refine Ev.neg (by omega) ?_
    exact Ev.ret (firstF_end (Nat.le_refl _)).symm
  · intro c hc ih
    have h1 := row_len h hc
    have key : ∀ x : Bool, x = (decide (rdN u c a = 0) || decide (rdN u c b = 0)) → Ev (fun k => impl_meet.j1 k u a b c u.length c x) (firstF u.length (fun c => decide (IsMeet u a b c)) c) := by
      intro x hx
      refine Ev.step (fun k => impl_meet.j1.eq_2 ..) ?_
      rw [firstF_step hc]
      cases x with
      | true =>
        refine Ev.pos rfl ?_
        rw [wrap_succ c (by omega)]
        refine Ev.to ih ?_
        rw [if_neg]
        rw [decide_eq_true_iff, isMeet_iff h ha hb hc]
        simp only [Bool.true_eq, Bool.or_eq_true, decide_eq_true_iff] at hx
        omega
      | false =>
        refine Ev.neg Bool.false_ne_true ?_
        refine Ev.to (im_l1 h ha hb hc ih 0 (Nat.zero_le _) true) ?_
        simp only [Bool.false_eq, Bool.or_eq_false_iff, decide_eq_false_iff_not] at hx
        have z1 := (h.ne0 hc ha).1 hx.1
        have z2 := (h.ne0 hc hb).1 hx.2
        by_cases e : allF u.length (pm u a b c) 0 = true
        · rw [if_pos (by rw [e]; rfl), if_pos (by rw [decide_eq_true_iff, isMeet_iff h ha hb hc]; exact ⟨z1, z2, e⟩)]
        · rw [if_neg (by rw [Bool.true_and]; exact e), if_neg (by rw [decide_eq_true_iff, isMeet_iff h ha hb hc]; exact fun k => e k.2.2)]
    refine Ev.step (fun k => impl_meet.l0.eq_2 ..) ?_
    repeat (refine Ev.pos (by omega) ?_)
    by_cases k1 : rdN u c a = 0
    · exact Ev.pos k1 (key true (by rw [decide_eq_true k1]; rfl))
    · refine Ev.neg k1 ?_
      repeat (refine Ev.pos (by omega) ?_)
      refine key _ ?_
      rw [decide_eq_false k1, Bool.false_or]
      rfl
theorem impl_meet_ev (h : Ord u) {a b : Nat} (ha : a < u.length) (hb : b < u.length) : Ev (fun k => impl_meet.f k u a b) (meetI u a b) := by
  unfold impl_meet.f
  exact im_l0 h ha hb 0 (Nat.zero_le _)

theorem sm_l1 (h : Ord u) {a b m : Nat} (ha : a < u.length) (hb : b < u.length) (hm : m < u.length) (d : Nat) (hd : d ≤ u.length) :
    Ev (fun k => spec_l1Meet.l1 k u a b m d) (if allF u.length (pm u a b m) d = true then (m : Int) else -1) := by
  have hn := h.le12
  refine down u.length (fun d => Ev (fun k => spec_l1Meet.l1 k u a b m d) (if allF u.length (pm u a b m) d = true then (m : Int) else -1)) ?_ ?_ d hd
  · refine Ev.step (fun k => spec_l1Meet.l1.eq_2 ..) ?_
    refine Ev.neg (by omega) ?_
    rw [allF_end (Nat.le_refl _)]
    exact Ev.ret (by simp)
  · intro d hd ih
    have h1 := row_len h hd
    refine Ev.step (fun k => spec_l1Meet.l1.eq_2 ..) ?_
    repeat (refine Ev.pos (by omega) ?_)
    rw [allF_step hd, wrap_succ d (by omega)]
    by_cases k1 : rdN u d a = 1
    · refine Ev.pos k1 ?_
      repeat (refine Ev.pos (by omega) ?_)
      by_cases k2 : rdN u d b = 1
      · refine Ev.pos k2 ?_
        repeat (refine Ev.pos (by omega) ?_)
        by_cases k3 : rdN u d m = 0
        · exact Ev.pos k3 (Ev.ret (by simp [pm, k1, k2, k3]))
        · exact Ev.neg k3 (Ev.to ih (by simp [pm, (h.ne0 hd hm).1 k3]))
      · exact Ev.neg k2 (Ev.to ih (by simp [pm, (h.ne1 hd hb).1 k2]))
    · exact Ev.neg k1 (Ev.to ih (by simp [pm, (h.ne1 hd ha).1 k1]))
theorem sm_l1' (h : Ord u) {a b : Nat} (ha : a < u.length) (hb : b < u.length) (no : ∀ d, d < u.length → ¬ (rdN u d a = 1 ∧ rdN u d b = 1)) (d : Nat) (hd : d ≤ u.length) :
    Ev (fun k => spec_l1Meet.l1 k u a b (-1) d) (-1) := by
  have hn := h.le12
  refine down u.length (fun d => Ev (fun k => spec_l1Meet.l1 k u a b (-1) d) (-1)) ?_ ?_ d hd
  · refine Ev.step (fun k => spec_l1Meet.l1.eq_2 ..) ?_
    exact Ev.neg (by omega) (Ev.ret rfl)
  · intro d hd ih
    have h1 := row_len h hd
    refine Ev.step (fun k => spec_l1Meet.l1.eq_2 ..) ?_
    repeat (refine Ev.pos (by omega) ?_)
    rw [wrap_succ d (by omega)]
    by_cases k1 : rdN u d a = 1
    · refine Ev.pos k1 ?_
      repeat (refine Ev.pos (by omega) ?_)
      exact Ev.neg (fun k2 => no d hd ⟨k1, k2⟩) ih
    · exact Ev.neg k1 ih
theorem sm_l0 (h : Ord u) {a b : Nat} (ha : a < u.length) (hb : b < u.length) (c : Nat) (hc : c ≤ u.length) :
    ∀ β : Int, ((β = -1 ∧ ∀ d, d < c → ¬ (rdN u d a = 1 ∧ rdN u d b = 1)) ∨ ∃ m : Nat, β = m ∧ m < u.length ∧ rdN u m a = 1 ∧ rdN u m b = 1 ∧ ∀ g, IsMeet u a b g → g < c → m = g) →
    Ev (fun k => spec_l1Meet.l0 k u a b β c) (meetI u a b) := by
  have hn := h.le12
  refine down u.length (fun c => ∀ β : Int, ((β = -1 ∧ ∀ d, d < c → ¬ (rdN u d a = 1 ∧ rdN u d b = 1)) ∨ ∃ m : Nat, β = m ∧ m < u.length ∧ rdN u m a = 1 ∧ rdN u m b = 1 ∧ ∀ g, IsMeet u a b g → g < c → m = g) →
    Ev (fun k => spec_l1Meet.l0 k u a b β c) (meetI u a b)) ?_ ?_ c hc
  · intro β hβ
    refine Ev.step (fun k => spec_l1Meet.l0.eq_2 ..) ?_
    refine Ev.neg (by omega) ?_
    rcases hβ with ⟨rfl, no⟩ | ⟨m, rfl, hm, m1, m2, hg⟩
    · refine Ev.to (sm_l1' h ha hb no 0 (Nat.zero_le _)) ?_
      rcases meetI_cases u a b with ⟨e, _⟩ | ⟨c, _, hc⟩
      · exact e.symm
      · exact absurd ⟨hc.2.1, hc.2.2.1⟩ (no c hc.1)
    · refine Ev.to (sm_l1 h ha hb hm 0 (Nat.zero_le _)) ?_
      by_cases e : allF u.length (pm u a b m) 0 = true
      · rw [if_pos e, meetI_of h ((isMeet_iff h ha hb hm).2 ⟨m1, m2, e⟩)]
      · rw [if_neg e]
        rcases meetI_cases u a b with ⟨e', _⟩ | ⟨c, _, hc⟩
        · exact e'.symm
        · have := hg c hc hc.1
          subst this
          exact absurd ((isMeet_iff h ha hb hm).1 hc).2.2 e
  · intro c hc ih β hβ
    have h1 := row_len h hc
    refine Ev.step (fun k => spec_l1Meet.l0.eq_2 ..) ?_
    repeat (refine Ev.pos (by omega) ?_)
    rw [wrap_succ c (by omega)]
    have stay : ¬ (rdN u c a = 1 ∧ rdN u c b = 1) → Ev (fun k => spec_l1Meet.l0 k u a b β ((c + 1 : Nat) : Int)) (meetI u a b) := by
      intro no
      refine ih β ?_
      rcases hβ with ⟨rfl, k⟩ | ⟨m, rfl, hm, m1, m2, hg⟩
      · refine .inl ⟨rfl, fun d hd => ?_⟩
        by_cases e : d = c
        · rw [e]; exact no
        · exact k d (by omega)
      · refine .inr ⟨m, rfl, hm, m1, m2, fun g gm hgc => ?_⟩
        by_cases e : g = c
        · subst e
          exact absurd ⟨gm.2.1, gm.2.2.1⟩ no
        · exact hg g gm (by omega)
    by_cases k1 : rdN u c a = 1
    · refine Ev.pos k1 ?_
      repeat (refine Ev.pos (by omega) ?_)
      by_cases k2 : rdN u c b = 1
      · refine Ev.pos k2 ?_
        rcases hβ with ⟨rfl, k⟩ | ⟨m, rfl, hm, m1, m2, hg⟩
        · refine Ev.pos (by omega) (ih c (.inr ⟨c, rfl, hc, k1, k2, fun g gm hgc => ?_⟩))
          by_cases e : g = c
          · exact e.symm
          · exact absurd ⟨gm.2.1, gm.2.2.1⟩ (k g (by omega))
        · have h2 := row_len h hm
          refine Ev.neg (by omega) ?_
          repeat (refine Ev.pos (by omega) ?_)
          by_cases k3 : rdN u m c = 1
          · refine Ev.pos k3 (ih c (.inr ⟨c, rfl, hc, k1, k2, fun g gm hgc => ?_⟩))
            by_cases e : g = c
            · exact e.symm
            · have := hg g gm (by omega)
              subst this
              exact (h.anti hm hc k3 (gm.2.2.2 c hc k1 k2)).symm
          · refine Ev.neg k3 (ih m (.inr ⟨m, rfl, hm, m1, m2, fun g gm hgc => ?_⟩))
            by_cases e : g = c
            · subst e
              exact absurd (gm.2.2.2 m hm m1 m2) k3
            · exact hg g gm (by omega)
      · exact Ev.neg k2 (stay (fun k => k2 k.2))
    · exact Ev.neg k1 (stay (fun k => k1 k.1))
theorem spec_meet_ev (h : Ord u) {a b : Nat} (ha : a < u.length) (hb : b < u.length) : Ev (fun k => spec_l1Meet.f k u a b) (meetI u a b) := by
  unfold spec_l1Meet.f
  exact sm_l0 h ha hb 0 (Nat.zero_le _) (-1) (.inl ⟨rfl, fun d hd => by omega⟩)

variable (u) in
def pj (a b c d : Nat) : Bool := decide (rdN u a d = 0) || decide (rdN u b d = 0) || decide (rdN u c d = 1)
theorem isJoin_iff (h : Ord u) {a b c : Nat} (ha : a < u.length) (hb : b < u.length) (hc : c < u.length) :
    IsJoin u a b c ↔ rdN u a c = 1 ∧ rdN u b c = 1 ∧ allF u.length (pj u a b c) 0 = true := by
  unfold IsJoin
  rw [allF0]
  constructor
  · intro ⟨_, k1, k2, k3⟩
    refine ⟨k1, k2, fun d hd => ?_⟩
    simp only [pj, Bool.or_eq_true, decide_eq_true_iff]
    rcases h.bit ha hd with m | m
    · exact .inl (.inl m)
    · rcases h.bit hb hd with l | l
      · exact .inl (.inr l)
      · exact .inr (k3 d hd m l)
  · intro ⟨k1, k2, k3⟩
    refine ⟨hc, k1, k2, fun d hd m l => ?_⟩
    have := k3 d hd
    simp only [pj, Bool.or_eq_true, decide_eq_true_iff] at this
    rcases this with (z | z) | z
    · omega
    · omega
    · exact z
theorem sj_l1 (h : Ord u) {a b m : Nat} (ha : a < u.length) (hb : b < u.length) (hm : m < u.length) (d : Nat) (hd : d ≤ u.length) :
    Ev (fun k => spec_l1Join.l1 k u a b m d) (if allF u.length (pj u a b m) d = true then (m : Int) else -1) := by
  have hn := h.le12
  have h1 := row_len h ha
  have h2 := row_len h hb
  have h3 := row_len h hm
  refine down u.length (fun d => Ev (fun k => spec_l1Join.l1 k u a b m d) (if allF u.length (pj u a b m) d = true then (m : Int) else -1)) ?_ ?_ d hd
  · refine Ev.step (fun k => spec_l1Join.l1.eq_2 ..) ?_
    refine Ev.neg (by omega) ?_
    rw [allF_end (Nat.le_refl _)]
    exact Ev.ret (by simp)
  · intro d hd ih
    refine Ev.step (fun k => spec_l1Join.l1.eq_2 ..) ?_
    repeat (refine Ev.pos (by omega) ?_)
    rw [allF_step hd, wrap_succ d (by omega)]
    by_cases k1 : rdN u a d = 1
    · refine Ev.pos k1 ?_
      repeat (refine Ev.pos (by omega) ?_)
      by_cases k2 : rdN u b d = 1
      · refine Ev.pos k2 ?_
        repeat (refine Ev.pos (by omega) ?_)
        by_cases k3 : rdN u m d = 0
        · exact Ev.pos k3 (Ev.ret (by simp [pj, k1, k2, k3]))
        · exact Ev.neg k3 (Ev.to ih (by simp [pj, (h.ne0 hm hd).1 k3]))
      · exact Ev.neg k2 (Ev.to ih (by simp [pj, (h.ne1 hb hd).1 k2]))
    · exact Ev.neg k1 (Ev.to ih (by simp [pj, (h.ne1 ha hd).1 k1]))
theorem sj_l1' (h : Ord u) {a b : Nat} (ha : a < u.length) (hb : b < u.length) (no : ∀ d, d < u.length → ¬ (rdN u a d = 1 ∧ rdN u b d = 1)) (d : Nat) (hd : d ≤ u.length) :
    Ev (fun k => spec_l1Join.l1 k u a b (-1) d) (-1) := by
  have hn := h.le12
  have h1 := row_len h ha
  have h2 := row_len h hb
  refine down u.length (fun d => Ev (fun k => spec_l1Join.l1 k u a b (-1) d) (-1)) ?_ ?_ d hd
  · refine Ev.step (fun k => spec_l1Join.l1.eq_2 ..) ?_
    exact Ev.neg (by omega) (Ev.ret rfl)
  · intro d hd ih
    refine Ev.step (fun k => spec_l1Join.l1.eq_2 ..) ?_
    repeat (refine Ev.pos (by omega) ?_)
    rw [wrap_succ d (by omega)]
    by_cases k1 : rdN u a d = 1
    · refine Ev.pos k1 ?_
      repeat (refine Ev.pos (by omega) ?_)
      exact Ev.neg (fun k2 => no d hd ⟨k1, k2⟩) ih
    · exact Ev.neg k1 ih
theorem sj_l0 (h : Ord u) {a b : Nat} (ha : a < u.length) (hb : b < u.length) (c : Nat) (hc : c ≤ u.length) :
    ∀ β : Int, ((β = -1 ∧ ∀ d, d < c → ¬ (rdN u a d = 1 ∧ rdN u b d = 1)) ∨ ∃ m : Nat, β = m ∧ m < u.length ∧ rdN u a m = 1 ∧ rdN u b m = 1 ∧ ∀ g, IsJoin u a b g → g < c → m = g) →
    Ev (fun k => spec_l1Join.l0 k u a b β c) (joinI u a b) := by
  have hn := h.le12
  have h1 := row_len h ha
  have h2 := row_len h hb
  refine down u.length (fun c => ∀ β : Int, ((β = -1 ∧ ∀ d, d < c → ¬ (rdN u a d = 1 ∧ rdN u b d = 1)) ∨ ∃ m : Nat, β = m ∧ m < u.length ∧ rdN u a m = 1 ∧ rdN u b m = 1 ∧ ∀ g, IsJoin u a b g → g < c → m = g) →
    Ev (fun k => spec_l1Join.l0 k u a b β c) (joinI u a b)) ?_ ?_ c hc
  · intro β hβ
    refine Ev.step (fun k => spec_l1Join.l0.eq_2 ..) ?_
    refine Ev.neg (by omega) ?_
    rcases hβ with ⟨rfl, no⟩ | ⟨m, rfl, hm, m1, m2, hg⟩
    · refine Ev.to (sj_l1' h ha hb no 0 (Nat.zero_le _)) ?_
      rcases joinI_cases u a b with ⟨e, _⟩ | ⟨c, _, hc⟩
      · exact e.symm
      · exact absurd ⟨hc.2.1, hc.2.2.1⟩ (no c hc.1)
    · refine Ev.to (sj_l1 h ha hb hm 0 (Nat.zero_le _)) ?_
      by_cases e : allF u.length (pj u a b m) 0 = true
      · rw [if_pos e, joinI_of h ((isJoin_iff h ha hb hm).2 ⟨m1, m2, e⟩)]
      · rw [if_neg e]
        rcases joinI_cases u a b with ⟨e', _⟩ | ⟨c, _, hc⟩
        · exact e'.symm
        · have := hg c hc hc.1
          subst this
          exact absurd ((isJoin_iff h ha hb hm).1 hc).2.2 e
  · intro c hc ih β hβ
    have h3 := row_len h hc
    refine Ev.step (fun k => spec_l1Join.l0.eq_2 ..) ?_
    repeat (refine Ev.pos (by omega) ?_)
    rw [wrap_succ c (by omega)]
    have stay : ¬ (rdN u a c = 1 ∧ rdN u b c = 1) → Ev (fun k => spec_l1Join.l0 k u a b β ((c + 1 : Nat) : Int)) (joinI u a b) := by
      intro no
      refine ih β ?_
      rcases hβ with ⟨rfl, k⟩ | ⟨m, rfl, hm, m1, m2, hg⟩
      · refine .inl ⟨rfl, fun d hd => ?_⟩
        by_cases e : d = c
        · rw [e]; exact no
        · exact k d (by omega)
      · refine .inr ⟨m, rfl, hm, m1, m2, fun g gm hgc => ?_⟩
        by_cases e : g = c
        · subst e
          exact absurd ⟨gm.2.1, gm.2.2.1⟩ no
        · exact hg g gm (by omega)
    by_cases k1 : rdN u a c = 1
    · refine Ev.pos k1 ?_
      repeat (refine Ev.pos (by omega) ?_)
      by_cases k2 : rdN u b c = 1
      · refine Ev.pos k2 ?_
        rcases hβ with ⟨rfl, k⟩ | ⟨m, rfl, hm, m1, m2, hg⟩
        · refine Ev.pos (by omega) (ih c (.inr ⟨c, rfl, hc, k1, k2, fun g gm hgc => ?_⟩))
          by_cases e : g = c
          · exact e.symm
          · exact absurd ⟨gm.2.1, gm.2.2.1⟩ (k g (by omega))
        · refine Ev.neg (by omega) ?_
          repeat (refine Ev.pos (by omega) ?_)
          by_cases k3 : rdN u c m = 1
          · refine Ev.pos k3 (ih c (.inr ⟨c, rfl, hc, k1, k2, fun g gm hgc => ?_⟩))
            by_cases e : g = c
            · exact e.symm
            · have := hg g gm (by omega)
              subst this
              exact h.anti hc hm k3 (gm.2.2.2 c hc k1 k2)
          · refine Ev.neg k3 (ih m (.inr ⟨m, rfl, hm, m1, m2, fun g gm hgc => ?_⟩))
            by_cases e : g = c
            · subst e
              exact absurd (gm.2.2.2 m hm m1 m2) k3
            · exact hg g gm (by omega)
      · exact Ev.neg k2 (stay (fun k => k2 k.2))
    · exact Ev.neg k1 (stay (fun k => k1 k.1))
theorem spec_join_ev (h : Ord u) {a b : Nat} (ha : a < u.length) (hb : b < u.length) : Ev (fun k => spec_l1Join.f k u a b) (joinI u a b) := by
  unfold spec_l1Join.f
  exact sj_l0 h ha hb 0 (Nat.zero_le _) (-1) (.inl ⟨rfl, fun d hd => by omega⟩)
end
end Go.Proofs.Ytacifhahfamipaa.Q


namespace Go.Proofs.Ytacifhahfamipaa.Q
open Go.RowKit Go.Proofs.YtacifhahfamipaaW.PrintWords Go.Proofs.YtacifhahfamipaaW.PrintLast Go.Proofs.YtacifhahfamipaaW.PrintMore Go.Proofs.Ytacifhahfamipaa.P Go.Proofs.Cl
set_option linter.unusedVariables false

def trow (u : List (List Int)) (a : Nat) : List Int := (List.range u.length).map fun b => rdN u b a
def mid (u : List (List Int)) (a : Nat) (row : List Int) : List (List Int) := (List.range a).map (trow u) ++ row :: List.replicate (u.length - (a + 1)) []
theorem mid_len {u : List (List Int)} {a : Nat} (ha : a < u.length) (row : List Int) : (mid u a row).length = u.length := by
  simp [mid]
  omega
theorem mid_row {u : List (List Int)} {a : Nat} (row : List Int) : rd_L1 (mid u a row) (a : Int) = row := by
  rw [row_nat, List.getD_eq_getElem?_getD, mid, List.getElem?_append_right (by simp)]
  simp
theorem mid_set {u : List (List Int)} {a : Nat} (row row' : List Int) : (mid u a row).set a row' = mid u a row' := by
  unfold mid
  rw [List.set_append, if_neg (by simp)]
  simp
theorem it_l1 {u : List (List Int)} (h : Ord u) {a : Nat} (ha : a < u.length) {r : List (List Int)} (H : Ev (fun k => impl_turned.l0 k u (mid u a (trow u a)) u.length ((a + 1 : Nat) : Int)) r) (b : Nat) (hb : b ≤ u.length) :
    Ev (fun k => impl_turned.l1 k u (mid u a ((trow u a).take b ++ List.replicate (u.length - b) 0)) a u.length a u.length b) r := by
  have hn := h.le12
  have ht : (trow u a).length = u.length := by simp [trow]
  refine down u.length (fun b => Ev (fun k => impl_turned.l1 k u (mid u a ((trow u a).take b ++ List.replicate (u.length - b) 0)) a u.length a u.length b) r) ?_ ?_ b hb
  · refine Ev.step (fun k => impl_turned.l1.eq_2 ..) (Ev.neg (by omega) ?_)
    rw [wrap_succ a (by omega), Nat.sub_self, List.take_of_length_le (by omega)]
    simpa using H
  · intro b hb ih
    have r1 := row_len h hb
    have hr : ((trow u a).take b ++ List.replicate (u.length - b) (0 : Int)).length = u.length := by simp [ht]; omega
    refine Ev.step (fun k => impl_turned.l1.eq_2 ..) ?_
    rw [mid_row, mid_len ha, hr]
    repeat (refine Ev.pos (by omega) ?_)
    rw [wrap_succ b (by omega), show ((b : Int)).toNat = b from rfl, show ((a : Int)).toNat = a from rfl, mid_set]
    have e : rd (rd_L1 u (b : Int)) (a : Int) = (trow u a)[b]'(by omega) := by
      rw [at_nat]
      simp [trow]
    have st := set_step (trow u a) (0 : Int) b (by omega)
    simp only [ht] at st
    rw [e, st]
    exact ih
theorem it_l0 {u : List (List Int)} (h : Ord u) (a : Nat) (ha : a ≤ u.length) :
    Ev (fun k => impl_turned.l0 k u ((List.range a).map (trow u) ++ List.replicate (u.length - a) []) u.length a) (turn u) := by
  have hn := h.le12
  refine down u.length (fun a => Ev (fun k => impl_turned.l0 k u ((List.range a).map (trow u) ++ List.replicate (u.length - a) []) u.length a) (turn u)) ?_ ?_ a ha
  · refine Ev.step (fun k => impl_turned.l0.eq_2 ..) (Ev.neg (by omega) (Ev.ret ?_))
    rw [Nat.sub_self]
    simp [turn, trow]
  · intro a ha ih
    refine Ev.step (fun k => impl_turned.l0.eq_2 ..) ?_
    refine Ev.pos (by omega) (Ev.pos (by omega) (Ev.pos (by omega) (Ev.pos (by omega) (Ev.pos (by simp; omega) ?_))))
    have e : ((List.range a).map (trow u) ++ List.replicate (u.length - a) ([] : List Int)).set ((a : Int)).toNat (List.replicate ((u.length : Int)).toNat 0) = mid u a ((trow u a).take 0 ++ List.replicate (u.length - 0) 0) := by
      rw [show ((a : Int)).toNat = a from rfl, show ((u.length : Int)).toNat = u.length from rfl, show u.length - a = (u.length - (a + 1)) + 1 by omega, List.replicate_succ]
      exact mid_set [] _
    rw [e]
    refine it_l1 h ha ?_ 0 (Nat.zero_le _)
    have e2 : (List.range (a + 1)).map (trow u) ++ List.replicate (u.length - (a + 1)) [] = mid u a (trow u a) := by
      rw [List.range_succ, List.map_append, mid, List.append_assoc]
      rfl
    rw [e2] at ih
    exact ih
theorem turned_ev {u : List (List Int)} (h : Ord u) : Ev (fun k => impl_turned.f k u) (turn u) := by
  have hn := h.le12
  unfold impl_turned.f
  refine Ev.pos (by omega) (Ev.pos (by omega) ?_)
  have := it_l0 h 0 (Nat.zero_le _)
  simpa using this
theorem sl_l1 {u : List (List Int)} (h : Ord u) {a : Nat} (ha : a < u.length) {r : Int × Bool} (H : Ev (fun k => spec_LeastOf.l0 k u ((a + 1 : Nat) : Int)) r) (b : Nat) (hb : b ≤ u.length) :
    ∀ g : Bool, Ev (fun k => spec_LeastOf.l1 k u a g b) (if (g && allF u.length (fun b => decide (rdN u a b = 1)) b) = true then ((a : Int), true) else r) := by
  have hn := h.le12
  have h1 := row_len h ha
  refine down u.length (fun b => ∀ g : Bool, Ev (fun k => spec_LeastOf.l1 k u a g b) (if (g && allF u.length (fun b => decide (rdN u a b = 1)) b) = true then ((a : Int), true) else r)) ?_ ?_ b hb
  · intro g
    refine Ev.step (fun k => spec_LeastOf.l1.eq_2 ..) ?_
    refine Ev.neg (by omega) ?_
    rw [allF_end (Nat.le_refl _), wrap_succ a (by omega)]
    cases g with
    | true => exact Ev.pos rfl (Ev.ret (by simp))
    | false => exact Ev.neg Bool.false_ne_true (Ev.to H (by simp))
  · intro b hb ih g
    refine Ev.step (fun k => spec_LeastOf.l1.eq_2 ..) ?_
    refine Ev.pos (by omega) ?_
    rw [allF_step hb, wrap_succ b (by omega)]
    cases g with
    | true =>
      refine Ev.pos rfl ?_
      repeat (refine Ev.pos (by omega) ?_)
      exact Ev.to (ih _) (by rw [Bool.true_and]; rfl)
    | false => exact Ev.neg Bool.false_ne_true (Ev.to (ih false) (by simp))
theorem sl_l0 {u : List (List Int)} (h : Ord u) (a : Nat) (ha : a ≤ u.length) :
    Ev (fun k => spec_LeastOf.l0 k u a) (let i := firstF u.length (fun a => decide (IsLeast u a)) a; (i, decide (0 ≤ i))) := by
  have hn := h.le12
  refine down u.length (fun a => Ev (fun k => spec_LeastOf.l0 k u a) (let i := firstF u.length (fun a => decide (IsLeast u a)) a; (i, decide (0 ≤ i)))) ?_ ?_ a ha
  · refine Ev.step (fun k => spec_LeastOf.l0.eq_2 ..) ?_
    refine Ev.neg (by omega) ?_
    refine Ev.step (fun k => spec_LeastOf.j1.eq_2 ..) ?_
    exact Ev.neg Bool.false_ne_true (Ev.ret (by rw [firstF_end (Nat.le_refl _)]; rfl))
  · intro a ha ih
    refine Ev.step (fun k => spec_LeastOf.l0.eq_2 ..) ?_
    refine Ev.pos (by omega) ?_
    refine Ev.bind (spec_ord u) ?_
    refine Ev.step (fun k => spec_LeastOf.j1.eq_2 ..) ?_
    refine Ev.tt (decide_eq_true h) ?_
    refine Ev.to (sl_l1 h ha ih 0 (Nat.zero_le _) true) ?_
    rw [firstF_step ha]
    by_cases e : IsLeast u a
    · rw [if_pos (by rw [Bool.true_and, allF0]; exact fun c hc => decide_eq_true (e c hc)), if_pos (decide_eq_true e)]
      simp
    · rw [if_neg (by rw [Bool.true_and, allF0]; exact fun k => e fun c hc => of_decide_eq_true (k c hc)), if_neg (by rw [decide_eq_true_iff]; exact e)]
theorem spec_least_ev (u : List (List Int)) : Ev (fun k => spec_LeastOf.f k u) (leastOfP u) := by
  unfold spec_LeastOf.f
  by_cases h : Ord u
  · exact Ev.to (sl_l0 h 0 (Nat.zero_le _)) (by rw [leastOfP, if_pos h]; rfl)
  · rw [leastOfP, if_neg h]
    refine Ev.step (fun k => spec_LeastOf.l0.eq_2 ..) ?_
    by_cases e : (0 : Int) < u.length
    · refine Ev.pos e ?_
      refine Ev.bind (spec_ord u) ?_
      refine Ev.step (fun k => spec_LeastOf.j1.eq_2 ..) ?_
      exact Ev.ff (decide_eq_false h) (Ev.ret rfl)
    · refine Ev.neg e ?_
      refine Ev.step (fun k => spec_LeastOf.j1.eq_2 ..) ?_
      exact Ev.neg Bool.false_ne_true (Ev.ret rfl)
theorem il_l1 {u : List (List Int)} (h : Ord u) {a : Nat} (ha : a < u.length) {r : Int × Bool} (H : Ev (fun k => impl_LeastOf.l0 k u u.length ((a + 1 : Nat) : Int)) r) (b : Nat) (hb : b ≤ u.length) :
    ∀ g : Bool, Ev (fun k => impl_LeastOf.l1 k a g u u.length a (rd_L1 u (a : Int)) u.length b) (if (g && allF u.length (fun b => decide (rdN u a b = 1)) b) = true then ((a : Int), true) else r) := by
  have hn := h.le12
  have h1 := row_len h ha
  refine down u.length (fun b => ∀ g : Bool, Ev (fun k => impl_LeastOf.l1 k a g u u.length a (rd_L1 u (a : Int)) u.length b) (if (g && allF u.length (fun b => decide (rdN u a b = 1)) b) = true then ((a : Int), true) else r)) ?_ ?_ b hb
  · intro g
    refine Ev.step (fun k => impl_LeastOf.l1.eq_2 ..) ?_
    refine Ev.neg (by omega) ?_
    rw [allF_end (Nat.le_refl _), wrap_succ a (by omega)]
    cases g with
    | true => exact Ev.pos rfl (Ev.ret (by simp))
    | false => exact Ev.neg Bool.false_ne_true (Ev.to H (by simp))
  · intro b hb ih g
    refine Ev.step (fun k => impl_LeastOf.l1.eq_2 ..) ?_
    repeat (refine Ev.pos (by omega) ?_)
    rw [allF_step hb, wrap_succ b (by omega)]
    cases g with
    | true =>
      refine Ev.pos rfl ?_
      exact Ev.to (ih _) (by rw [Bool.true_and]; rfl)
    | false => exact Ev.neg Bool.false_ne_true (Ev.to (ih false) (by simp))
theorem il_l0 {u : List (List Int)} (h : Ord u) (a : Nat) (ha : a ≤ u.length) :
    Ev (fun k => impl_LeastOf.l0 k u u.length a) (let i := firstF u.length (fun a => decide (IsLeast u a)) a; (i, decide (0 ≤ i))) := by
  have hn := h.le12
  refine down u.length (fun a => Ev (fun k => impl_LeastOf.l0 k u u.length a) (let i := firstF u.length (fun a => decide (IsLeast u a)) a; (i, decide (0 ≤ i)))) ?_ ?_ a ha
  · refine Ev.step (fun k => impl_LeastOf.l0.eq_2 ..) ?_
    refine Ev.neg (by omega) ?_
    exact Ev.ret (by rw [firstF_end (Nat.le_refl _)]; rfl)
  · intro a ha ih
    refine Ev.step (fun k => impl_LeastOf.l0.eq_2 ..) ?_
    repeat (refine Ev.pos (by omega) ?_)
    rw [row_len h ha]
    refine Ev.to (il_l1 h ha ih 0 (Nat.zero_le _) true) ?_
    rw [firstF_step ha]
    by_cases e : IsLeast u a
    · rw [if_pos (by rw [Bool.true_and, allF0]; exact fun c hc => decide_eq_true (e c hc)), if_pos (decide_eq_true e)]
      simp
    · rw [if_neg (by rw [Bool.true_and, allF0]; exact fun k => e fun c hc => of_decide_eq_true (k c hc)), if_neg (by rw [decide_eq_true_iff]; exact e)]
theorem impl_least_ev (u : List (List Int)) : Ev (fun k => impl_LeastOf.f k u) (leastOfP u) := by
  unfold impl_LeastOf.f
  refine Ev.bind (impl_ord u) ?_
  by_cases h : Ord u
  · refine Ev.tt (decide_eq_true h) ?_
    exact Ev.to (il_l0 h 0 (Nat.zero_le _)) (by rw [leastOfP, if_pos h]; rfl)
  · exact Ev.ff (decide_eq_false h) (Ev.ret (by rw [leastOfP, if_neg h]))

def pl (u : List (List Int)) (a b : Nat) : Bool := decide (0 ≤ meetI u a b) && decide (0 ≤ joinI u a b)
theorem sa_l1 {u : List (List Int)} (h : Ord u) {a : Nat} (ha : a < u.length) {r : Bool} (H : Ev (fun k => spec_LatticeOk.l0 k u ((a + 1 : Nat) : Int)) r) (b : Nat) (hb : b ≤ a) :
    Ev (fun k => spec_LatticeOk.l1 k u a b) (allF a (pl u a) b && r) := by
  have hn := h.le12
  refine down a (fun b => Ev (fun k => spec_LatticeOk.l1 k u a b) (allF a (pl u a) b && r)) ?_ ?_ b hb
  · refine Ev.step (fun k => spec_LatticeOk.l1.eq_2 ..) ?_
    refine Ev.neg (by omega) ?_
    rw [allF_end (Nat.le_refl _), wrap_succ a (by omega)]
    exact Ev.to H (by simp)
  · intro b hb ih
    refine Ev.step (fun k => spec_LatticeOk.l1.eq_2 ..) ?_
    refine Ev.pos (by omega) ?_
    rw [allF_step hb, wrap_succ b (by omega)]
    refine Ev.bind (spec_meet_ev h ha (by omega)) ?_
    by_cases k1 : 0 ≤ meetI u a b
    · refine Ev.neg (by omega) ?_
      refine Ev.bind (spec_join_ev h ha (by omega)) ?_
      by_cases k2 : 0 ≤ joinI u a b
      · exact Ev.neg (by omega) (Ev.to ih (by simp [pl, k1, k2]))
      · exact Ev.pos (by omega) (Ev.ret (by simp [pl, k2]))
    · exact Ev.pos (by omega) (Ev.ret (by simp [pl, k1]))
theorem sa_l0 {u : List (List Int)} (h : Ord u) (a : Nat) (ha : a ≤ u.length) :
    Ev (fun k => spec_LatticeOk.l0 k u a) (allF u.length (fun a => allF a (pl u a) 0) a) := by
  have hn := h.le12
  refine down u.length (fun a => Ev (fun k => spec_LatticeOk.l0 k u a) (allF u.length (fun a => allF a (pl u a) 0) a)) ?_ ?_ a ha
  · refine Ev.step (fun k => spec_LatticeOk.l0.eq_2 ..) ?_
    refine Ev.neg (by omega) ?_
    refine Ev.step (fun k => spec_LatticeOk.j1.eq_2 ..) ?_
    refine Ev.neg Bool.false_ne_true ?_
    refine Ev.bind (spec_ord u) ?_
    exact Ev.ret (by rw [allF_end (Nat.le_refl _), decide_eq_true h])
  · intro a ha ih
    refine Ev.step (fun k => spec_LatticeOk.l0.eq_2 ..) ?_
    refine Ev.pos (by omega) ?_
    refine Ev.bind (spec_ord u) ?_
    refine Ev.step (fun k => spec_LatticeOk.j1.eq_2 ..) ?_
    refine Ev.tt (decide_eq_true h) ?_
    exact Ev.to (sa_l1 h ha ih 0 (Nat.zero_le _)) (by rw [allF_step ha])
theorem spec_lat_ev (u : List (List Int)) : Ev (fun k => spec_LatticeOk.f k u) (decide (Lat u)) := by
  unfold spec_LatticeOk.f
  by_cases h : Ord u
  · refine Ev.to (sa_l0 h 0 (Nat.zero_le _)) ?_
    rw [Bool.eq_iff_iff, allF0, decide_eq_true_iff]
    constructor
    · intro k
      have half : ∀ a, a < u.length → ∀ b, b < a → 0 ≤ meetI u a b ∧ 0 ≤ joinI u a b := fun a ha b hb => by
        have := allF0.1 (k a ha) b hb
        simpa [pl] using this
      refine ⟨h, fun a ha b hb => ?_⟩
      rcases Nat.lt_trichotomy a b with e | e | e
      · rw [meetI_comm h, joinI_comm h]
        exact half b hb a e
      · subst e
        rw [meetI_of h (isMeet_self h ha ha (h.refl ha)), joinI_of h (isJoin_self h ha ha (h.refl ha))]
        omega
      · exact half a ha b e
    · intro k a ha
      rw [allF0]
      intro b hb
      have := k.2 a ha b (by omega)
      simp [pl, this.1, this.2]
  · rw [decide_eq_false (fun k => h k.1)]
    refine Ev.step (fun k => spec_LatticeOk.l0.eq_2 ..) ?_
    have fin : ∀ x : Bool, x = false → Ev (fun k => spec_LatticeOk.j1 k u 0 x) false := by
      rintro x rfl
      refine Ev.step (fun k => spec_LatticeOk.j1.eq_2 ..) ?_
      refine Ev.neg Bool.false_ne_true ?_
      refine Ev.bind (spec_ord u) ?_
      exact Ev.ret (decide_eq_false h)
    by_cases e : (0 : Int) < u.length
    · refine Ev.pos e ?_
      refine Ev.bind (spec_ord u) ?_
      exact fin _ (decide_eq_false h)
    · exact Ev.neg e (fin _ rfl)
theorem ia_l1 {u : List (List Int)} (h : Ord u) {a : Nat} (ha : a < u.length) {r : Bool} (H : Ev (fun k => impl_LatticeOk.l0 k u (turn u) u.length ((a + 1 : Nat) : Int)) r) (b : Nat) (hb : b ≤ u.length) :
    Ev (fun k => impl_LatticeOk.l1 k u (turn u) a u.length a u.length b) (allF u.length (pl u a) b && r) := by
  have hn := h.le12
  refine down u.length (fun b => Ev (fun k => impl_LatticeOk.l1 k u (turn u) a u.length a u.length b) (allF u.length (pl u a) b && r)) ?_ ?_ b hb
  · refine Ev.step (fun k => impl_LatticeOk.l1.eq_2 ..) ?_
    refine Ev.neg (by omega) ?_
    rw [allF_end (Nat.le_refl _), wrap_succ a (by omega)]
    exact Ev.to H (by simp)
  · intro b hb ih
    refine Ev.step (fun k => impl_LatticeOk.l1.eq_2 ..) ?_
    refine Ev.pos (by omega) ?_
    rw [allF_step hb, wrap_succ b (by omega)]
    refine Ev.bind (impl_meet_ev h ha hb) ?_
    by_cases k1 : 0 ≤ meetI u a b
    · refine Ev.neg (by omega) ?_
      refine Ev.bind (impl_meet_ev (turn_ord h) (by rw [turn_len]; exact ha) (by rw [turn_len]; exact hb)) ?_
      rw [meetI_turn ha hb]
      by_cases k2 : 0 ≤ joinI u a b
      · exact Ev.neg (by omega) (Ev.to ih (by simp [pl, k1, k2]))
      · exact Ev.pos (by omega) (Ev.ret (by simp [pl, k2]))
    · exact Ev.pos (by omega) (Ev.ret (by simp [pl, k1]))
theorem ia_l0 {u : List (List Int)} (h : Ord u) (a : Nat) (ha : a ≤ u.length) :
    Ev (fun k => impl_LatticeOk.l0 k u (turn u) u.length a) (allF u.length (fun a => allF u.length (pl u a) 0) a) := by
  have hn := h.le12
  refine down u.length (fun a => Ev (fun k => impl_LatticeOk.l0 k u (turn u) u.length a) (allF u.length (fun a => allF u.length (pl u a) 0) a)) ?_ ?_ a ha
  · refine Ev.step (fun k => impl_LatticeOk.l0.eq_2 ..) ?_
    exact Ev.neg (by omega) (Ev.ret (by rw [allF_end (Nat.le_refl _)]))
  · intro a ha ih
    refine Ev.step (fun k => impl_LatticeOk.l0.eq_2 ..) ?_
    refine Ev.pos (by omega) ?_
    exact Ev.to (ia_l1 h ha ih 0 (Nat.zero_le _)) (by rw [allF_step ha])
theorem impl_lat_ev (u : List (List Int)) : Ev (fun k => impl_LatticeOk.f k u) (decide (Lat u)) := by
  unfold impl_LatticeOk.f
  refine Ev.bind (impl_ord u) ?_
  by_cases h : Ord u
  · refine Ev.tt (decide_eq_true h) ?_
    refine Ev.bind (turned_ev h) ?_
    refine Ev.to (ia_l0 h 0 (Nat.zero_le _)) ?_
    rw [Bool.eq_iff_iff, allF0, decide_eq_true_iff]
    constructor
    · intro k
      refine ⟨h, fun a ha b hb => ?_⟩
      have := allF0.1 (k a ha) b hb
      simpa [pl] using this
    · intro k a ha
      rw [allF0]
      intro b hb
      have := k.2 a ha b hb
      simp [pl, this.1, this.2]
  · exact Ev.ff (decide_eq_false h) (Ev.ret (decide_eq_false (fun k => h k.1)).symm)

end Go.Proofs.Ytacifhahfamipaa.Q


namespace Go.Proofs.Ytacifhahfamipaa.Q
open Go.RowKit Go.Proofs.YtacifhahfamipaaW.PrintWords Go.Proofs.YtacifhahfamipaaW.PrintLast Go.Proofs.YtacifhahfamipaaW.PrintMore Go.Proofs.Ytacifhahfamipaa.P Go.Proofs.Cl
set_option linter.unusedVariables false
section
variable {u : List (List Int)} {nt : List Int}
def lp0 (u : List (List Int)) (nt : List Int) (c : Nat) : Bool := decide (0 ≤ rd nt c ∧ rd nt c < u.length)
def lp2 (u : List (List Int)) (nt : List Int) (c d : Nat) : Bool := decide (OppTo u nt c d)
def lp1 (u : List (List Int)) (nt : List Int) (c : Nat) : Bool := decide (rd nt (rd nt c) = c) && decide (meetI u c (rd nt c).toNat = leastI u) && allF u.length (lp2 u nt c) 0
theorem lg_l2 (h : Lat u) (hl : nt.length = u.length) (H0 : ∀ c, c < u.length → 0 ≤ rd nt c ∧ rd nt c < u.length) {a : Nat} (ha : a < u.length) {le : Int} {r : Bool}
    (H : Ev (fun k => spec_LogicOk.l1 k u.length le ((a + 1 : Nat) : Int) u nt) r) (b : Nat) (hb : b ≤ u.length) :
    Ev (fun k => spec_LogicOk.l2 k u.length le a b u nt) (allF u.length (lp2 u nt a) b && r) := by
  have h12 := h.1.le12
  refine down u.length (fun b => Ev (fun k => spec_LogicOk.l2 k u.length le a b u nt) (allF u.length (lp2 u nt a) b && r)) ?_ ?_ b hb
  · refine Ev.step (fun k => spec_LogicOk.l2.eq_2 ..) ?_
    refine Ev.neg (by omega) ?_
    rw [wrap_succ a (by omega), allF_end (Nat.le_refl _), Bool.true_and]
    exact H
  · intro b hb ih
    have hra : (rd_L1 u (a : Int)).length = u.length := row_len h.1 ha
    have hb0 := H0 b hb
    have ha0 := H0 a ha
    have hrb : (rd_L1 u (rd nt (b : Int))).length = u.length := by
      obtain ⟨m, hm, hm2⟩ := nat_of hb0
      rw [hm]
      exact row_len h.1 hm2
    refine Ev.step (fun k => spec_LogicOk.l2.eq_2 ..) ?_
    repeat (refine Ev.pos (by omega) ?_)
    rw [at_nat]
    rw [wrap_succ b (by omega)]
    by_cases k1 : rdN u a b = 1
    · refine Ev.pos k1 ?_
      repeat (refine Ev.pos (by omega) ?_)
      have hv : rd (rd_L1 u (rd nt (b : Int))) (rd nt (a : Int)) = rdN u (rd nt b).toNat (rd nt a).toNat := by
        obtain ⟨m, hm, hm2⟩ := nat_of hb0
        obtain ⟨l, hl, hl2⟩ := nat_of ha0
        rw [hm, hl, Int.toNat_natCast, Int.toNat_natCast, at_nat]
      rw [hv]
      have hbit := h.1.bit (a := (rd nt b).toNat) (b := (rd nt a).toNat) (by omega) (by omega)
      by_cases k2 : rdN u (rd nt b).toNat (rd nt a).toNat = 0
      · refine Ev.pos k2 (Ev.ret ?_)
        rw [allF_step hb]
        have : lp2 u nt a b = false := decide_eq_false (fun q => by have := q k1; omega)
        rw [this, Bool.false_and, Bool.false_and]
      · refine Ev.neg k2 ?_
        have : lp2 u nt a b = true := decide_eq_true (fun _ => by omega)
        rw [allF_step hb, this, Bool.true_and]
        exact ih
    · refine Ev.neg k1 ?_
      have : lp2 u nt a b = true := decide_eq_true (fun q => absurd q k1)
      rw [allF_step hb, this, Bool.true_and]
      exact ih
theorem lg_l1 (h : Lat u) (hl : nt.length = u.length) (H0 : ∀ c, c < u.length → 0 ≤ rd nt c ∧ rd nt c < u.length) (a : Nat) (ha : a ≤ u.length) :
    Ev (fun k => spec_LogicOk.l1 k u.length (leastI u) a u nt) (allF u.length (lp1 u nt) a) := by
  have h12 := h.1.le12
  refine down u.length (fun a => Ev (fun k => spec_LogicOk.l1 k u.length (leastI u) a u nt) (allF u.length (lp1 u nt) a)) ?_ ?_ a ha
  · refine Ev.step (fun k => spec_LogicOk.l1.eq_2 ..) ?_
    refine Ev.neg (by omega) (Ev.ret ?_)
    rw [allF_end (Nat.le_refl _)]
  · intro a ha ih
    have ha0 := H0 a ha
    refine Ev.step (fun k => spec_LogicOk.l1.eq_2 ..) ?_
    repeat (refine Ev.pos (by omega) ?_)
    by_cases k1 : rd nt (rd nt (a : Int)) = a
    · refine Ev.pos k1 ?_
      obtain ⟨m, hm, hm2⟩ := nat_of ha0
      have hme : Ev (fun k => spec_l1Meet.f k u a (rd nt (a : Int))) (meetI u a m) := by rw [hm]; exact spec_meet_ev h.1 ha hm2
      refine Ev.bind hme ?_
      refine Ev.step (fun k => spec_LogicOk.j3.eq_2 ..) ?_
      by_cases k2 : meetI u a m = leastI u
      · refine Ev.ff (by rw [k2]; simp) ?_
        refine Ev.to (lg_l2 h hl H0 ha ih 0 (Nat.zero_le _)) ?_
        rw [allF_step ha]
        have : lp1 u nt a = allF u.length (lp2 u nt a) 0 := by unfold lp1; rw [decide_eq_true k1, hm, Int.toNat_natCast, decide_eq_true k2]; rfl
        rw [this]
      · refine Ev.tt (bne_iff_ne.mpr k2) (Ev.ret ?_)
        rw [allF_step ha]
        have : lp1 u nt a = false := by unfold lp1; rw [hm, Int.toNat_natCast, decide_eq_false k2, Bool.and_false, Bool.false_and]
        rw [this, Bool.false_and]
    · refine Ev.neg k1 ?_
      refine Ev.step (fun k => spec_LogicOk.j3.eq_2 ..) ?_
      refine Ev.tt rfl (Ev.ret ?_)
      rw [allF_step ha]
      have : lp1 u nt a = false := by unfold lp1; rw [decide_eq_false k1, Bool.false_and, Bool.false_and]
      rw [this, Bool.false_and]
theorem lg_l0 (h : Lat u) (hl : nt.length = u.length) (a : Nat) (ha : a ≤ u.length) : (∀ c, c < a → 0 ≤ rd nt (c : Int) ∧ rd nt (c : Int) < u.length) →
    Ev (fun k => spec_LogicOk.l0 k u.length a u nt) (allF u.length (lp0 u nt) a && allF u.length (lp1 u nt) 0) := by
  have h12 := h.1.le12
  refine down u.length (fun a => (∀ c, c < a → 0 ≤ rd nt (c : Int) ∧ rd nt (c : Int) < u.length) → Ev (fun k => spec_LogicOk.l0 k u.length a u nt) (allF u.length (lp0 u nt) a && allF u.length (lp1 u nt) 0)) ?_ ?_ a ha
  · intro H
    refine Ev.step (fun k => spec_LogicOk.l0.eq_2 ..) ?_
    refine Ev.neg (by omega) ?_
    refine Ev.bind (spec_least_ev u) ?_
    rw [allF_end (Nat.le_refl _), Bool.true_and]
    have hle : (leastOfP u).1 = leastI u := by unfold leastOfP; rw [if_pos h.1]
    rw [hle]
    exact lg_l1 h hl H 0 (Nat.zero_le _)
  · intro a ha ih H
    refine Ev.step (fun k => spec_LogicOk.l0.eq_2 ..) ?_
    repeat (refine Ev.pos (by omega) ?_)
    rw [len_pred h.1]
    refine Ev.bindc (l1In_eq _ _ _) ?_
    by_cases k : 0 ≤ rd nt (a : Int) ∧ rd nt (a : Int) < u.length
    · refine Ev.tt (decide_eq_true (by omega)) ?_
      rw [wrap_succ a (by omega), allF_step ha]
      have : lp0 u nt a = true := decide_eq_true k
      rw [this, Bool.true_and]
      exact ih (fun c hc => if q : c < a then H c q else (show c = a by omega) ▸ k)
    · refine Ev.ff (decide_eq_false (by omega)) (Ev.ret ?_)
      have : lp0 u nt a = false := decide_eq_false k
      rw [allF_step ha, this, Bool.false_and, Bool.false_and]
theorem logic_of_loops (h : Lat u) (hl : nt.length = u.length) : (allF u.length (lp0 u nt) 0 && allF u.length (lp1 u nt) 0) = logicF u nt := by
  unfold logicF
  rw [Bool.eq_iff_iff, Bool.and_eq_true, allF0, allF0, decide_eq_true_iff]
  constructor
  · rintro ⟨q0, q1⟩
    have r0 := fun c hc => of_decide_eq_true (q0 c hc)
    have r1 : ∀ c, c < u.length → (rd nt (rd nt c) = c ∧ meetI u c (rd nt c).toNat = leastI u) ∧ ∀ d, d < u.length → OppTo u nt c d := by
      intro c hc
      have := q1 c hc
      unfold lp1 at this
      rw [Bool.and_eq_true, Bool.and_eq_true, decide_eq_true_iff, decide_eq_true_iff, allF0] at this
      exact ⟨this.1, fun d hd => of_decide_eq_true (this.2 d hd)⟩
    exact ⟨h, hl, fun c hc => ⟨r0 c hc, (r1 c hc).1.1, (r1 c hc).1.2⟩, fun c hc d hd => (r1 c hc).2 d hd⟩
  · rintro ⟨_, _, q0, q1⟩
    refine ⟨fun c hc => decide_eq_true (q0 c hc).1, fun c hc => ?_⟩
    unfold lp1
    rw [Bool.and_eq_true, Bool.and_eq_true, decide_eq_true_iff, decide_eq_true_iff, allF0]
    exact ⟨⟨(q0 c hc).2.1, (q0 c hc).2.2⟩, fun d hd => decide_eq_true (q1 c hc d hd)⟩
end
theorem spec_logic_ev (u : List (List Int)) (nt : List Int) : Ev (fun k => spec_LogicOk.f k u nt) (logicF u nt) := by
  unfold spec_LogicOk.f
  refine Ev.bind (spec_lat_ev u) ?_
  by_cases h : Lat u
  · refine Ev.tt (decide_eq_true h) ?_
    refine Ev.step (fun k => spec_LogicOk.j0.eq_2 ..) ?_
    by_cases hl : nt.length = u.length
    · refine Ev.ff (by rw [hl]; simp) ?_
      exact Ev.to (lg_l0 h hl 0 (Nat.zero_le _) (fun c hc => absurd hc (Nat.not_lt_zero _))) (logic_of_loops h hl)
    · refine Ev.tt (bne_iff_ne.mpr (by omega)) (Ev.ret ?_)
      exact (decide_eq_false (fun q => hl q.2.1)).symm
  · refine Ev.ff (decide_eq_false h) ?_
    refine Ev.step (fun k => spec_LogicOk.j0.eq_2 ..) ?_
    refine Ev.tt rfl (Ev.ret ?_)
    exact (decide_eq_false (fun q => h q.1)).symm
end Go.Proofs.Ytacifhahfamipaa.Q


namespace Go.Proofs.Ytacifhahfamipaa.Q
open Go.RowKit Go.Proofs.YtacifhahfamipaaW.PrintWords Go.Proofs.YtacifhahfamipaaW.PrintLast Go.Proofs.YtacifhahfamipaaW.PrintMore Go.Proofs.Ytacifhahfamipaa.P Go.Proofs.Cl
set_option linter.unusedVariables false
section
variable (u : List (List Int)) (nt : List Int)
theorem ok1 {n : Nat} {a : Int} : okAll n [a] = true ↔ (0 ≤ a ∧ a < n) := by simp [okAll]
end
end Go.Proofs.Ytacifhahfamipaa.Q


namespace Go.Proofs.Ytacifhahfamipaa.Q
open Go.RowKit Go.Proofs.YtacifhahfamipaaW.PrintWords Go.Proofs.YtacifhahfamipaaW.PrintLast Go.Proofs.YtacifhahfamipaaW.PrintMore Go.Proofs.Ytacifhahfamipaa.P Go.Proofs.Cl
set_option linter.unusedVariables false
section
variable {u : List (List Int)} {nt : List Int}
end
end Go.Proofs.Ytacifhahfamipaa.Q


namespace Go.Proofs.Ytacifhahfamipaa.Q
open Go.RowKit Go.Proofs.YtacifhahfamipaaW.PrintWords Go.Proofs.YtacifhahfamipaaW.PrintLast Go.Proofs.YtacifhahfamipaaW.PrintMore Go.Proofs.Ytacifhahfamipaa.P Go.Proofs.Cl
set_option linter.unusedVariables false
section
variable {u : List (List Int)} {nt : List Int}
def cp (u : List (List Int)) (nt : List Int) (a b : Nat) : Bool := decide (withB u nt a b ∧ withB u nt b a)
end
theorem spec_ring_eq (a : Int) : spec_RingOf.f a = some (ringF a) := by
  unfold spec_RingOf.f ringF
  by_cases h : a = 6
  · rw [if_pos h, if_pos h]
    rfl
  · rw [if_neg h, if_neg h]
theorem Ev.clos_ {α : Type} {f : Nat → Option α} {r : α} (n : Nat) (h : ∀ k, f (k + n) = some r) : Ev f r :=
  ⟨n, fun k hk => by
    have := h (k - n)
    rwa [Nat.sub_add_cancel hk] at this⟩
theorem spec_sets_ev (a : Int) : Ev (fun k => spec_SetsOf.f k a) (setsF a) := by
  by_cases h : 0 ≤ a ∧ a ≤ 3
  · have : a = 0 ∨ a = 1 ∨ a = 2 ∨ a = 3 := by omega
    rcases this with rfl | rfl | rfl | rfl
    · exact Ev.clos_ 200 (fun k => by kernel_rfl)
    · exact Ev.clos_ 200 (fun k => by kernel_rfl)
    · exact Ev.clos_ 200 (fun k => by kernel_rfl)
    · exact Ev.clos_ 200 (fun k => by kernel_rfl)
  · unfold setsF
    rw [if_neg h]
    unfold spec_SetsOf.f
    refine Ev.bindc (a := false) ?_ (Ev.ff rfl (Ev.ret rfl))
    unfold spec_l1In.f
    by_cases k : a ≥ 0
    · rw [if_pos k]
      have : ¬ a ≤ 3 := fun q => h ⟨k, q⟩
      simp [this]
    · rw [if_neg k]
end Go.Proofs.Ytacifhahfamipaa.Q


namespace Go.Proofs.Ytacifhahfamipaa.Q
open Go.RowKit Go.Proofs.YtacifhahfamipaaW.PrintWords Go.Proofs.YtacifhahfamipaaW.PrintLast Go.Proofs.YtacifhahfamipaaW.PrintMore Go.Proofs.Ytacifhahfamipaa.P Go.Proofs.Cl
set_option linter.unusedVariables false
theorem Ev.det {α : Type} {f : Nat → Option α} {a b : α} (n : Nat) (h : Ev f a) (k : ∀ m, f (m + n) = some b) : a = b := by
  obtain ⟨K, hK⟩ := h
  have h1 := hK (K + n) (by omega)
  rw [k K] at h1
  exact (Option.some.inj h1).symm
theorem ring_logic : logicF (ringF 6).1 (ringF 6).2.1 = true := Ev.det 1500 (spec_logic_ev _ _) (fun m => by kernel_rfl)
theorem sets_logic0 : logicF (setsF 0).1 (setsF 0).2.1 = true := Ev.det 1500 (spec_logic_ev _ _) (fun m => by kernel_rfl)
theorem sets_logic1 : logicF (setsF 1).1 (setsF 1).2.1 = true := Ev.det 1500 (spec_logic_ev _ _) (fun m => by kernel_rfl)
theorem sets_logic2 : logicF (setsF 2).1 (setsF 2).2.1 = true := Ev.det 1500 (spec_logic_ev _ _) (fun m => by kernel_rfl)
theorem sets_logic3 : logicF (setsF 3).1 (setsF 3).2.1 = true := Ev.det 1500 (spec_logic_ev _ _) (fun m => by kernel_rfl)
end Go.Proofs.Ytacifhahfamipaa.Q


namespace Go.Proofs.Ytacifhahfamipaa.Q
open Go.RowKit Go.Proofs.YtacifhahfamipaaW.PrintWords Go.Proofs.YtacifhahfamipaaW.PrintLast Go.Proofs.YtacifhahfamipaaW.PrintMore Go.Proofs.Ytacifhahfamipaa.P Go.Proofs.Cl
set_option linter.unusedVariables false

end Go.Proofs.Ytacifhahfamipaa.Q


namespace Go.Proofs.Ytacifhahfamipaa.Q
open Go.RowKit Go.Proofs.YtacifhahfamipaaW.PrintWords Go.Proofs.YtacifhahfamipaaW.PrintLast Go.Proofs.YtacifhahfamipaaW.PrintMore Go.Proofs.Ytacifhahfamipaa.P Go.Proofs.Cl
set_option linter.unusedVariables false

theorem alive_ev : Ev (fun k => laws_alive.f k) true := by
  unfold laws_alive.f
  refine Ev.bind (impl_ord _) ?_
  refine Ev.tt (by decide) ?_
  refine Ev.bind (impl_ord _) ?_
  exact Ev.ret (by decide)
end Go.Proofs.Ytacifhahfamipaa.Q


namespace Go.Proofs.Ytacifhahfamipaa.Q
open Go.RowKit Go.Proofs.YtacifhahfamipaaW.PrintWords Go.Proofs.YtacifhahfamipaaW.PrintLast Go.Proofs.YtacifhahfamipaaW.PrintMore Go.Proofs.Ytacifhahfamipaa.P Go.Proofs.Cl
set_option linter.unusedVariables false
theorem FnRingOf_pure : laws_FnRingOf.Pure := by
  intro code _ _ hw
  refine Ev.rounds ?_
  unfold laws_FnRingOf.f
  by_cases hl : (code.length : Int) > 1048576
  · exact Ev.pos hl (Ev.ret rfl)
  · refine Ev.neg hl ?_
    obtain ⟨b, ho, hb, hl2⟩ := open_eq (bytes_of_wf hw)
    obtain ⟨v, hv, v0, v1⟩ := pick_ev hb hl2 (show (0 : Int) ≤ 0 by omega) (by omega) 4
    have hd : Ev (fun k => spec_DrawRingOf.f k code) (wrap64 (4 + v)) := by
      unfold spec_DrawRingOf.f
      rw [ho]
      exact Ev.bind (Ev.now _) (Ev.bind hv (Ev.ret rfl))
    refine Ev.bind hd (Ev.bindc (a := ringF (wrap64 (4 + v))) rfl (Ev.bindc (spec_ring_eq _) ?_))
    by_cases e : wrap64 (4 + v) = 6
    · rw [e]
      refine Ev.bind (a := true) (Ev.clos 1500 (fun k => by kernel_rfl)) (Ev.pos rfl ?_)
      refine Ev.step (fun k => laws_FnRingOf.j0.eq_2 ..) (Ev.ff (by kernel_rfl) (Ev.tt (by kernel_rfl) ?_))
      refine Ev.bindc (a := true) (congrArg some ring_logic) (Ev.pos rfl (Ev.bind (a := [1, 3]) (Ev.clos 1500 (fun k => by kernel_rfl)) (Ev.pos (by decide) (Ev.ret (by kernel_rfl)))))
    · have r0 : ringF (wrap64 (4 + v)) = ([], [], false) := if_neg e
      rw [r0]
      refine Ev.bind (a := true) (Ev.clos 1500 (fun k => by kernel_rfl)) (Ev.pos rfl ?_)
      refine Ev.step (fun k => laws_FnRingOf.j0.eq_2 ..) (Ev.ff (by kernel_rfl) (Ev.ff (by kernel_rfl) ?_))
      exact Ev.bind (a := true) (Ev.clos 1500 (fun k => by kernel_rfl)) (Ev.pos rfl (Ev.bind alive_ev (Ev.ret rfl)))
theorem FnSetsOf_pure : laws_FnSetsOf.Pure := by
  intro code _ _ hw
  refine Ev.rounds ?_
  unfold laws_FnSetsOf.f
  by_cases hl : (code.length : Int) > 1048576
  · exact Ev.pos hl (Ev.ret rfl)
  · refine Ev.neg hl ?_
    obtain ⟨b, ho, hb, hl2⟩ := open_eq (bytes_of_wf hw)
    obtain ⟨v, hv, v0, v1⟩ := pick_ev hb hl2 (show (0 : Int) ≤ 0 by omega) (by omega) 6
    have hd : Ev (fun k => spec_DrawSetsOf.f k code) (wrap64 (v - 1)) := by
      unfold spec_DrawSetsOf.f
      rw [ho]
      exact Ev.bind (Ev.now _) (Ev.bind hv (Ev.ret rfl))
    refine Ev.bind hd (Ev.bindc (a := setsF (wrap64 (v - 1))) rfl (Ev.bind (spec_sets_ev _) ?_))
    by_cases e : 0 ≤ wrap64 (v - 1) ∧ wrap64 (v - 1) ≤ 3
    · have : wrap64 (v - 1) = 0 ∨ wrap64 (v - 1) = 1 ∨ wrap64 (v - 1) = 2 ∨ wrap64 (v - 1) = 3 := by omega
      rcases this with h | h | h | h
      · rw [h]
        refine Ev.bind (a := true) (Ev.clos 1500 (fun k => by kernel_rfl)) (Ev.pos rfl ?_)
        refine Ev.step (fun k => laws_FnSetsOf.j0.eq_2 ..) (Ev.ff (by kernel_rfl) (Ev.tt (by kernel_rfl) ?_))
        exact Ev.bindc (a := true) (congrArg some sets_logic0) (Ev.pos rfl (Ev.bind (a := []) (Ev.clos 1500 (fun k => by kernel_rfl)) (Ev.pos (by decide) (Ev.pos (by decide) (Ev.ret (by kernel_rfl))))))
      · rw [h]
        refine Ev.bind (a := true) (Ev.clos 1500 (fun k => by kernel_rfl)) (Ev.pos rfl ?_)
        refine Ev.step (fun k => laws_FnSetsOf.j0.eq_2 ..) (Ev.ff (by kernel_rfl) (Ev.tt (by kernel_rfl) ?_))
        exact Ev.bindc (a := true) (congrArg some sets_logic1) (Ev.pos rfl (Ev.bind (a := [1]) (Ev.clos 1500 (fun k => by kernel_rfl)) (Ev.pos (by decide) (Ev.pos (by decide) (Ev.ret (by kernel_rfl))))))
      · rw [h]
        refine Ev.bind (a := true) (Ev.clos 1500 (fun k => by kernel_rfl)) (Ev.pos rfl ?_)
        refine Ev.step (fun k => laws_FnSetsOf.j0.eq_2 ..) (Ev.ff (by kernel_rfl) (Ev.tt (by kernel_rfl) ?_))
        exact Ev.bindc (a := true) (congrArg some sets_logic2) (Ev.pos rfl (Ev.bind (a := [1, 2]) (Ev.clos 1500 (fun k => by kernel_rfl)) (Ev.pos (by decide) (Ev.pos (by decide) (Ev.ret (by kernel_rfl))))))
      · rw [h]
        refine Ev.bind (a := true) (Ev.clos 1500 (fun k => by kernel_rfl)) (Ev.pos rfl ?_)
        refine Ev.step (fun k => laws_FnSetsOf.j0.eq_2 ..) (Ev.ff (by kernel_rfl) (Ev.tt (by kernel_rfl) ?_))
        exact Ev.bindc (a := true) (congrArg some sets_logic3) (Ev.pos rfl (Ev.bind (a := [1, 2, 4]) (Ev.clos 1500 (fun k => by kernel_rfl)) (Ev.pos (by decide) (Ev.pos (by decide) (Ev.ret (by kernel_rfl))))))
    · have r0 : setsF (wrap64 (v - 1)) = ([], [], false) := if_neg e
      rw [r0]
      refine Ev.bind (a := true) (Ev.clos 1500 (fun k => by kernel_rfl)) (Ev.pos rfl ?_)
      refine Ev.step (fun k => laws_FnSetsOf.j0.eq_2 ..) (Ev.ff (by kernel_rfl) (Ev.ff (by kernel_rfl) ?_))
      exact Ev.bind (a := true) (Ev.clos 1500 (fun k => by kernel_rfl)) (Ev.pos rfl (Ev.bind alive_ev (Ev.ret rfl)))
end Go.Proofs.Ytacifhahfamipaa.Q

