/- 29 texts of this seat joined: walks, and the laws of what they compute. -/
import Derived.Test.YtlkibgccgkhdmaaPk2
import Derived.Deep.Matrix
import Derived.SizedLaws
namespace Go.Proofs.OlT

structure OL (α : Type) where
 le : α → α → Prop
 meet : α → α → α
 join : α → α → α
 neg : α → α
 bot : α
 refl : ∀ a, le a a
 trans : ∀ {a b c}, le a b → le b c → le a c
 anti : ∀ {a b}, le a b → le b a → a = b
 ml : ∀ a b, le (meet a b) a
 mr : ∀ a b, le (meet a b) b
 mg : ∀ {a b c}, le c a → le c b → le c (meet a b)
 jl : ∀ a b, le a (join a b)
 jr : ∀ a b, le b (join a b)
 jg : ∀ {a b c}, le a c → le b c → le (join a b) c
 nn : ∀ a, neg (neg a) = a
 na : ∀ {a b}, le a b → le (neg b) (neg a)
 bl : ∀ a, le bot a
 mn : ∀ a, meet a (neg a) = bot

namespace OL
variable {α : Type} (L : OL α)

theorem na_l {a b : α} (h : L.le (L.neg a) b) : L.le (L.neg b) a := by
 have h := L.na h
 rwa [L.nn] at h
theorem na_r {a b : α} (h : L.le a (L.neg b)) : L.le b (L.neg a) := by
 have h := L.na h
 rwa [L.nn] at h
theorem meet_comm (a b : α) : L.meet a b = L.meet b a :=
 L.anti (L.mg (L.mr a b) (L.ml a b)) (L.mg (L.mr b a) (L.ml b a))
theorem meet_mono {a b c d : α} (h : L.le a c) (k : L.le b d) : L.le (L.meet a b) (L.meet c d) :=
 L.mg (L.trans (L.ml _ _) h) (L.trans (L.mr _ _) k)
theorem neg_meet (a b : α) : L.neg (L.meet a b) = L.join (L.neg a) (L.neg b) := by
 refine L.anti ?_ (L.jg (L.na (L.ml _ _)) (L.na (L.mr _ _)))
 exact L.na_l (L.mg (L.na_l (L.jl _ _)) (L.na_l (L.jr _ _)))
theorem neg_join (a b : α) : L.neg (L.join a b) = L.meet (L.neg a) (L.neg b) := by
 refine L.anti (L.mg (L.na (L.jl _ _)) (L.na (L.jr _ _))) ?_
 exact L.na_r (L.jg (L.na_r (L.ml _ _)) (L.na_r (L.mr _ _)))
def C (a b : α) : Prop := L.join (L.meet a b) (L.meet a (L.neg b)) = a
def OM : Prop := ∀ a b, L.le a b → L.join a (L.meet b (L.neg a)) = b
variable {L}
theorem OM.symm (h : L.OM) {a b : α} (hc : L.C a b) : L.C b a := by
 have e : L.neg a = L.meet (L.join (L.neg a) (L.neg b)) (L.join (L.neg a) b) := by
  have h1 := congrArg L.neg hc
  rw [L.neg_join, L.neg_meet, L.neg_meet, L.nn] at h1
  exact h1.symm
 have e2 : L.meet b (L.neg a) = L.meet b (L.neg (L.meet a b)) := by
  rw [L.neg_meet]
  refine L.anti (L.meet_mono (L.refl _) (L.jl _ _)) ?_
  refine L.mg (L.ml _ _) ?_
  have k : L.le (L.meet b (L.join (L.neg a) (L.neg b))) (L.meet (L.join (L.neg a) (L.neg b)) (L.join (L.neg a) b)) := L.mg (L.mr _ _) (L.trans (L.ml _ _) (L.jr _ _))
  rw [← e] at k
  exact k
 have h2 := h (L.meet a b) b (L.mr _ _)
 rw [← e2] at h2
 unfold C
 rw [L.meet_comm b a]
 exact h2
end OL
end Go.Proofs.OlT

namespace Go.Proofs.Ytlkibgccgkhdmaa.Q
open Go.RowKit Go.Proofs.YtlkibgccgkhdmaaW.PrintWords Go.Proofs.YtlkibgccgkhdmaaW.PrintLast Go.Proofs.YtlkibgccgkhdmaaW.PrintMore Go.Proofs.Ytlkibgccgkhdmaa.P Go.Proofs.Cl Go.Proofs.OlT
set_option linter.unusedVariables false
section
variable {u : List (List Int)} {nt : List Int}
def toF (h : Go.Proofs.Ytlkibgccgkhdmaa.P.OL u nt) : OlT.OL (Fin u.length) where
 le a b := rdN u a b = 1
 meet a b := ⟨(meetI u a b).toNat, by obtain ⟨c, e, k⟩ := h.1.meet a.2 b.2; rw [e]; exact k.1⟩
 join a b := ⟨(joinI u a b).toNat, by obtain ⟨c, e, k⟩ := h.1.join a.2 b.2; rw [e]; exact k.1⟩
 neg a := ⟨(rd nt (a : Nat)).toNat, by have := (h.2.2.1 a a.2).1; omega⟩
 bot := ⟨(leastI u).toNat, by obtain ⟨m, e, k, _⟩ := h.1.least; rw [e]; exact k⟩
 refl a := h.1.1.refl a.2
 trans {a b c} k l := h.1.1.trans a.2 b.2 c.2 k l
 anti {a b} k l := Fin.ext (h.1.1.anti a.2 b.2 k l)
 ml a b := by obtain ⟨c, e, k⟩ := h.1.meet a.2 b.2; show rdN u (meetI u a b).toNat a = 1; rw [e]; exact k.2.1
 mr a b := by obtain ⟨c, e, k⟩ := h.1.meet a.2 b.2; show rdN u (meetI u a b).toNat b = 1; rw [e]; exact k.2.2.1
 mg {a b c} k l := by obtain ⟨d, e, m⟩ := h.1.meet a.2 b.2; show rdN u c (meetI u a b).toNat = 1; rw [e]; exact m.2.2.2 c c.2 k l
 jl a b := by obtain ⟨c, e, k⟩ := h.1.join a.2 b.2; show rdN u a (joinI u a b).toNat = 1; rw [e]; exact k.2.1
 jr a b := by obtain ⟨c, e, k⟩ := h.1.join a.2 b.2; show rdN u b (joinI u a b).toNat = 1; rw [e]; exact k.2.2.1
 jg {a b c} k l := by obtain ⟨d, e, m⟩ := h.1.join a.2 b.2; show rdN u (joinI u a b).toNat c = 1; rw [e]; exact m.2.2.2 c c.2 k l
 nn a := by
  have k := h.2.2.1 a a.2
  refine Fin.ext ?_
  show (rd nt (((rd nt (a : Nat)).toNat : Nat) : Int)).toNat = a
  rw [Int.toNat_of_nonneg k.1.1, k.2.1]
  rfl
 na {a b} k := h.2.2.2 a a.2 b b.2 k
 bl a := by obtain ⟨m, e, k, l⟩ := h.1.least; show rdN u (leastI u).toNat a = 1; rw [e]; exact l a a.2
 mn a := Fin.ext (by show (meetI u a (rd nt (a : Nat)).toNat).toNat = (leastI u).toNat; rw [(h.2.2.1 a a.2).2.2])
def fi (a : Int) (k : 0 ≤ a ∧ a < u.length) : Fin u.length := ⟨a.toNat, by omega⟩
variable (h : Go.Proofs.Ytlkibgccgkhdmaa.P.OL u nt)
theorem ng_F {a : Int} (ka : 0 ≤ a ∧ a < u.length) : rd nt a = (((toF h).neg (fi a ka) : Fin u.length) : Int) := by
 have k := (h.2.2.1 a.toNat (by omega)).1
 show rd nt a = ((rd nt ((a.toNat : Nat) : Int)).toNat : Int)
 rw [Int.toNat_of_nonneg ka.1] at k ⊢
 omega
theorem ng_in (h : Go.Proofs.Ytlkibgccgkhdmaa.P.OL u nt) {a : Int} (ka : 0 ≤ a ∧ a < u.length) : 0 ≤ rd nt a ∧ rd nt a < u.length := by
 rw [ng_F h ka]; have := ((toF h).neg (fi a ka)).2; omega
end
end Go.Proofs.Ytlkibgccgkhdmaa.Q

namespace Go.Proofs.Ytlkibgccgkhdmaa.Q
open Go.RowKit Go.Proofs.YtlkibgccgkhdmaaW.PrintWords Go.Proofs.YtlkibgccgkhdmaaW.PrintLast Go.Proofs.YtlkibgccgkhdmaaW.PrintMore Go.Proofs.Ytlkibgccgkhdmaa.P Go.Proofs.Cl
set_option linter.unusedVariables false

theorem Ev.pos {α : Type} {c : Prop} [Decidable c] {f g : Nat → Option α} {r : α} (h : c) (H : Ev f r) : Ev (fun k => if c then f k else g k) r := by
 simp only [if_pos h]
 exact H
theorem Ev.neg {α : Type} {c : Prop} [Decidable c] {f g : Nat → Option α} {r : α} (h : ¬ c) (H : Ev g r) : Ev (fun k => if c then f k else g k) r := by
 simp only [if_neg h]
 exact H
theorem Ev.tt {α : Type} {b : Bool} {f g : Nat → Option α} {r : α} (h : b = true) (H : Ev f r) : Ev (fun k => if b = true then f k else g k) r := Ev.pos h H
theorem Ev.ff {α : Type} {b : Bool} {f g : Nat → Option α} {r : α} (h : b = false) (H : Ev g r) : Ev (fun k => if b = true then f k else g k) r := Ev.neg (by rw [h]; exact Bool.false_ne_true) H
theorem Ev.ret {α : Type} {a r : α} (h : a = r) : Ev (fun _ => some a) r := h ▸ Ev.now a
theorem Ev.bindc {α β : Type} {o : Option α} {f : Nat → α → Option β} {a : α} {r : β} (h : o = some a) (k : Ev (fun n => f n a) r) : Ev (fun n => o.bind (f n)) r := by
 subst h
 exact k
theorem Ev.to {α : Type} {f : Nat → Option α} {a r : α} (H : Ev f a) (h : a = r) : Ev f r := h ▸ H
theorem wrap_of (x : Int) (h0 : -9223372036854775808 ≤ x) (h1 : x ≤ 9223372036854775807) : wrap64 x = x := by
 unfold wrap64
 omega
theorem wrap_succ (i : Nat) (h : i < 4611686018427387904) : wrap64 ((i : Int) + 1) = ((i + 1 : Nat) : Int) := by
 rw [wrap_of _ (by omega) (by omega)]
 omega
theorem rd_nat (xs : List Int) (i : Nat) : rd xs (i : Int) = xs.getD i 0 := rfl
theorem row_nat (u : List (List Int)) (i : Nat) : rd_L1 u (i : Int) = u.getD i [] := rfl
theorem at_nat (u : List (List Int)) (i j : Nat) : rd (rd_L1 u (i : Int)) (j : Int) = rdN u i j := rfl
theorem set_step {α : Type} (xs : List α) (z : α) (i : Nat) (h : i < xs.length) : (xs.take i ++ List.replicate (xs.length - i) z).set i xs[i] = xs.take (i + 1) ++ List.replicate (xs.length - (i + 1)) z := by
 rw [show xs.length - i = (xs.length - (i + 1)) + 1 by omega, List.replicate_succ, List.set_append, if_neg (by rw [List.length_take]; omega)]
 rw [List.length_take, show i - min i xs.length = 0 by omega, List.set_cons_zero, List.take_succ_eq_append_getElem h, List.append_assoc]
 rfl
theorem nat_of {a : Int} {n : Nat} (h : 0 ≤ a ∧ a < n) : ∃ m : Nat, a = m ∧ m < n := ⟨a.toNat, by omega, by omega⟩
theorem rd_lt (xs : List Int) {i : Nat} (h : i < xs.length) : rd xs (i : Int) = xs[i] := by
 rw [rd_nat, List.getD_eq_getElem?_getD, List.getElem?_eq_getElem h, Option.getD_some]
theorem row_lt (u : List (List Int)) {i : Nat} (h : i < u.length) : rd_L1 u (i : Int) = u[i] := by
 rw [row_nat, List.getD_eq_getElem?_getD, List.getElem?_eq_getElem h, Option.getD_some]
theorem wrap_succ' (i : Nat) (h : i < 9223372036854775807) : wrap64 ((i : Int) + 1) = ((i + 1 : Nat) : Int) := by
 rw [wrap_of _ (by omega) (by omega)]
 omega

theorem l1In_eq (a b c : Int) : spec_l1In.f a b c = some (decide (b ≤ a ∧ a ≤ c)) := by
 unfold spec_l1In.f
 by_cases h : a ≥ b
 ·rw [if_pos h]
  congr 1
  rw [decide_eq_decide]
  exact ⟨fun k => ⟨h, k⟩, fun k => k.2⟩
 ·rw [if_neg h]
  congr 1
  symm
  rw [decide_eq_false_iff_not]
  exact fun k => h k.1

section
variable (u : List (List Int))
def p4 (a b c : Nat) : Bool := !(decide (rdN u a b = 1) && decide (rdN u b c = 1) && decide (rdN u a c = 0))
def p3 (a b : Nat) : Bool := !(if a = b then decide (rdN u a b = 0) else (decide (rdN u a b = 1) && decide (rdN u b a = 1))) && allF u.length (p4 u a b) 0
def p1 (a b : Nat) : Bool := decide (0 ≤ rdN u a b ∧ rdN u a b ≤ 1)
def p0 (a : Nat) : Bool := decide ((u.getD a []).length = u.length) && allF u.length (p1 u a) 0
variable {u}
variable (hn : u.length ≤ 12)
theorem so_l4 (hn : u.length ≤ 12) (HR : ∀ a, a < u.length → (rd_L1 u (a : Int)).length = u.length) {a b : Nat} (ha : a < u.length) (hb : b < u.length) {r : Bool}
    (H : Ev (fun k => spec_OrderOk.l3 k u u.length a ((b + 1 : Nat) : Int)) r) (c : Nat) (hc : c ≤ u.length) :
    Ev (fun k => spec_OrderOk.l4 k u u.length a b c) (allF u.length (p4 u a b) c && r) := by
  refine down u.length (fun c => Ev (fun k => spec_OrderOk.l4 k u u.length a b c) (allF u.length (p4 u a b) c && r)) ?_ ?_ c hc
  · refine Ev.step (fun k => spec_OrderOk.l4.eq_2 ..) ?_
    refine Ev.neg (by omega) ?_
    rw [allF_end (Nat.le_refl _), Bool.true_and, wrap_succ b (by omega)]
    exact H
  · intro c hc ih
    have h1 := HR a ha
    have h2 := HR b hb
    refine Ev.step (fun k => spec_OrderOk.l4.eq_2 ..) ?_
    repeat (refine Ev.pos (by omega) ?_)
    rw [allF_step hc, wrap_succ c (by omega)]
    by_cases k1 : rdN u a b = 1
    · refine Ev.pos k1 ?_
      repeat (refine Ev.pos (by omega) ?_)
      by_cases k2 : rdN u b c = 1
      · refine Ev.pos k2 ?_
        repeat (refine Ev.pos (by omega) ?_)
        by_cases k3 : rdN u a c = 0
        · refine Ev.pos k3 ?_
          exact Ev.ret (by simp [p4, k1, k2, k3])
        · refine Ev.neg k3 ?_
          exact Ev.to ih (by simp [p4, k3])
      · refine Ev.neg k2 ?_
        exact Ev.to ih (by simp [p4, k2])
    · refine Ev.neg k1 ?_
      exact Ev.to ih (by simp [p4, k1])
theorem so_l3 (hn : u.length ≤ 12) (HR : ∀ a, a < u.length → (rd_L1 u (a : Int)).length = u.length) {a : Nat} (ha : a < u.length) {r : Bool}
    (H : Ev (fun k => spec_OrderOk.l2 k u u.length ((a + 1 : Nat) : Int)) r) (b : Nat) (hb : b ≤ u.length) :
    Ev (fun k => spec_OrderOk.l3 k u u.length a b) (allF u.length (p3 u a) b && r) := by
  refine down u.length (fun b => Ev (fun k => spec_OrderOk.l3 k u u.length a b) (allF u.length (p3 u a) b && r)) ?_ ?_ b hb
  · refine Ev.step (fun k => spec_OrderOk.l3.eq_2 ..) ?_
    refine Ev.neg (by omega) ?_
    rw [allF_end (Nat.le_refl _), Bool.true_and, wrap_succ a (by omega)]
    exact H
  · intro b hb ih
    have h1 := HR a ha
    have h2 := HR b hb
    have key : ∀ x : Bool, Ev (fun k => spec_OrderOk.j4 k u u.length a b x) (!x && allF u.length (p4 u a b) 0 && allF u.length (p3 u a) (b + 1) && r) := by
      intro x
      refine Ev.step (fun k => spec_OrderOk.j4.eq_2 ..) ?_
      cases x with
      | true => exact Ev.pos rfl (Ev.ret (by simp))
      | false =>
        refine Ev.neg Bool.false_ne_true ?_
        exact Ev.to (so_l4 hn HR ha hb ih 0 (Nat.zero_le _)) (by simp [Bool.and_assoc])
    refine Ev.step (fun k => spec_OrderOk.l3.eq_2 ..) ?_
    refine Ev.pos (by omega) ?_
    rw [allF_step hb]
    by_cases e : a = b
    · refine Ev.pos (by omega) ?_
      repeat (refine Ev.pos (by omega) ?_)
      by_cases k1 : rdN u a b = 0
      · exact Ev.pos k1 (Ev.to (key true) (by rw [p3, if_pos e, decide_eq_true k1]))
      · exact Ev.neg k1 (Ev.to (key false) (by rw [p3, if_pos e, decide_eq_false k1]))
    · refine Ev.neg (by omega) ?_
      repeat (refine Ev.pos (by omega) ?_)
      by_cases k1 : rdN u a b = 1
      · refine Ev.pos k1 ?_
        repeat (refine Ev.pos (by omega) ?_)
        refine Ev.to (key _) ?_
        rw [p3, if_neg e, decide_eq_true k1, Bool.true_and]
        rfl
      · refine Ev.neg k1 (Ev.to (key false) ?_)
        rw [p3, if_neg e, decide_eq_false k1, Bool.false_and]
theorem so_l2 (hn : u.length ≤ 12) (HR : ∀ a, a < u.length → (rd_L1 u (a : Int)).length = u.length) (a : Nat) (ha : a ≤ u.length) :
    Ev (fun k => spec_OrderOk.l2 k u u.length a) (allF u.length (fun a => allF u.length (p3 u a) 0) a) := by
  refine down u.length (fun a => Ev (fun k => spec_OrderOk.l2 k u u.length a) (allF u.length (fun a => allF u.length (p3 u a) 0) a)) ?_ ?_ a ha
  · refine Ev.step (fun k => spec_OrderOk.l2.eq_2 ..) ?_
    refine Ev.neg (by omega) ?_
    exact Ev.ret (allF_end (Nat.le_refl _)).symm
  · intro a ha ih
    refine Ev.step (fun k => spec_OrderOk.l2.eq_2 ..) ?_
    refine Ev.pos (by omega) ?_
    rw [allF_step ha]
    exact so_l3 hn HR ha ih 0 (Nat.zero_le _)
theorem so_l1 (hn : u.length ≤ 12) {a : Nat} (ha : a < u.length) (HR : (rd_L1 u (a : Int)).length = u.length) {r : Bool}
    (H : Ev (fun k => spec_OrderOk.l0 k u u.length ((a + 1 : Nat) : Int)) r) (b : Nat) (hb : b ≤ u.length) :
    Ev (fun k => spec_OrderOk.l1 k u u.length a b) (allF u.length (p1 u a) b && r) := by
  refine down u.length (fun b => Ev (fun k => spec_OrderOk.l1 k u u.length a b) (allF u.length (p1 u a) b && r)) ?_ ?_ b hb
  · refine Ev.step (fun k => spec_OrderOk.l1.eq_2 ..) ?_
    refine Ev.neg (by omega) ?_
    rw [allF_end (Nat.le_refl _), Bool.true_and, wrap_succ a (by omega)]
    exact H
  · intro b hb ih
    refine Ev.step (fun k => spec_OrderOk.l1.eq_2 ..) ?_
    repeat (refine Ev.pos (by omega) ?_)
    refine Ev.bindc (l1In_eq _ _ _) ?_
    rw [allF_step hb, wrap_succ b (by omega)]
    cases hp : p1 u a b with
    | true => exact Ev.tt hp (Ev.to ih (by simp))
    | false => exact Ev.ff hp (Ev.ret (by simp))
theorem so_l0 (hn : u.length ≤ 12) (a : Nat) (ha : a ≤ u.length) : (∀ c, c < a → (rd_L1 u (c : Int)).length = u.length) →
    Ev (fun k => spec_OrderOk.l0 k u u.length a) (allF u.length (p0 u) a && allF u.length (fun a => allF u.length (p3 u a) 0) 0) := by
  refine down u.length (fun a => (∀ c, c < a → (rd_L1 u (c : Int)).length = u.length) →
    Ev (fun k => spec_OrderOk.l0 k u u.length a) (allF u.length (p0 u) a && allF u.length (fun a => allF u.length (p3 u a) 0) 0)) ?_ ?_ a ha
  · intro HR
    refine Ev.step (fun k => spec_OrderOk.l0.eq_2 ..) ?_
    refine Ev.neg (by omega) ?_
    rw [allF_end (Nat.le_refl _), Bool.true_and]
    exact so_l2 hn HR 0 (Nat.zero_le _)
  · intro a ha ih HR
    refine Ev.step (fun k => spec_OrderOk.l0.eq_2 ..) ?_
    repeat (refine Ev.pos (by omega) ?_)
    rw [allF_step ha]
    by_cases e : (rd_L1 u (a : Int)).length = u.length
    · refine Ev.pos (by omega) ?_
      have k := so_l1 hn ha e (ih (fun c hc => by
        by_cases e2 : c = a
        · rw [e2]; exact e
        · exact HR c (by omega))) 0 (Nat.zero_le _)
      refine Ev.to k ?_
      rw [p0, decide_eq_true (show (u.getD a []).length = u.length from e), Bool.true_and, Bool.and_assoc]
    · refine Ev.neg (by omega) ?_
      refine Ev.ret ?_
      rw [p0, decide_eq_false (show ¬ (u.getD a []).length = u.length from e)]
      simp
end
theorem ord_of_loops (u : List (List Int)) (h1 : 1 ≤ u.length) (h2 : u.length ≤ 12) :
    (allF u.length (p0 u) 0 && allF u.length (fun a => allF u.length (p3 u a) 0) 0) = decide (Ord u) := by
  rw [Bool.eq_iff_iff, Bool.and_eq_true, allF0, allF0, decide_eq_true_iff]
  constructor
  · intro ⟨k0, k3⟩
    have rows : ∀ a, a < u.length → (u.getD a []).length = u.length := fun a ha => by
      have := k0 a ha
      rw [p0, Bool.and_eq_true] at this
      exact of_decide_eq_true this.1
    have bits : ∀ a, a < u.length → ∀ b, b < u.length → rdN u a b = 0 ∨ rdN u a b = 1 := fun a ha b hb => by
      have := k0 a ha
      rw [p0, Bool.and_eq_true, allF0] at this
      have := of_decide_eq_true (this.2 b hb)
      omega
    have ps : ∀ a, a < u.length → ∀ b, b < u.length → p3 u a b = true := fun a ha b hb => allF0.1 (k3 a ha) b hb
    refine ⟨h1, h2, rows, bits, ?_, ?_, ?_⟩
    · intro a ha
      have := ps a ha a ha
      rw [p3, if_pos rfl, Bool.and_eq_true, Bool.not_eq_true', decide_eq_false_iff_not] at this
      rcases bits a ha a ha with k | k
      · exact absurd k this.1
      · exact k
    · intro a ha b hb k l
      have := ps a ha b hb
      by_cases e : a = b
      · exact e
      · rw [p3, if_neg e, k, l] at this
        simp at this
    · intro a ha b hb c hc k l
      have := ps a ha b hb
      rw [p3, Bool.and_eq_true, allF0] at this
      have := this.2 c hc
      rcases bits a ha c hc with m | m
      · rw [p4, k, l, m] at this
        simp at this
      · exact m
  · intro h
    refine ⟨fun a ha => ?_, fun a ha => allF0.2 fun b hb => ?_⟩
    · rw [p0, Bool.and_eq_true, allF0]
      refine ⟨decide_eq_true (h.row ha), fun b hb => decide_eq_true ?_⟩
      have := h.bit ha hb
      omega
    · rw [p3, Bool.and_eq_true, allF0]
      constructor
      · by_cases e : a = b
        · subst e
          rw [if_pos rfl, h.refl ha]
          rfl
        · rw [if_neg e, Bool.not_eq_true', Bool.and_eq_false_iff, decide_eq_false_iff_not, decide_eq_false_iff_not]
          by_cases k : rdN u a b = 1
          · exact .inr fun l => e (h.anti ha hb k l)
          · exact .inl k
      · intro c hc
        rw [p4, Bool.not_eq_true']
        by_cases k : rdN u a b = 1
        · by_cases l : rdN u b c = 1
          · rw [h.trans ha hb hc k l]
            simp
          · simp [l]
        · simp [k]
theorem spec_ord (u : List (List Int)) : Ev (fun k => spec_OrderOk.f k u) (decide (Ord u)) := by
 unfold spec_OrderOk.f
 refine Ev.bindc (l1In_eq _ _ _) ?_
 by_cases h : 1 ≤ u.length ∧ u.length ≤ 12
 ·refine Ev.tt (decide_eq_true (by omega)) ?_
  exact Ev.to (so_l0 h.2 0 (Nat.zero_le _) (fun c hc => by omega)) (ord_of_loops u h.1 h.2)
 ·refine Ev.ff (decide_eq_false (by omega)) ?_
  exact Ev.ret (decide_eq_false (fun k => h ⟨k.1, k.2.1⟩)).symm

section
variable (u : List (List Int))
def q4 (a b c : Nat) : Bool := !(decide (rdN u a b = 1) && decide (rdN u b c = 1) && !decide (rdN u a c = 1))
def q1 (a b : Nat) : Bool := (decide (rdN u a b = 0) || decide (rdN u a b = 1)) && decide ((u.getD b []).length = u.length) && !(decide (rdN u a b = 1) && !decide (a = b) && decide (rdN u b a = 1))
def q0 (a : Nat) : Bool := decide ((u.getD a []).length = u.length) && decide (rdN u a a = 1) && allF u.length (q1 u a) 0
variable {u}
theorem io_l4 (hn : u.length ≤ 12) (HR : ∀ a, a < u.length → (rd_L1 u (a : Int)).length = u.length) {a b : Nat} (ha : a < u.length) (hb : b < u.length) {r : Bool}
    (H : Ev (fun k => impl_OrderOk.l3 k u u.length a u.length a u.length ((b + 1 : Nat) : Int)) r) (c : Nat) (hc : c ≤ u.length) :
    Ev (fun k => impl_OrderOk.l4 k u u.length a b u.length a u.length b u.length c) (allF u.length (q4 u a b) c && r) := by
  refine down u.length (fun c => Ev (fun k => impl_OrderOk.l4 k u u.length a b u.length a u.length b u.length c) (allF u.length (q4 u a b) c && r)) ?_ ?_ c hc
  · refine Ev.step (fun k => impl_OrderOk.l4.eq_2 ..) ?_
    refine Ev.neg (by omega) ?_
    rw [allF_end (Nat.le_refl _), Bool.true_and, wrap_succ b (by omega)]
    exact H
  · intro c hc ih
    have h1 := HR a ha
    have h2 := HR b hb
    refine Ev.step (fun k => impl_OrderOk.l4.eq_2 ..) ?_
    repeat (refine Ev.pos (by omega) ?_)
    rw [allF_step hc, wrap_succ c (by omega)]
    by_cases k1 : rdN u a b = 1
    · refine Ev.pos k1 ?_
      repeat (refine Ev.pos (by omega) ?_)
      by_cases k2 : rdN u b c = 1
      · refine Ev.pos k2 ?_
        repeat (refine Ev.pos (by omega) ?_)
        by_cases k3 : rdN u a c = 1
        · refine Ev.pos k3 ?_
          exact Ev.to ih (by simp [q4, k3])
        · refine Ev.neg k3 ?_
          exact Ev.ret (by simp [q4, k1, k2, k3])
      · refine Ev.neg k2 ?_
        exact Ev.to ih (by simp [q4, k2])
    · refine Ev.neg k1 ?_
      exact Ev.to ih (by simp [q4, k1])
theorem io_l3 (hn : u.length ≤ 12) (HR : ∀ a, a < u.length → (rd_L1 u (a : Int)).length = u.length) {a : Nat} (ha : a < u.length) {r : Bool}
    (H : Ev (fun k => impl_OrderOk.l2 k u u.length u.length ((a + 1 : Nat) : Int)) r) (b : Nat) (hb : b ≤ u.length) :
    Ev (fun k => impl_OrderOk.l3 k u u.length a u.length a u.length b) (allF u.length (fun b => allF u.length (q4 u a b) 0) b && r) := by
  refine down u.length (fun b => Ev (fun k => impl_OrderOk.l3 k u u.length a u.length a u.length b) (allF u.length (fun b => allF u.length (q4 u a b) 0) b && r)) ?_ ?_ b hb
  · refine Ev.step (fun k => impl_OrderOk.l3.eq_2 ..) ?_
    refine Ev.neg (by omega) ?_
    rw [allF_end (Nat.le_refl _), Bool.true_and, wrap_succ a (by omega)]
    exact H
  · intro b hb ih
    refine Ev.step (fun k => impl_OrderOk.l3.eq_2 ..) ?_
    refine Ev.pos (by omega) ?_
    rw [allF_step hb, Bool.and_assoc]
    exact io_l4 hn HR ha hb ih 0 (Nat.zero_le _)
theorem io_l2 (hn : u.length ≤ 12) (HR : ∀ a, a < u.length → (rd_L1 u (a : Int)).length = u.length) (a : Nat) (ha : a ≤ u.length) :
    Ev (fun k => impl_OrderOk.l2 k u u.length u.length a) (allF u.length (fun a => allF u.length (fun b => allF u.length (q4 u a b) 0) 0) a) := by
  refine down u.length (fun a => Ev (fun k => impl_OrderOk.l2 k u u.length u.length a) (allF u.length (fun a => allF u.length (fun b => allF u.length (q4 u a b) 0) 0) a)) ?_ ?_ a ha
  · refine Ev.step (fun k => impl_OrderOk.l2.eq_2 ..) ?_
    refine Ev.neg (by omega) ?_
    exact Ev.ret (allF_end (Nat.le_refl _)).symm
  · intro a ha ih
    refine Ev.step (fun k => impl_OrderOk.l2.eq_2 ..) ?_
    refine Ev.pos (by omega) ?_
    rw [allF_step ha]
    exact io_l3 hn HR ha ih 0 (Nat.zero_le _)
theorem io_l1 (hn : u.length ≤ 12) {a : Nat} (ha : a < u.length) (h1 : (rd_L1 u (a : Int)).length = u.length) {r : Bool}
    (H : Ev (fun k => impl_OrderOk.l0 k u u.length u u.length ((a + 1 : Nat) : Int)) r) (b : Nat) (hb : b ≤ u.length) :
    Ev (fun k => impl_OrderOk.l1 k u u.length a u u.length a (rd_L1 u (a : Int)) u.length b) (allF u.length (q1 u a) b && r) := by
  refine down u.length (fun b => Ev (fun k => impl_OrderOk.l1 k u u.length a u u.length a (rd_L1 u (a : Int)) u.length b) (allF u.length (q1 u a) b && r)) ?_ ?_ b hb
  · refine Ev.step (fun k => impl_OrderOk.l1.eq_2 ..) ?_
    refine Ev.neg (by omega) ?_
    rw [allF_end (Nat.le_refl _), Bool.true_and, wrap_succ a (by omega)]
    exact H
  · intro b hb ih
    have key : ∀ x : Bool, x = !(decide (rdN u a b = 0) || decide (rdN u a b = 1)) → Ev (fun k => impl_OrderOk.j4 k u u.length a b (rd (rd_L1 u (a : Int)) (b : Int)) u u.length a (rd_L1 u (a : Int)) u.length b x) (q1 u a b && allF u.length (q1 u a) (b + 1) && r) := by
      intro x hx
      refine Ev.step (fun k => impl_OrderOk.j4.eq_2 ..) ?_
      have hx' : (decide (rdN u a b = 0) || decide (rdN u a b = 1)) = !x := by rw [hx, Bool.not_not]
      cases x with
      | true => exact Ev.pos rfl (Ev.ret (by simp [q1, hx']))
      | false =>
        refine Ev.neg Bool.false_ne_true ?_
        repeat (refine Ev.pos (by omega) ?_)
        by_cases k1 : (rd_L1 u (b : Int)).length = u.length
        · refine Ev.pos (by omega) ?_
          have k1' : (u.getD b []).length = u.length := k1
          rw [wrap_succ b (by omega)]
          by_cases k2 : rdN u a b = 1
          · refine Ev.pos k2 ?_
            by_cases e : a = b
            · refine Ev.pos (by omega) ?_
              exact Ev.to ih (by rw [q1, hx', decide_eq_true k1', decide_eq_true e]; simp)
            · refine Ev.neg (by omega) ?_
              repeat (refine Ev.pos (by omega) ?_)
              by_cases k3 : rdN u b a = 1
              · exact Ev.pos k3 (Ev.ret (by rw [q1, hx', decide_eq_true k1', decide_eq_true k2, decide_eq_true k3, decide_eq_false e]; simp))
              · exact Ev.neg k3 (Ev.to ih (by rw [q1, hx', decide_eq_true k1', decide_eq_false k3]; simp))
          · exact Ev.neg k2 (Ev.to ih (by rw [q1, hx', decide_eq_true k1', decide_eq_false k2]; simp))
        · refine Ev.neg (by omega) ?_
          have k1' : ¬ (u.getD b []).length = u.length := k1
          exact Ev.ret (by rw [q1, decide_eq_false k1']; simp)
    refine Ev.step (fun k => impl_OrderOk.l1.eq_2 ..) ?_
    rw [h1]
    repeat (refine Ev.pos (by omega) ?_)
    rw [allF_step hb]
    by_cases k1 : rdN u a b = 0
    · exact Ev.pos k1 (key false (by rw [decide_eq_true k1]; rfl))
    · refine Ev.neg k1 (key _ ?_)
      rw [decide_eq_false k1, Bool.false_or]
      rfl
theorem io_l0 (hn : u.length ≤ 12) (a : Nat) (ha : a ≤ u.length) : (∀ c, c < a → (rd_L1 u (c : Int)).length = u.length) →
    Ev (fun k => impl_OrderOk.l0 k u u.length u u.length a) (allF u.length (q0 u) a && allF u.length (fun a => allF u.length (fun b => allF u.length (q4 u a b) 0) 0) 0) := by
  refine down u.length (fun a => (∀ c, c < a → (rd_L1 u (c : Int)).length = u.length) →
    Ev (fun k => impl_OrderOk.l0 k u u.length u u.length a) (allF u.length (q0 u) a && allF u.length (fun a => allF u.length (fun b => allF u.length (q4 u a b) 0) 0) 0)) ?_ ?_ a ha
  · intro HR
    refine Ev.step (fun k => impl_OrderOk.l0.eq_2 ..) ?_
    refine Ev.neg (by omega) ?_
    rw [allF_end (Nat.le_refl _), Bool.true_and]
    exact io_l2 hn HR 0 (Nat.zero_le _)
  · intro a ha ih HR
    refine Ev.step (fun k => impl_OrderOk.l0.eq_2 ..) ?_
    repeat (refine Ev.pos (by omega) ?_)
    rw [allF_step ha]
    by_cases e : (rd_L1 u (a : Int)).length = u.length
    · refine Ev.pos (by omega) ?_
      refine Ev.pos (by omega) ?_
      have e' : (u.getD a []).length = u.length := e
      refine Ev.step (fun k => impl_OrderOk.j2.eq_2 ..) ?_
      by_cases k1 : rdN u a a = 1
      · refine Ev.ff (show (rd (rd_L1 u (a : Int)) (a : Int) != 1) = false from bne_eq_false_iff_eq.2 k1) ?_
        rw [e]
        refine Ev.to (io_l1 hn ha e (ih (fun c hc => by
          by_cases e2 : c = a
          · rw [e2]; exact e
          · exact HR c (by omega))) 0 (Nat.zero_le _)) ?_
        rw [q0, decide_eq_true e', decide_eq_true k1, Bool.true_and, Bool.true_and, Bool.and_assoc]
      · refine Ev.tt (show (rd (rd_L1 u (a : Int)) (a : Int) != 1) = true from bne_iff_ne.2 k1) ?_
        exact Ev.ret (by rw [q0, decide_eq_false k1]; simp)
    · refine Ev.neg (by omega) ?_
      refine Ev.step (fun k => impl_OrderOk.j2.eq_2 ..) ?_
      refine Ev.pos rfl (Ev.ret ?_)
      rw [q0, decide_eq_false (show ¬ (u.getD a []).length = u.length from e)]
      simp
end
theorem ord_of_loops' (u : List (List Int)) (h1 : 1 ≤ u.length) (h2 : u.length ≤ 12) :
    (allF u.length (q0 u) 0 && allF u.length (fun a => allF u.length (fun b => allF u.length (q4 u a b) 0) 0) 0) = decide (Ord u) := by
  rw [Bool.eq_iff_iff, Bool.and_eq_true, allF0, allF0, decide_eq_true_iff]
  constructor
  · intro ⟨k0, k4⟩
    have all0 : ∀ a, a < u.length → (u.getD a []).length = u.length ∧ rdN u a a = 1 ∧ ∀ b, b < u.length → q1 u a b = true := fun a ha => by
      have := k0 a ha
      rw [q0, Bool.and_eq_true, Bool.and_eq_true, decide_eq_true_iff, decide_eq_true_iff, allF0] at this
      exact ⟨this.1.1, this.1.2, this.2⟩
    refine ⟨h1, h2, fun a ha => (all0 a ha).1, ?_, fun a ha => (all0 a ha).2.1, ?_, ?_⟩
    · intro a ha b hb
      have := (all0 a ha).2.2 b hb
      simp only [q1, Bool.and_eq_true, Bool.or_eq_true, decide_eq_true_iff] at this
      exact this.1.1
    · intro a ha b hb k l
      have := (all0 a ha).2.2 b hb
      by_cases e : a = b
      · exact e
      · simp [q1, k, l, e] at this
    · intro a ha b hb c hc k l
      have := allF0.1 (allF0.1 (k4 a ha) b hb) c hc
      simpa [q4, k, l] using this
  · intro h
    refine ⟨fun a ha => ?_, fun a ha => allF0.2 fun b hb => allF0.2 fun c hc => ?_⟩
    · rw [q0, Bool.and_eq_true, Bool.and_eq_true, decide_eq_true_iff, decide_eq_true_iff, allF0]
      refine ⟨⟨h.row ha, h.refl ha⟩, fun b hb => ?_⟩
      rw [q1, Bool.and_eq_true, Bool.and_eq_true, Bool.or_eq_true, decide_eq_true_iff, decide_eq_true_iff, decide_eq_true_iff, Bool.not_eq_true']
      refine ⟨⟨h.bit ha hb, h.row hb⟩, ?_⟩
      by_cases k : rdN u a b = 1
      · by_cases l : rdN u b a = 1
        · simp [h.anti ha hb k l]
        · simp [l]
      · simp [k]
    · rw [q4, Bool.not_eq_true']
      by_cases k : rdN u a b = 1
      · by_cases l : rdN u b c = 1
        · simp [h.trans ha hb hc k l]
        · simp [l]
      · simp [k]
theorem impl_ord (u : List (List Int)) : Ev (fun k => impl_OrderOk.f k u) (decide (Ord u)) := by
 unfold impl_OrderOk.f
 by_cases h1 : 1 ≤ u.length
 ·refine Ev.neg (by omega) ?_
  refine Ev.step (fun k => impl_OrderOk.j0.eq_2 ..) ?_
  by_cases h2 : u.length ≤ 12
  ·refine Ev.ff (decide_eq_false (by omega)) ?_
   exact Ev.to (io_l0 h2 0 (Nat.zero_le _) (fun c hc => by omega)) (ord_of_loops' u h1 h2)
  ·refine Ev.tt (decide_eq_true (by omega)) ?_
   exact Ev.ret (decide_eq_false (fun k => h2 k.2.1)).symm
 ·refine Ev.pos (by omega) ?_
  refine Ev.step (fun k => impl_OrderOk.j0.eq_2 ..) ?_
  exact Ev.pos rfl (Ev.ret (decide_eq_false (fun k => h1 k.1)).symm)
theorem isAnswer_eq (u : List (List Int)) (a : Int) : impl_isAnswer.f u a = some (decide (0 ≤ a ∧ a < u.length)) := by
 unfold impl_isAnswer.f
 by_cases h : a ≥ 0
 ·rw [if_pos h]
  congr 1
  rw [decide_eq_decide]
  exact ⟨fun k => ⟨h, k⟩, fun k => k.2⟩
 ·rw [if_neg h]
  congr 1
  symm
  rw [decide_eq_false_iff_not]
  exact fun k => h k.1
theorem len_pred {u : List (List Int)} (h : Ord u) : wrap64 ((u.length : Int) - 1) = (u.length : Int) - 1 := by
 have := h.le12
 exact wrap_of _ (by omega) (by omega)

section
variable (u : List (List Int))
def pm (a b c d : Nat) : Bool := decide (rdN u d a = 0) || decide (rdN u d b = 0) || decide (rdN u d c = 1)
variable {u}
theorem row_len (h : Ord u) {a : Nat} (ha : a < u.length) : (rd_L1 u (a : Int)).length = u.length := h.row ha
theorem isMeet_iff (h : Ord u) {a b c : Nat} (ha : a < u.length) (hb : b < u.length) (hc : c < u.length) :
    IsMeet u a b c ↔ rdN u c a = 1 ∧ rdN u c b = 1 ∧ allF u.length (pm u a b c) 0 = true := by
  unfold IsMeet
  rw [allF0]
  constructor
  · intro ⟨_, k1, k2, k3⟩
    refine ⟨k1, k2, fun d hd => ?_⟩
    simp only [pm, Bool.or_eq_true, decide_eq_true_iff]
    rcases h.bit hd ha with m | m
    · exact .inl (.inl m)
    · rcases h.bit hd hb with l | l
      · exact .inl (.inr l)
      · exact .inr (k3 d hd m l)
  · intro ⟨k1, k2, k3⟩
    refine ⟨hc, k1, k2, fun d hd m l => ?_⟩
    have := k3 d hd
    simp only [pm, Bool.or_eq_true, decide_eq_true_iff] at this
    rcases this with (z | z) | z
    · omega
    · omega
    · exact z

theorem im_l1 (h : Ord u) {a b c : Nat} (ha : a < u.length) (hb : b < u.length) (hc : c < u.length) {r : Int}
    (H : Ev (fun k => impl_meet.l0 k u a b u.length ((c + 1 : Nat) : Int)) r) (d : Nat) (hd : d ≤ u.length) :
    ∀ g : Bool, Ev (fun k => impl_meet.l1 k u a b c g u.length c u.length d) (if (g && allF u.length (pm u a b c) d) = true then (c : Int) else r) := by
  have hn := h.le12
  refine down u.length (fun d => ∀ g : Bool, Ev (fun k => impl_meet.l1 k u a b c g u.length c u.length d) (if (g && allF u.length (pm u a b c) d) = true then (c : Int) else r)) ?_ ?_ d hd
  · intro g
    refine Ev.step (fun k => impl_meet.l1.eq_2 ..) ?_
    refine Ev.neg (by omega) ?_
    rw [allF_end (Nat.le_refl _), Bool.and_true]
    cases g with
    | true => exact Ev.pos rfl (Ev.ret (by simp))
    | false =>
      refine Ev.neg Bool.false_ne_true ?_
      rw [wrap_succ c (by omega)]
      exact Ev.to H (by simp)
  · intro d hd ih g
    have h1 := row_len h hd
    refine Ev.step (fun k => impl_meet.l1.eq_2 ..) ?_
    refine Ev.pos (by omega) ?_
    rw [allF_step hd, wrap_succ d (by omega)]
    cases g with
    | false =>
      refine Ev.neg Bool.false_ne_true ?_
      exact Ev.to (ih false) (by simp)
    | true =>
      refine Ev.pos rfl ?_
      repeat (refine Ev.pos (by omega) ?_)
      by_cases k1 : rdN u d a = 0
      · exact Ev.pos k1 (Ev.to (ih true) (by simp [pm, k1]))
      · refine Ev.neg k1 ?_
        repeat (refine Ev.pos (by omega) ?_)
        by_cases k2 : rdN u d b = 0
        · exact Ev.pos k2 (Ev.to (ih true) (by simp [pm, k2]))
        · refine Ev.neg k2 ?_
          repeat (refine Ev.pos (by omega) ?_)
          refine Ev.to (ih _) ?_
          rw [pm, decide_eq_false k1, decide_eq_false k2]
          rfl
theorem im_l0 (h : Ord u) {a b : Nat} (ha : a < u.length) (hb : b < u.length) (c : Nat) (hc : c ≤ u.length) :
    Ev (fun k => impl_meet.l0 k u a b u.length c) (firstF u.length (fun c => decide (IsMeet u a b c)) c) := by
  have hn := h.le12
  refine down u.length (fun c => Ev (fun k => impl_meet.l0 k u a b u.length c) (firstF u.length (fun c => decide (IsMeet u a b c)) c)) ?_ ?_ c hc
  · refine Ev.step (fun k => impl_meet.l0.eq_2 ..) ?_
    refine Ev.neg (by omega) ?_
    exact Ev.ret (firstF_end (Nat.le_refl _)).symm
  · intro c hc ih
    have h1 := row_len h hc
    have key : ∀ x : Bool, x = (decide (rdN u c a = 0) || decide (rdN u c b = 0)) → Ev (fun k => impl_meet.j1 k u a b c u.length c x) (firstF u.length (fun c => decide (IsMeet u a b c)) c) := by
      intro x hx
      refine Ev.step (fun k => impl_meet.j1.eq_2 ..) ?_
      rw [firstF_step hc]
      cases x with
      | true =>
        refine Ev.pos rfl ?_
        rw [wrap_succ c (by omega)]
        refine Ev.to ih ?_
        rw [if_neg]
        rw [decide_eq_true_iff, isMeet_iff h ha hb hc]
        simp only [Bool.true_eq, Bool.or_eq_true, decide_eq_true_iff] at hx
        omega
      | false =>
        refine Ev.neg Bool.false_ne_true ?_
        refine Ev.to (im_l1 h ha hb hc ih 0 (Nat.zero_le _) true) ?_
        simp only [Bool.false_eq, Bool.or_eq_false_iff, decide_eq_false_iff_not] at hx
        have z1 := (h.ne0 hc ha).1 hx.1
        have z2 := (h.ne0 hc hb).1 hx.2
        by_cases e : allF u.length (pm u a b c) 0 = true
        · rw [if_pos (by rw [e]; rfl), if_pos (by rw [decide_eq_true_iff, isMeet_iff h ha hb hc]; exact ⟨z1, z2, e⟩)]
        · rw [if_neg (by rw [Bool.true_and]; exact e), if_neg (by rw [decide_eq_true_iff, isMeet_iff h ha hb hc]; exact fun k => e k.2.2)]
    refine Ev.step (fun k => impl_meet.l0.eq_2 ..) ?_
    repeat (refine Ev.pos (by omega) ?_)
    by_cases k1 : rdN u c a = 0
    · exact Ev.pos k1 (key true (by rw [decide_eq_true k1]; rfl))
    · refine Ev.neg k1 ?_
      repeat (refine Ev.pos (by omega) ?_)
      refine key _ ?_
      rw [decide_eq_false k1, Bool.false_or]
      rfl
theorem impl_meet_ev (h : Ord u) {a b : Nat} (ha : a < u.length) (hb : b < u.length) : Ev (fun k => impl_meet.f k u a b) (meetI u a b) := by
 unfold impl_meet.f
 exact im_l0 h ha hb 0 (Nat.zero_le _)

theorem sm_l1 (h : Ord u) {a b m : Nat} (ha : a < u.length) (hb : b < u.length) (hm : m < u.length) (d : Nat) (hd : d ≤ u.length) :
    Ev (fun k => spec_l1Meet.l1 k u a b m d) (if allF u.length (pm u a b m) d = true then (m : Int) else -1) := by
  have hn := h.le12
  refine down u.length (fun d => Ev (fun k => spec_l1Meet.l1 k u a b m d) (if allF u.length (pm u a b m) d = true then (m : Int) else -1)) ?_ ?_ d hd
  · refine Ev.step (fun k => spec_l1Meet.l1.eq_2 ..) ?_
    refine Ev.neg (by omega) ?_
    rw [allF_end (Nat.le_refl _)]
    exact Ev.ret (by simp)
  · intro d hd ih
    have h1 := row_len h hd
    refine Ev.step (fun k => spec_l1Meet.l1.eq_2 ..) ?_
    repeat (refine Ev.pos (by omega) ?_)
    rw [allF_step hd, wrap_succ d (by omega)]
    by_cases k1 : rdN u d a = 1
    · refine Ev.pos k1 ?_
      repeat (refine Ev.pos (by omega) ?_)
      by_cases k2 : rdN u d b = 1
      · refine Ev.pos k2 ?_
        repeat (refine Ev.pos (by omega) ?_)
        by_cases k3 : rdN u d m = 0
        · exact Ev.pos k3 (Ev.ret (by simp [pm, k1, k2, k3]))
        · exact Ev.neg k3 (Ev.to ih (by simp [pm, (h.ne0 hd hm).1 k3]))
      · exact Ev.neg k2 (Ev.to ih (by simp [pm, (h.ne1 hd hb).1 k2]))
    · exact Ev.neg k1 (Ev.to ih (by simp [pm, (h.ne1 hd ha).1 k1]))
theorem sm_l1' (h : Ord u) {a b : Nat} (ha : a < u.length) (hb : b < u.length) (no : ∀ d, d < u.length → ¬ (rdN u d a = 1 ∧ rdN u d b = 1)) (d : Nat) (hd : d ≤ u.length) :
    Ev (fun k => spec_l1Meet.l1 k u a b (-1) d) (-1) := by
  have hn := h.le12
  refine down u.length (fun d => Ev (fun k => spec_l1Meet.l1 k u a b (-1) d) (-1)) ?_ ?_ d hd
  · refine Ev.step (fun k => spec_l1Meet.l1.eq_2 ..) ?_
    exact Ev.neg (by omega) (Ev.ret rfl)
  · intro d hd ih
    have h1 := row_len h hd
    refine Ev.step (fun k => spec_l1Meet.l1.eq_2 ..) ?_
    repeat (refine Ev.pos (by omega) ?_)
    rw [wrap_succ d (by omega)]
    by_cases k1 : rdN u d a = 1
    · refine Ev.pos k1 ?_
      repeat (refine Ev.pos (by omega) ?_)
      exact Ev.neg (fun k2 => no d hd ⟨k1, k2⟩) ih
    · exact Ev.neg k1 ih
theorem sm_l0 (h : Ord u) {a b : Nat} (ha : a < u.length) (hb : b < u.length) (c : Nat) (hc : c ≤ u.length) :
    ∀ β : Int, ((β = -1 ∧ ∀ d, d < c → ¬ (rdN u d a = 1 ∧ rdN u d b = 1)) ∨ ∃ m : Nat, β = m ∧ m < u.length ∧ rdN u m a = 1 ∧ rdN u m b = 1 ∧ ∀ g, IsMeet u a b g → g < c → m = g) →
    Ev (fun k => spec_l1Meet.l0 k u a b β c) (meetI u a b) := by
  have hn := h.le12
  refine down u.length (fun c => ∀ β : Int, ((β = -1 ∧ ∀ d, d < c → ¬ (rdN u d a = 1 ∧ rdN u d b = 1)) ∨ ∃ m : Nat, β = m ∧ m < u.length ∧ rdN u m a = 1 ∧ rdN u m b = 1 ∧ ∀ g, IsMeet u a b g → g < c → m = g) →
    Ev (fun k => spec_l1Meet.l0 k u a b β c) (meetI u a b)) ?_ ?_ c hc
  · intro β hβ
    refine Ev.step (fun k => spec_l1Meet.l0.eq_2 ..) ?_
    refine Ev.neg (by omega) ?_
    rcases hβ with ⟨rfl, no⟩ | ⟨m, rfl, hm, m1, m2, hg⟩
    · refine Ev.to (sm_l1' h ha hb no 0 (Nat.zero_le _)) ?_
      rcases meetI_cases u a b with ⟨e, _⟩ | ⟨c, _, hc⟩
      · exact e.symm
      · exact absurd ⟨hc.2.1, hc.2.2.1⟩ (no c hc.1)
    · refine Ev.to (sm_l1 h ha hb hm 0 (Nat.zero_le _)) ?_
      by_cases e : allF u.length (pm u a b m) 0 = true
      · rw [if_pos e, meetI_of h ((isMeet_iff h ha hb hm).2 ⟨m1, m2, e⟩)]
      · rw [if_neg e]
        rcases meetI_cases u a b with ⟨e', _⟩ | ⟨c, _, hc⟩
        · exact e'.symm
        · have := hg c hc hc.1
          subst this
          exact absurd ((isMeet_iff h ha hb hm).1 hc).2.2 e
  · intro c hc ih β hβ
    have h1 := row_len h hc
    refine Ev.step (fun k => spec_l1Meet.l0.eq_2 ..) ?_
    repeat (refine Ev.pos (by omega) ?_)
    rw [wrap_succ c (by omega)]
    have stay : ¬ (rdN u c a = 1 ∧ rdN u c b = 1) → Ev (fun k => spec_l1Meet.l0 k u a b β ((c + 1 : Nat) : Int)) (meetI u a b) := by
      intro no
      refine ih β ?_
      rcases hβ with ⟨rfl, k⟩ | ⟨m, rfl, hm, m1, m2, hg⟩
      · refine .inl ⟨rfl, fun d hd => ?_⟩
        by_cases e : d = c
        · rw [e]; exact no
        · exact k d (by omega)
      · refine .inr ⟨m, rfl, hm, m1, m2, fun g gm hgc => ?_⟩
        by_cases e : g = c
        · subst e
          exact absurd ⟨gm.2.1, gm.2.2.1⟩ no
        · exact hg g gm (by omega)
    by_cases k1 : rdN u c a = 1
    · refine Ev.pos k1 ?_
      repeat (refine Ev.pos (by omega) ?_)
      by_cases k2 : rdN u c b = 1
      · refine Ev.pos k2 ?_
        rcases hβ with ⟨rfl, k⟩ | ⟨m, rfl, hm, m1, m2, hg⟩
        · refine Ev.pos (by omega) (ih c (.inr ⟨c, rfl, hc, k1, k2, fun g gm hgc => ?_⟩))
          by_cases e : g = c
          · exact e.symm
          · exact absurd ⟨gm.2.1, gm.2.2.1⟩ (k g (by omega))
        · have h2 := row_len h hm
          refine Ev.neg (by omega) ?_
          repeat (refine Ev.pos (by omega) ?_)
          by_cases k3 : rdN u m c = 1
          · refine Ev.pos k3 (ih c (.inr ⟨c, rfl, hc, k1, k2, fun g gm hgc => ?_⟩))
            by_cases e : g = c
            · exact e.symm
            · have := hg g gm (by omega)
              subst this
              exact (h.anti hm hc k3 (gm.2.2.2 c hc k1 k2)).symm
          · refine Ev.neg k3 (ih m (.inr ⟨m, rfl, hm, m1, m2, fun g gm hgc => ?_⟩))
            by_cases e : g = c
            · subst e
              exact absurd (gm.2.2.2 m hm m1 m2) k3
            · exact hg g gm (by omega)
      · exact Ev.neg k2 (stay (fun k => k2 k.2))
    · exact Ev.neg k1 (stay (fun k => k1 k.1))
theorem spec_meet_ev (h : Ord u) {a b : Nat} (ha : a < u.length) (hb : b < u.length) : Ev (fun k => spec_l1Meet.f k u a b) (meetI u a b) := by
 unfold spec_l1Meet.f
 exact sm_l0 h ha hb 0 (Nat.zero_le _) (-1) (.inl ⟨rfl, fun d hd => by omega⟩)

variable (u) in
def pj (a b c d : Nat) : Bool := decide (rdN u a d = 0) || decide (rdN u b d = 0) || decide (rdN u c d = 1)
theorem isJoin_iff (h : Ord u) {a b c : Nat} (ha : a < u.length) (hb : b < u.length) (hc : c < u.length) :
    IsJoin u a b c ↔ rdN u a c = 1 ∧ rdN u b c = 1 ∧ allF u.length (pj u a b c) 0 = true := by
  unfold IsJoin
  rw [allF0]
  constructor
  · intro ⟨_, k1, k2, k3⟩
    refine ⟨k1, k2, fun d hd => ?_⟩
    simp only [pj, Bool.or_eq_true, decide_eq_true_iff]
    rcases h.bit ha hd with m | m
    · exact .inl (.inl m)
    · rcases h.bit hb hd with l | l
      · exact .inl (.inr l)
      · exact .inr (k3 d hd m l)
  · intro ⟨k1, k2, k3⟩
    refine ⟨hc, k1, k2, fun d hd m l => ?_⟩
    have := k3 d hd
    simp only [pj, Bool.or_eq_true, decide_eq_true_iff] at this
    rcases this with (z | z) | z
    · omega
    · omega
    · exact z
theorem sj_l1 (h : Ord u) {a b m : Nat} (ha : a < u.length) (hb : b < u.length) (hm : m < u.length) (d : Nat) (hd : d ≤ u.length) :
    Ev (fun k => spec_l1Join.l1 k u a b m d) (if allF u.length (pj u a b m) d = true then (m : Int) else -1) := by
  have hn := h.le12
  have h1 := row_len h ha
  have h2 := row_len h hb
  have h3 := row_len h hm
  refine down u.length (fun d => Ev (fun k => spec_l1Join.l1 k u a b m d) (if allF u.length (pj u a b m) d = true then (m : Int) else -1)) ?_ ?_ d hd
  · refine Ev.step (fun k => spec_l1Join.l1.eq_2 ..) ?_
    refine Ev.neg (by omega) ?_
    rw [allF_end (Nat.le_refl _)]
    exact Ev.ret (by simp)
  · intro d hd ih
    refine Ev.step (fun k => spec_l1Join.l1.eq_2 ..) ?_
    repeat (refine Ev.pos (by omega) ?_)
    rw [allF_step hd, wrap_succ d (by omega)]
    by_cases k1 : rdN u a d = 1
    · refine Ev.pos k1 ?_
      repeat (refine Ev.pos (by omega) ?_)
      by_cases k2 : rdN u b d = 1
      · refine Ev.pos k2 ?_
        repeat (refine Ev.pos (by omega) ?_)
        by_cases k3 : rdN u m d = 0
        · exact Ev.pos k3 (Ev.ret (by simp [pj, k1, k2, k3]))
        · exact Ev.neg k3 (Ev.to ih (by simp [pj, (h.ne0 hm hd).1 k3]))
      · exact Ev.neg k2 (Ev.to ih (by simp [pj, (h.ne1 hb hd).1 k2]))
    · exact Ev.neg k1 (Ev.to ih (by simp [pj, (h.ne1 ha hd).1 k1]))
theorem sj_l1' (h : Ord u) {a b : Nat} (ha : a < u.length) (hb : b < u.length) (no : ∀ d, d < u.length → ¬ (rdN u a d = 1 ∧ rdN u b d = 1)) (d : Nat) (hd : d ≤ u.length) :
    Ev (fun k => spec_l1Join.l1 k u a b (-1) d) (-1) := by
  have hn := h.le12
  have h1 := row_len h ha
  have h2 := row_len h hb
  refine down u.length (fun d => Ev (fun k => spec_l1Join.l1 k u a b (-1) d) (-1)) ?_ ?_ d hd
  · refine Ev.step (fun k => spec_l1Join.l1.eq_2 ..) ?_
    exact Ev.neg (by omega) (Ev.ret rfl)
  · intro d hd ih
    refine Ev.step (fun k => spec_l1Join.l1.eq_2 ..) ?_
    repeat (refine Ev.pos (by omega) ?_)
    rw [wrap_succ d (by omega)]
    by_cases k1 : rdN u a d = 1
    · refine Ev.pos k1 ?_
      repeat (refine Ev.pos (by omega) ?_)
      exact Ev.neg (fun k2 => no d hd ⟨k1, k2⟩) ih
    · exact Ev.neg k1 ih
theorem sj_l0 (h : Ord u) {a b : Nat} (ha : a < u.length) (hb : b < u.length) (c : Nat) (hc : c ≤ u.length) :
    ∀ β : Int, ((β = -1 ∧ ∀ d, d < c → ¬ (rdN u a d = 1 ∧ rdN u b d = 1)) ∨ ∃ m : Nat, β = m ∧ m < u.length ∧ rdN u a m = 1 ∧ rdN u b m = 1 ∧ ∀ g, IsJoin u a b g → g < c → m = g) →
    Ev (fun k => spec_l1Join.l0 k u a b β c) (joinI u a b) := by
  have hn := h.le12
  have h1 := row_len h ha
  have h2 := row_len h hb
  refine down u.length (fun c => ∀ β : Int, ((β = -1 ∧ ∀ d, d < c → ¬ (rdN u a d = 1 ∧ rdN u b d = 1)) ∨ ∃ m : Nat, β = m ∧ m < u.length ∧ rdN u a m = 1 ∧ rdN u b m = 1 ∧ ∀ g, IsJoin u a b g → g < c → m = g) →
    Ev (fun k => spec_l1Join.l0 k u a b β c) (joinI u a b)) ?_ ?_ c hc
  · intro β hβ
    refine Ev.step (fun k => spec_l1Join.l0.eq_2 ..) ?_
    refine Ev.neg (by omega) ?_
    rcases hβ with ⟨rfl, no⟩ | ⟨m, rfl, hm, m1, m2, hg⟩
    · refine Ev.to (sj_l1' h ha hb no 0 (Nat.zero_le _)) ?_
      rcases joinI_cases u a b with ⟨e, _⟩ | ⟨c, _, hc⟩
      · exact e.symm
      · exact absurd ⟨hc.2.1, hc.2.2.1⟩ (no c hc.1)
    · refine Ev.to (sj_l1 h ha hb hm 0 (Nat.zero_le _)) ?_
      by_cases e : allF u.length (pj u a b m) 0 = true
      · rw [if_pos e, joinI_of h ((isJoin_iff h ha hb hm).2 ⟨m1, m2, e⟩)]
      · rw [if_neg e]
        rcases joinI_cases u a b with ⟨e', _⟩ | ⟨c, _, hc⟩
        · exact e'.symm
        · have := hg c hc hc.1
          subst this
          exact absurd ((isJoin_iff h ha hb hm).1 hc).2.2 e
  · intro c hc ih β hβ
    have h3 := row_len h hc
    refine Ev.step (fun k => spec_l1Join.l0.eq_2 ..) ?_
    repeat (refine Ev.pos (by omega) ?_)
    rw [wrap_succ c (by omega)]
    have stay : ¬ (rdN u a c = 1 ∧ rdN u b c = 1) → Ev (fun k => spec_l1Join.l0 k u a b β ((c + 1 : Nat) : Int)) (joinI u a b) := by
      intro no
      refine ih β ?_
      rcases hβ with ⟨rfl, k⟩ | ⟨m, rfl, hm, m1, m2, hg⟩
      · refine .inl ⟨rfl, fun d hd => ?_⟩
        by_cases e : d = c
        · rw [e]; exact no
        · exact k d (by omega)
      · refine .inr ⟨m, rfl, hm, m1, m2, fun g gm hgc => ?_⟩
        by_cases e : g = c
        · subst e
          exact absurd ⟨gm.2.1, gm.2.2.1⟩ no
        · exact hg g gm (by omega)
    by_cases k1 : rdN u a c = 1
    · refine Ev.pos k1 ?_
      repeat (refine Ev.pos (by omega) ?_)
      by_cases k2 : rdN u b c = 1
      · refine Ev.pos k2 ?_
        rcases hβ with ⟨rfl, k⟩ | ⟨m, rfl, hm, m1, m2, hg⟩
        · refine Ev.pos (by omega) (ih c (.inr ⟨c, rfl, hc, k1, k2, fun g gm hgc => ?_⟩))
          by_cases e : g = c
          · exact e.symm
          · exact absurd ⟨gm.2.1, gm.2.2.1⟩ (k g (by omega))
        · refine Ev.neg (by omega) ?_
          repeat (refine Ev.pos (by omega) ?_)
          by_cases k3 : rdN u c m = 1
          · refine Ev.pos k3 (ih c (.inr ⟨c, rfl, hc, k1, k2, fun g gm hgc => ?_⟩))
            by_cases e : g = c
            · exact e.symm
            · have := hg g gm (by omega)
              subst this
              exact h.anti hc hm k3 (gm.2.2.2 c hc k1 k2)
          · refine Ev.neg k3 (ih m (.inr ⟨m, rfl, hm, m1, m2, fun g gm hgc => ?_⟩))
            by_cases e : g = c
            · subst e
              exact absurd (gm.2.2.2 m hm m1 m2) k3
            · exact hg g gm (by omega)
      · exact Ev.neg k2 (stay (fun k => k2 k.2))
    · exact Ev.neg k1 (stay (fun k => k1 k.1))
theorem spec_join_ev (h : Ord u) {a b : Nat} (ha : a < u.length) (hb : b < u.length) : Ev (fun k => spec_l1Join.f k u a b) (joinI u a b) := by
 unfold spec_l1Join.f
 exact sj_l0 h ha hb 0 (Nat.zero_le _) (-1) (.inl ⟨rfl, fun d hd => by omega⟩)
end

def trow (u : List (List Int)) (a : Nat) : List Int := (List.range u.length).map fun b => rdN u b a
def mid (u : List (List Int)) (a : Nat) (row : List Int) : List (List Int) := (List.range a).map (trow u) ++ row :: List.replicate (u.length - (a + 1)) []
theorem mid_len {u : List (List Int)} {a : Nat} (ha : a < u.length) (row : List Int) : (mid u a row).length = u.length := by
 simp [mid]
 omega
theorem mid_row {u : List (List Int)} {a : Nat} (row : List Int) : rd_L1 (mid u a row) (a : Int) = row := by
 rw [row_nat, List.getD_eq_getElem?_getD, mid, List.getElem?_append_right (by simp)]
 simp
theorem mid_set {u : List (List Int)} {a : Nat} (row row' : List Int) : (mid u a row).set a row' = mid u a row' := by
 unfold mid
 rw [List.set_append, if_neg (by simp)]
 simp
theorem it_l1 {u : List (List Int)} (h : Ord u) {a : Nat} (ha : a < u.length) {r : List (List Int)} (H : Ev (fun k => impl_turned.l0 k u (mid u a (trow u a)) u.length ((a + 1 : Nat) : Int)) r) (b : Nat) (hb : b ≤ u.length) :
    Ev (fun k => impl_turned.l1 k u (mid u a ((trow u a).take b ++ List.replicate (u.length - b) 0)) a u.length a u.length b) r := by
  have hn := h.le12
  have ht : (trow u a).length = u.length := by simp [trow]
  refine down u.length (fun b => Ev (fun k => impl_turned.l1 k u (mid u a ((trow u a).take b ++ List.replicate (u.length - b) 0)) a u.length a u.length b) r) ?_ ?_ b hb
  · refine Ev.step (fun k => impl_turned.l1.eq_2 ..) (Ev.neg (by omega) ?_)
    rw [wrap_succ a (by omega), Nat.sub_self, List.take_of_length_le (by omega)]
    simpa using H
  · intro b hb ih
    have r1 := row_len h hb
    have hr : ((trow u a).take b ++ List.replicate (u.length - b) (0 : Int)).length = u.length := by simp [ht]; omega
    refine Ev.step (fun k => impl_turned.l1.eq_2 ..) ?_
    rw [mid_row, mid_len ha, hr]
    repeat (refine Ev.pos (by omega) ?_)
    rw [wrap_succ b (by omega), show ((b : Int)).toNat = b from rfl, show ((a : Int)).toNat = a from rfl, mid_set]
    have e : rd (rd_L1 u (b : Int)) (a : Int) = (trow u a)[b]'(by omega) := by
      rw [at_nat]
      simp [trow]
    have st := set_step (trow u a) (0 : Int) b (by omega)
    simp only [ht] at st
    rw [e, st]
    exact ih
theorem it_l0 {u : List (List Int)} (h : Ord u) (a : Nat) (ha : a ≤ u.length) :
    Ev (fun k => impl_turned.l0 k u ((List.range a).map (trow u) ++ List.replicate (u.length - a) []) u.length a) (turn u) := by
  have hn := h.le12
  refine down u.length (fun a => Ev (fun k => impl_turned.l0 k u ((List.range a).map (trow u) ++ List.replicate (u.length - a) []) u.length a) (turn u)) ?_ ?_ a ha
  · refine Ev.step (fun k => impl_turned.l0.eq_2 ..) (Ev.neg (by omega) (Ev.ret ?_))
    rw [Nat.sub_self]
    simp [turn, trow]
  · intro a ha ih
    refine Ev.step (fun k => impl_turned.l0.eq_2 ..) ?_
    refine Ev.pos (by omega) (Ev.pos (by omega) (Ev.pos (by omega) (Ev.pos (by omega) (Ev.pos (by simp; omega) ?_))))
    have e : ((List.range a).map (trow u) ++ List.replicate (u.length - a) ([] : List Int)).set ((a : Int)).toNat (List.replicate ((u.length : Int)).toNat 0) = mid u a ((trow u a).take 0 ++ List.replicate (u.length - 0) 0) := by
      rw [show ((a : Int)).toNat = a from rfl, show ((u.length : Int)).toNat = u.length from rfl, show u.length - a = (u.length - (a + 1)) + 1 by omega, List.replicate_succ]
      exact mid_set [] _
    rw [e]
    refine it_l1 h ha ?_ 0 (Nat.zero_le _)
    have e2 : (List.range (a + 1)).map (trow u) ++ List.replicate (u.length - (a + 1)) [] = mid u a (trow u a) := by
      rw [List.range_succ, List.map_append, mid, List.append_assoc]
      rfl
    rw [e2] at ih
    exact ih
theorem turned_ev {u : List (List Int)} (h : Ord u) : Ev (fun k => impl_turned.f k u) (turn u) := by
 have hn := h.le12
 unfold impl_turned.f
 refine Ev.pos (by omega) (Ev.pos (by omega) ?_)
 have := it_l0 h 0 (Nat.zero_le _)
 simpa using this
theorem sl_l1 {u : List (List Int)} (h : Ord u) {a : Nat} (ha : a < u.length) {r : Int × Bool} (H : Ev (fun k => spec_LeastOf.l0 k u ((a + 1 : Nat) : Int)) r) (b : Nat) (hb : b ≤ u.length) :
    ∀ g : Bool, Ev (fun k => spec_LeastOf.l1 k u a g b) (if (g && allF u.length (fun b => decide (rdN u a b = 1)) b) = true then ((a : Int), true) else r) := by
  have hn := h.le12
  have h1 := row_len h ha
  refine down u.length (fun b => ∀ g : Bool, Ev (fun k => spec_LeastOf.l1 k u a g b) (if (g && allF u.length (fun b => decide (rdN u a b = 1)) b) = true then ((a : Int), true) else r)) ?_ ?_ b hb
  · intro g
    refine Ev.step (fun k => spec_LeastOf.l1.eq_2 ..) ?_
    refine Ev.neg (by omega) ?_
    rw [allF_end (Nat.le_refl _), wrap_succ a (by omega)]
    cases g with
    | true => exact Ev.pos rfl (Ev.ret (by simp))
    | false => exact Ev.neg Bool.false_ne_true (Ev.to H (by simp))
  · intro b hb ih g
    refine Ev.step (fun k => spec_LeastOf.l1.eq_2 ..) ?_
    refine Ev.pos (by omega) ?_
    rw [allF_step hb, wrap_succ b (by omega)]
    cases g with
    | true =>
      refine Ev.pos rfl ?_
      repeat (refine Ev.pos (by omega) ?_)
      exact Ev.to (ih _) (by rw [Bool.true_and]; rfl)
    | false => exact Ev.neg Bool.false_ne_true (Ev.to (ih false) (by simp))
theorem sl_l0 {u : List (List Int)} (h : Ord u) (a : Nat) (ha : a ≤ u.length) :
    Ev (fun k => spec_LeastOf.l0 k u a) (let i := firstF u.length (fun a => decide (IsLeast u a)) a; (i, decide (0 ≤ i))) := by
  have hn := h.le12
  refine down u.length (fun a => Ev (fun k => spec_LeastOf.l0 k u a) (let i := firstF u.length (fun a => decide (IsLeast u a)) a; (i, decide (0 ≤ i)))) ?_ ?_ a ha
  · refine Ev.step (fun k => spec_LeastOf.l0.eq_2 ..) ?_
    refine Ev.neg (by omega) ?_
    refine Ev.step (fun k => spec_LeastOf.j1.eq_2 ..) ?_
    exact Ev.neg Bool.false_ne_true (Ev.ret (by rw [firstF_end (Nat.le_refl _)]; rfl))
  · intro a ha ih
    refine Ev.step (fun k => spec_LeastOf.l0.eq_2 ..) ?_
    refine Ev.pos (by omega) ?_
    refine Ev.bind (spec_ord u) ?_
    refine Ev.step (fun k => spec_LeastOf.j1.eq_2 ..) ?_
    refine Ev.tt (decide_eq_true h) ?_
    refine Ev.to (sl_l1 h ha ih 0 (Nat.zero_le _) true) ?_
    rw [firstF_step ha]
    by_cases e : IsLeast u a
    · rw [if_pos (by rw [Bool.true_and, allF0]; exact fun c hc => decide_eq_true (e c hc)), if_pos (decide_eq_true e)]
      simp
    · rw [if_neg (by rw [Bool.true_and, allF0]; exact fun k => e fun c hc => of_decide_eq_true (k c hc)), if_neg (by rw [decide_eq_true_iff]; exact e)]
theorem spec_least_ev (u : List (List Int)) : Ev (fun k => spec_LeastOf.f k u) (leastOfP u) := by
 unfold spec_LeastOf.f
 by_cases h : Ord u
 ·exact Ev.to (sl_l0 h 0 (Nat.zero_le _)) (by rw [leastOfP, if_pos h]; rfl)
 ·rw [leastOfP, if_neg h]
  refine Ev.step (fun k => spec_LeastOf.l0.eq_2 ..) ?_
  by_cases e : (0 : Int) < u.length
  ·refine Ev.pos e ?_
   refine Ev.bind (spec_ord u) ?_
   refine Ev.step (fun k => spec_LeastOf.j1.eq_2 ..) ?_
   exact Ev.ff (decide_eq_false h) (Ev.ret rfl)
  ·refine Ev.neg e ?_
   refine Ev.step (fun k => spec_LeastOf.j1.eq_2 ..) ?_
   exact Ev.neg Bool.false_ne_true (Ev.ret rfl)
theorem il_l1 {u : List (List Int)} (h : Ord u) {a : Nat} (ha : a < u.length) {r : Int × Bool} (H : Ev (fun k => impl_LeastOf.l0 k u u.length ((a + 1 : Nat) : Int)) r) (b : Nat) (hb : b ≤ u.length) :
    ∀ g : Bool, Ev (fun k => impl_LeastOf.l1 k a g u u.length a (rd_L1 u (a : Int)) u.length b) (if (g && allF u.length (fun b => decide (rdN u a b = 1)) b) = true then ((a : Int), true) else r) := by
  have hn := h.le12
  have h1 := row_len h ha
  refine down u.length (fun b => ∀ g : Bool, Ev (fun k => impl_LeastOf.l1 k a g u u.length a (rd_L1 u (a : Int)) u.length b) (if (g && allF u.length (fun b => decide (rdN u a b = 1)) b) = true then ((a : Int), true) else r)) ?_ ?_ b hb
  · intro g
    refine Ev.step (fun k => impl_LeastOf.l1.eq_2 ..) ?_
    refine Ev.neg (by omega) ?_
    rw [allF_end (Nat.le_refl _), wrap_succ a (by omega)]
    cases g with
    | true => exact Ev.pos rfl (Ev.ret (by simp))
    | false => exact Ev.neg Bool.false_ne_true (Ev.to H (by simp))
  · intro b hb ih g
    refine Ev.step (fun k => impl_LeastOf.l1.eq_2 ..) ?_
    repeat (refine Ev.pos (by omega) ?_)
    rw [allF_step hb, wrap_succ b (by omega)]
    cases g with
    | true =>
      refine Ev.pos rfl ?_
      exact Ev.to (ih _) (by rw [Bool.true_and]; rfl)
    | false => exact Ev.neg Bool.false_ne_true (Ev.to (ih false) (by simp))
theorem il_l0 {u : List (List Int)} (h : Ord u) (a : Nat) (ha : a ≤ u.length) :
    Ev (fun k => impl_LeastOf.l0 k u u.length a) (let i := firstF u.length (fun a => decide (IsLeast u a)) a; (i, decide (0 ≤ i))) := by
  have hn := h.le12
  refine down u.length (fun a => Ev (fun k => impl_LeastOf.l0 k u u.length a) (let i := firstF u.length (fun a => decide (IsLeast u a)) a; (i, decide (0 ≤ i)))) ?_ ?_ a ha
  · refine Ev.step (fun k => impl_LeastOf.l0.eq_2 ..) ?_
    refine Ev.neg (by omega) ?_
    exact Ev.ret (by rw [firstF_end (Nat.le_refl _)]; rfl)
  · intro a ha ih
    refine Ev.step (fun k => impl_LeastOf.l0.eq_2 ..) ?_
    repeat (refine Ev.pos (by omega) ?_)
    rw [row_len h ha]
    refine Ev.to (il_l1 h ha ih 0 (Nat.zero_le _) true) ?_
    rw [firstF_step ha]
    by_cases e : IsLeast u a
    · rw [if_pos (by rw [Bool.true_and, allF0]; exact fun c hc => decide_eq_true (e c hc)), if_pos (decide_eq_true e)]
      simp
    · rw [if_neg (by rw [Bool.true_and, allF0]; exact fun k => e fun c hc => of_decide_eq_true (k c hc)), if_neg (by rw [decide_eq_true_iff]; exact e)]
theorem impl_least_ev (u : List (List Int)) : Ev (fun k => impl_LeastOf.f k u) (leastOfP u) := by
 unfold impl_LeastOf.f
 refine Ev.bind (impl_ord u) ?_
 by_cases h : Ord u
 ·refine Ev.tt (decide_eq_true h) ?_
  exact Ev.to (il_l0 h 0 (Nat.zero_le _)) (by rw [leastOfP, if_pos h]; rfl)
 ·exact Ev.ff (decide_eq_false h) (Ev.ret (by rw [leastOfP, if_neg h]))

def pl (u : List (List Int)) (a b : Nat) : Bool := decide (0 ≤ meetI u a b) && decide (0 ≤ joinI u a b)
theorem sa_l1 {u : List (List Int)} (h : Ord u) {a : Nat} (ha : a < u.length) {r : Bool} (H : Ev (fun k => spec_LatticeOk.l0 k u ((a + 1 : Nat) : Int)) r) (b : Nat) (hb : b ≤ a) :
    Ev (fun k => spec_LatticeOk.l1 k u a b) (allF a (pl u a) b && r) := by
  have hn := h.le12
  refine down a (fun b => Ev (fun k => spec_LatticeOk.l1 k u a b) (allF a (pl u a) b && r)) ?_ ?_ b hb
  · refine Ev.step (fun k => spec_LatticeOk.l1.eq_2 ..) ?_
    refine Ev.neg (by omega) ?_
    rw [allF_end (Nat.le_refl _), wrap_succ a (by omega)]
    exact Ev.to H (by simp)
  · intro b hb ih
    refine Ev.step (fun k => spec_LatticeOk.l1.eq_2 ..) ?_
    refine Ev.pos (by omega) ?_
    rw [allF_step hb, wrap_succ b (by omega)]
    refine Ev.bind (spec_meet_ev h ha (by omega)) ?_
    by_cases k1 : 0 ≤ meetI u a b
    · refine Ev.neg (by omega) ?_
      refine Ev.bind (spec_join_ev h ha (by omega)) ?_
      by_cases k2 : 0 ≤ joinI u a b
      · exact Ev.neg (by omega) (Ev.to ih (by simp [pl, k1, k2]))
      · exact Ev.pos (by omega) (Ev.ret (by simp [pl, k2]))
    · exact Ev.pos (by omega) (Ev.ret (by simp [pl, k1]))
theorem sa_l0 {u : List (List Int)} (h : Ord u) (a : Nat) (ha : a ≤ u.length) :
    Ev (fun k => spec_LatticeOk.l0 k u a) (allF u.length (fun a => allF a (pl u a) 0) a) := by
  have hn := h.le12
  refine down u.length (fun a => Ev (fun k => spec_LatticeOk.l0 k u a) (allF u.length (fun a => allF a (pl u a) 0) a)) ?_ ?_ a ha
  · refine Ev.step (fun k => spec_LatticeOk.l0.eq_2 ..) ?_
    refine Ev.neg (by omega) ?_
    refine Ev.step (fun k => spec_LatticeOk.j1.eq_2 ..) ?_
    refine Ev.neg Bool.false_ne_true ?_
    refine Ev.bind (spec_ord u) ?_
    exact Ev.ret (by rw [allF_end (Nat.le_refl _), decide_eq_true h])
  · intro a ha ih
    refine Ev.step (fun k => spec_LatticeOk.l0.eq_2 ..) ?_
    refine Ev.pos (by omega) ?_
    refine Ev.bind (spec_ord u) ?_
    refine Ev.step (fun k => spec_LatticeOk.j1.eq_2 ..) ?_
    refine Ev.tt (decide_eq_true h) ?_
    exact Ev.to (sa_l1 h ha ih 0 (Nat.zero_le _)) (by rw [allF_step ha])
theorem spec_lat_ev (u : List (List Int)) : Ev (fun k => spec_LatticeOk.f k u) (decide (Lat u)) := by
 unfold spec_LatticeOk.f
 by_cases h : Ord u
 ·refine Ev.to (sa_l0 h 0 (Nat.zero_le _)) ?_
  rw [Bool.eq_iff_iff, allF0, decide_eq_true_iff]
  constructor
  ·intro k
   have half : ∀ a, a < u.length → ∀ b, b < a → 0 ≤ meetI u a b ∧ 0 ≤ joinI u a b := fun a ha b hb => by
    have := allF0.1 (k a ha) b hb
    simpa [pl] using this
   refine ⟨h, fun a ha b hb => ?_⟩
   rcases Nat.lt_trichotomy a b with e | e | e
   ·rw [meetI_comm h, joinI_comm h]
    exact half b hb a e
   ·subst e
    rw [meetI_of h (isMeet_self h ha ha (h.refl ha)), joinI_of h (isJoin_self h ha ha (h.refl ha))]
    omega
   ·exact half a ha b e
  ·intro k a ha
   rw [allF0]
   intro b hb
   have := k.2 a ha b (by omega)
   simp [pl, this.1, this.2]
 ·rw [decide_eq_false (fun k => h k.1)]
  refine Ev.step (fun k => spec_LatticeOk.l0.eq_2 ..) ?_
  have fin : ∀ x : Bool, x = false → Ev (fun k => spec_LatticeOk.j1 k u 0 x) false := by
   rintro x rfl
   refine Ev.step (fun k => spec_LatticeOk.j1.eq_2 ..) ?_
   refine Ev.neg Bool.false_ne_true ?_
   refine Ev.bind (spec_ord u) ?_
   exact Ev.ret (decide_eq_false h)
  by_cases e : (0 : Int) < u.length
  ·refine Ev.pos e ?_
   refine Ev.bind (spec_ord u) ?_
   exact fin _ (decide_eq_false h)
  ·exact Ev.neg e (fin _ rfl)
theorem ia_l1 {u : List (List Int)} (h : Ord u) {a : Nat} (ha : a < u.length) {r : Bool} (H : Ev (fun k => impl_LatticeOk.l0 k u (turn u) u.length ((a + 1 : Nat) : Int)) r) (b : Nat) (hb : b ≤ u.length) :
    Ev (fun k => impl_LatticeOk.l1 k u (turn u) a u.length a u.length b) (allF u.length (pl u a) b && r) := by
  have hn := h.le12
  refine down u.length (fun b => Ev (fun k => impl_LatticeOk.l1 k u (turn u) a u.length a u.length b) (allF u.length (pl u a) b && r)) ?_ ?_ b hb
  · refine Ev.step (fun k => impl_LatticeOk.l1.eq_2 ..) ?_
    refine Ev.neg (by omega) ?_
    rw [allF_end (Nat.le_refl _), wrap_succ a (by omega)]
    exact Ev.to H (by simp)
  · intro b hb ih
    refine Ev.step (fun k => impl_LatticeOk.l1.eq_2 ..) ?_
    refine Ev.pos (by omega) ?_
    rw [allF_step hb, wrap_succ b (by omega)]
    refine Ev.bind (impl_meet_ev h ha hb) ?_
    by_cases k1 : 0 ≤ meetI u a b
    · refine Ev.neg (by omega) ?_
      refine Ev.bind (impl_meet_ev (turn_ord h) (by rw [turn_len]; exact ha) (by rw [turn_len]; exact hb)) ?_
      rw [meetI_turn ha hb]
      by_cases k2 : 0 ≤ joinI u a b
      · exact Ev.neg (by omega) (Ev.to ih (by simp [pl, k1, k2]))
      · exact Ev.pos (by omega) (Ev.ret (by simp [pl, k2]))
    · exact Ev.pos (by omega) (Ev.ret (by simp [pl, k1]))
theorem ia_l0 {u : List (List Int)} (h : Ord u) (a : Nat) (ha : a ≤ u.length) :
    Ev (fun k => impl_LatticeOk.l0 k u (turn u) u.length a) (allF u.length (fun a => allF u.length (pl u a) 0) a) := by
  have hn := h.le12
  refine down u.length (fun a => Ev (fun k => impl_LatticeOk.l0 k u (turn u) u.length a) (allF u.length (fun a => allF u.length (pl u a) 0) a)) ?_ ?_ a ha
  · refine Ev.step (fun k => impl_LatticeOk.l0.eq_2 ..) ?_
    exact Ev.neg (by omega) (Ev.ret (by rw [allF_end (Nat.le_refl _)]))
  · intro a ha ih
    refine Ev.step (fun k => impl_LatticeOk.l0.eq_2 ..) ?_
    refine Ev.pos (by omega) ?_
    exact Ev.to (ia_l1 h ha ih 0 (Nat.zero_le _)) (by rw [allF_step ha])
theorem impl_lat_ev (u : List (List Int)) : Ev (fun k => impl_LatticeOk.f k u) (decide (Lat u)) := by
 unfold impl_LatticeOk.f
 refine Ev.bind (impl_ord u) ?_
 by_cases h : Ord u
 ·refine Ev.tt (decide_eq_true h) ?_
  refine Ev.bind (turned_ev h) ?_
  refine Ev.to (ia_l0 h 0 (Nat.zero_le _)) ?_
  rw [Bool.eq_iff_iff, allF0, decide_eq_true_iff]
  constructor
  ·intro k
   refine ⟨h, fun a ha b hb => ?_⟩
   have := allF0.1 (k a ha) b hb
   simpa [pl] using this
  ·intro k a ha
   rw [allF0]
   intro b hb
   have := k.2 a ha b hb
   simp [pl, this.1, this.2]
 ·exact Ev.ff (decide_eq_false h) (Ev.ret (decide_eq_false (fun k => h k.1)).symm)
section
variable {u : List (List Int)} {nt : List Int}
def lp0 (u : List (List Int)) (nt : List Int) (c : Nat) : Bool := decide (0 ≤ rd nt c ∧ rd nt c < u.length)
def lp2 (u : List (List Int)) (nt : List Int) (c d : Nat) : Bool := decide (OppTo u nt c d)
def lp1 (u : List (List Int)) (nt : List Int) (c : Nat) : Bool := decide (rd nt (rd nt c) = c) && decide (meetI u c (rd nt c).toNat = leastI u) && allF u.length (lp2 u nt c) 0
theorem lg_l2 (h : Lat u) (hl : nt.length = u.length) (H0 : ∀ c, c < u.length → 0 ≤ rd nt c ∧ rd nt c < u.length) {a : Nat} (ha : a < u.length) {le : Int} {r : Bool}
    (H : Ev (fun k => spec_LogicOk.l1 k u.length le ((a + 1 : Nat) : Int) u nt) r) (b : Nat) (hb : b ≤ u.length) :
    Ev (fun k => spec_LogicOk.l2 k u.length le a b u nt) (allF u.length (lp2 u nt a) b && r) := by
  have h12 := h.1.le12
  refine down u.length (fun b => Ev (fun k => spec_LogicOk.l2 k u.length le a b u nt) (allF u.length (lp2 u nt a) b && r)) ?_ ?_ b hb
  · refine Ev.step (fun k => spec_LogicOk.l2.eq_2 ..) ?_
    refine Ev.neg (by omega) ?_
    rw [wrap_succ a (by omega), allF_end (Nat.le_refl _), Bool.true_and]
    exact H
  · intro b hb ih
    have hra : (rd_L1 u (a : Int)).length = u.length := row_len h.1 ha
    have hb0 := H0 b hb
    have ha0 := H0 a ha
    have hrb : (rd_L1 u (rd nt (b : Int))).length = u.length := by
      obtain ⟨m, hm, hm2⟩ := nat_of hb0
      rw [hm]
      exact row_len h.1 hm2
    refine Ev.step (fun k => spec_LogicOk.l2.eq_2 ..) ?_
    repeat (refine Ev.pos (by omega) ?_)
    rw [at_nat]
    rw [wrap_succ b (by omega)]
    by_cases k1 : rdN u a b = 1
    · refine Ev.pos k1 ?_
      repeat (refine Ev.pos (by omega) ?_)
      have hv : rd (rd_L1 u (rd nt (b : Int))) (rd nt (a : Int)) = rdN u (rd nt b).toNat (rd nt a).toNat := by
        obtain ⟨m, hm, hm2⟩ := nat_of hb0
        obtain ⟨l, hl, hl2⟩ := nat_of ha0
        rw [hm, hl, Int.toNat_natCast, Int.toNat_natCast, at_nat]
      rw [hv]
      have hbit := h.1.bit (a := (rd nt b).toNat) (b := (rd nt a).toNat) (by omega) (by omega)
      by_cases k2 : rdN u (rd nt b).toNat (rd nt a).toNat = 0
      · refine Ev.pos k2 (Ev.ret ?_)
        rw [allF_step hb]
        have : lp2 u nt a b = false := decide_eq_false (fun q => by have := q k1; omega)
        rw [this, Bool.false_and, Bool.false_and]
      · refine Ev.neg k2 ?_
        have : lp2 u nt a b = true := decide_eq_true (fun _ => by omega)
        rw [allF_step hb, this, Bool.true_and]
        exact ih
    · refine Ev.neg k1 ?_
      have : lp2 u nt a b = true := decide_eq_true (fun q => absurd q k1)
      rw [allF_step hb, this, Bool.true_and]
      exact ih
theorem lg_l1 (h : Lat u) (hl : nt.length = u.length) (H0 : ∀ c, c < u.length → 0 ≤ rd nt c ∧ rd nt c < u.length) (a : Nat) (ha : a ≤ u.length) :
    Ev (fun k => spec_LogicOk.l1 k u.length (leastI u) a u nt) (allF u.length (lp1 u nt) a) := by
  have h12 := h.1.le12
  refine down u.length (fun a => Ev (fun k => spec_LogicOk.l1 k u.length (leastI u) a u nt) (allF u.length (lp1 u nt) a)) ?_ ?_ a ha
  · refine Ev.step (fun k => spec_LogicOk.l1.eq_2 ..) ?_
    refine Ev.neg (by omega) (Ev.ret ?_)
    rw [allF_end (Nat.le_refl _)]
  · intro a ha ih
    have ha0 := H0 a ha
    refine Ev.step (fun k => spec_LogicOk.l1.eq_2 ..) ?_
    repeat (refine Ev.pos (by omega) ?_)
    by_cases k1 : rd nt (rd nt (a : Int)) = a
    · refine Ev.pos k1 ?_
      obtain ⟨m, hm, hm2⟩ := nat_of ha0
      have hme : Ev (fun k => spec_l1Meet.f k u a (rd nt (a : Int))) (meetI u a m) := by rw [hm]; exact spec_meet_ev h.1 ha hm2
      refine Ev.bind hme ?_
      refine Ev.step (fun k => spec_LogicOk.j3.eq_2 ..) ?_
      by_cases k2 : meetI u a m = leastI u
      · refine Ev.ff (by rw [k2]; simp) ?_
        refine Ev.to (lg_l2 h hl H0 ha ih 0 (Nat.zero_le _)) ?_
        rw [allF_step ha]
        have : lp1 u nt a = allF u.length (lp2 u nt a) 0 := by unfold lp1; rw [decide_eq_true k1, hm, Int.toNat_natCast, decide_eq_true k2]; rfl
        rw [this]
      · refine Ev.tt (bne_iff_ne.mpr k2) (Ev.ret ?_)
        rw [allF_step ha]
        have : lp1 u nt a = false := by unfold lp1; rw [hm, Int.toNat_natCast, decide_eq_false k2, Bool.and_false, Bool.false_and]
        rw [this, Bool.false_and]
    · refine Ev.neg k1 ?_
      refine Ev.step (fun k => spec_LogicOk.j3.eq_2 ..) ?_
      refine Ev.tt rfl (Ev.ret ?_)
      rw [allF_step ha]
      have : lp1 u nt a = false := by unfold lp1; rw [decide_eq_false k1, Bool.false_and, Bool.false_and]
      rw [this, Bool.false_and]
theorem lg_l0 (h : Lat u) (hl : nt.length = u.length) (a : Nat) (ha : a ≤ u.length) : (∀ c, c < a → 0 ≤ rd nt (c : Int) ∧ rd nt (c : Int) < u.length) →
    Ev (fun k => spec_LogicOk.l0 k u.length a u nt) (allF u.length (lp0 u nt) a && allF u.length (lp1 u nt) 0) := by
  have h12 := h.1.le12
  refine down u.length (fun a => (∀ c, c < a → 0 ≤ rd nt (c : Int) ∧ rd nt (c : Int) < u.length) → Ev (fun k => spec_LogicOk.l0 k u.length a u nt) (allF u.length (lp0 u nt) a && allF u.length (lp1 u nt) 0)) ?_ ?_ a ha
  · intro H
    refine Ev.step (fun k => spec_LogicOk.l0.eq_2 ..) ?_
    refine Ev.neg (by omega) ?_
    refine Ev.bind (spec_least_ev u) ?_
    rw [allF_end (Nat.le_refl _), Bool.true_and]
    have hle : (leastOfP u).1 = leastI u := by unfold leastOfP; rw [if_pos h.1]
    rw [hle]
    exact lg_l1 h hl H 0 (Nat.zero_le _)
  · intro a ha ih H
    refine Ev.step (fun k => spec_LogicOk.l0.eq_2 ..) ?_
    repeat (refine Ev.pos (by omega) ?_)
    rw [len_pred h.1]
    refine Ev.bindc (l1In_eq _ _ _) ?_
    by_cases k : 0 ≤ rd nt (a : Int) ∧ rd nt (a : Int) < u.length
    · refine Ev.tt (decide_eq_true (by omega)) ?_
      rw [wrap_succ a (by omega), allF_step ha]
      have : lp0 u nt a = true := decide_eq_true k
      rw [this, Bool.true_and]
      exact ih (fun c hc => if q : c < a then H c q else (show c = a by omega) ▸ k)
    · refine Ev.ff (decide_eq_false (by omega)) (Ev.ret ?_)
      have : lp0 u nt a = false := decide_eq_false k
      rw [allF_step ha, this, Bool.false_and, Bool.false_and]
theorem logic_of_loops (h : Lat u) (hl : nt.length = u.length) : (allF u.length (lp0 u nt) 0 && allF u.length (lp1 u nt) 0) = logicF u nt := by
 unfold logicF
 rw [Bool.eq_iff_iff, Bool.and_eq_true, allF0, allF0, decide_eq_true_iff]
 constructor
 ·rintro ⟨q0, q1⟩
  have r0 := fun c hc => of_decide_eq_true (q0 c hc)
  have r1 : ∀ c, c < u.length → (rd nt (rd nt c) = c ∧ meetI u c (rd nt c).toNat = leastI u) ∧ ∀ d, d < u.length → OppTo u nt c d := by
   intro c hc
   have := q1 c hc
   unfold lp1 at this
   rw [Bool.and_eq_true, Bool.and_eq_true, decide_eq_true_iff, decide_eq_true_iff, allF0] at this
   exact ⟨this.1, fun d hd => of_decide_eq_true (this.2 d hd)⟩
  exact ⟨h, hl, fun c hc => ⟨r0 c hc, (r1 c hc).1.1, (r1 c hc).1.2⟩, fun c hc d hd => (r1 c hc).2 d hd⟩
 ·rintro ⟨_, _, q0, q1⟩
  refine ⟨fun c hc => decide_eq_true (q0 c hc).1, fun c hc => ?_⟩
  unfold lp1
  rw [Bool.and_eq_true, Bool.and_eq_true, decide_eq_true_iff, decide_eq_true_iff, allF0]
  exact ⟨⟨(q0 c hc).2.1, (q0 c hc).2.2⟩, fun d hd => decide_eq_true (q1 c hc d hd)⟩
end
theorem spec_logic_ev (u : List (List Int)) (nt : List Int) : Ev (fun k => spec_LogicOk.f k u nt) (logicF u nt) := by
 unfold spec_LogicOk.f
 refine Ev.bind (spec_lat_ev u) ?_
 by_cases h : Lat u
 ·refine Ev.tt (decide_eq_true h) ?_
  refine Ev.step (fun k => spec_LogicOk.j0.eq_2 ..) ?_
  by_cases hl : nt.length = u.length
  ·refine Ev.ff (by rw [hl]; simp) ?_
   exact Ev.to (lg_l0 h hl 0 (Nat.zero_le _) (fun c hc => absurd hc (Nat.not_lt_zero _))) (logic_of_loops h hl)
  ·refine Ev.tt (bne_iff_ne.mpr (by omega)) (Ev.ret ?_)
   exact (decide_eq_false (fun q => hl q.2.1)).symm
 ·refine Ev.ff (decide_eq_false h) ?_
  refine Ev.step (fun k => spec_LogicOk.j0.eq_2 ..) ?_
  refine Ev.tt rfl (Ev.ret ?_)
  exact (decide_eq_false (fun q => h q.1)).symm
section
variable (u : List (List Int)) (nt : List Int)
theorem ok1 {n : Nat} {a : Int} : okAll n [a] = true ↔ (0 ≤ a ∧ a < n) := by simp [okAll]
end
section
variable {u : List (List Int)} {nt : List Int}
theorem ng_inL (h : OL u nt) {a : Int} (ha : 0 ≤ a ∧ a < u.length) : 0 ≤ rd nt a ∧ rd nt a < u.length := by
 obtain ⟨n, rfl, hn⟩ := nat_of ha
 exact (h.2.2.1 n hn).1
end
end Go.Proofs.Ytlkibgccgkhdmaa.Q

namespace Go.Proofs.Ytlkibgccgkhdmaa.P
open Go.RowKit Go.Proofs.YtlkibgccgkhdmaaW.PrintWords Go.Proofs.YtlkibgccgkhdmaaW.PrintLast Go.Proofs.YtlkibgccgkhdmaaW.PrintMore Go.Proofs.Cl
set_option linter.unusedVariables false
end Go.Proofs.Ytlkibgccgkhdmaa.P

namespace Go.Proofs.Ytlkibgccgkhdmaa.Q
open Go.RowKit Go.Proofs.YtlkibgccgkhdmaaW.PrintWords Go.Proofs.YtlkibgccgkhdmaaW.PrintLast Go.Proofs.YtlkibgccgkhdmaaW.PrintMore Go.Proofs.Ytlkibgccgkhdmaa.P Go.Proofs.Cl
set_option linter.unusedVariables false

def Bytes (b : List Int) : Prop := ∀ x, x ∈ b → 0 ≤ x ∧ x ≤ 255
theorem Bytes.at_ {b : List Int} (h : Bytes b) {i : Int} (h0 : 0 ≤ i) (h1 : i < b.length) : 0 ≤ rd b i ∧ rd b i ≤ 255 := by
 obtain ⟨j, rfl⟩ := Int.eq_ofNat_of_zero_le h0
 have hj : j < b.length := by omega
 have : rd b (j : Int) = b[j] := by
  show b.getD j 0 = b[j]
  rw [List.getD_eq_getElem?_getD, List.getElem?_eq_getElem hj]
  rfl
 rw [this]
 exact h _ (List.getElem_mem hj)
theorem pow_cast (m : Nat) : (2 : Int) ^ m = ((2 ^ m : Nat) : Int) := by norm_cast
theorem set_of {n : Nat} {s : Int} (h : isSetB n s = true) : ∃ S : Nat, s = S ∧ S < 2 ^ n ∧ 0 < S := by
 have h := of_decide_eq_true h
 rw [pow_cast] at h
 exact ⟨s.toNat, by omega, by omega, by omega⟩
section
variable {u : List (List Int)} {nt : List Int}
end
section
variable {u : List (List Int)} {nt : List Int}
end
section
variable {u : List (List Int)} {nt : List Int}
def cp (u : List (List Int)) (nt : List Int) (a b : Nat) : Bool := decide (withB u nt a b ∧ withB u nt b a)
end
end Go.Proofs.Ytlkibgccgkhdmaa.Q

namespace Go.Proofs.Ytlkibgccgkhdmaa.P
open Go.RowKit Go.Proofs.YtlkibgccgkhdmaaW.PrintWords Go.Proofs.YtlkibgccgkhdmaaW.PrintLast Go.Proofs.YtlkibgccgkhdmaaW.PrintMore Go.Proofs.Cl
set_option linter.unusedVariables false
def lastP (l : List Int) : Nat → Int → Int
 | 0, _ => 0
 | k + 1, x => if x = l.getD k 0 then (k : Int) else lastP l k x
def inP (l : List Int) : Nat → Int → Bool
 | 0, _ => false
 | k + 1, x => if x = l.getD k 0 then true else inP l k x
def szP (l : List Int) : Nat → Nat
 | 0 => 0
 | k + 1 => if inP l k (l.getD k 0) = true then szP l k else szP l k + 1
end Go.Proofs.Ytlkibgccgkhdmaa.P

namespace Go.Proofs.Ytlkibgccgkhdmaa.Q
open Go.RowKit Go.Proofs.YtlkibgccgkhdmaaW.PrintWords Go.Proofs.YtlkibgccgkhdmaaW.PrintLast Go.Proofs.YtlkibgccgkhdmaaW.PrintMore Go.Proofs.Ytlkibgccgkhdmaa.P Go.Proofs.Cl
set_option linter.unusedVariables false
section
variable {u : List (List Int)} {nt l : List Int}
end
theorem tdiv_nat (i m : Nat) (hi : i < 1000) : wrap64 (Int.tdiv (i : Int) (m : Int)) = ((i / m : Nat) : Int) := by
 have h := Nat.div_le_self i m
 have e : Int.tdiv (i : Int) (m : Int) = ((i / m : Nat) : Int) := by
  rw [Int.tdiv_eq_ediv_of_nonneg (by omega)]
  norm_cast
 rw [e]
 generalize i / m = q at h ⊢
 exact wrap_of _ (by omega) (by omega)
theorem tmod_nat (i m : Nat) : Int.tmod (i : Int) (m : Int) = ((i % m : Nat) : Int) := by
 rw [Int.tmod_eq_emod_of_nonneg (by omega)]
 norm_cast
section
variable {u v : List (List Int)} {nt mtt : List Int}
def rowT (u v : List (List Int)) (m i j : Nat) : List Int := (List.range j).map fun k => if timesB u v m i k = true then 1 else 0
def rowsT (u v : List (List Int)) (m N i : Nat) : List (List Int) := (List.range i).map fun a => rowT u v m a N
def notT (nt mtt : List Int) (m i : Nat) : List Int := (List.range i).map fun a => rd nt ((a / m : Nat) : Int) * (m : Int) + rd mtt ((a % m : Nat) : Int)
theorem rowT_succ (m i j : Nat) : rowT u v m i (j + 1) = rowT u v m i j ++ [if timesB u v m i j = true then 1 else 0] := by simp [rowT, List.range_succ]
theorem rowsT_succ (m N i : Nat) : rowsT u v m N (i + 1) = rowsT u v m N i ++ [rowT u v m i N] := by simp [rowsT, List.range_succ]
theorem notT_succ (m i : Nat) : notT nt mtt m (i + 1) = notT nt mtt m i ++ [rd nt ((i / m : Nat) : Int) * (m : Int) + rd mtt ((i % m : Nat) : Int)] := by simp [notT, List.range_succ]
theorem rowT_len (m i j : Nat) : (rowT u v m i j).length = j := by simp [rowT]
theorem rowsT_len (m N i : Nat) : (rowsT u v m N i).length = i := by simp [rowsT]
theorem notT_len (m i : Nat) : (notT nt mtt m i).length = i := by simp [notT]
theorem nat_lt {x n : Nat} (h : x < n) : 0 ≤ (x : Int) ∧ (x : Int) < (n : Int) := by omega
theorem div_in {i m n : Nat} (h : i < n * m) : i / m < n := Nat.div_lt_of_lt_mul (by rw [Nat.mul_comm]; exact h)
theorem bit_mul {a b : Int} (ha : a = 0 ∨ a = 1) (hb : b = 0 ∨ b = 1) : wrap64 (a * b) = if (decide (a = 1 ∧ b = 1)) = true then 1 else 0 := by
 rcases ha with rfl | rfl <;> rcases hb with rfl | rfl <;> (rw [wrap_of _ (by decide) (by decide)]; decide)
theorem tm_l1 (h1 : OL u nt) (h2 : OL v mtt) {N : Nat} (hN : u.length * v.length = N) (h12 : N ≤ 12) {i : Nat} (hi : i < N) {r : List (List Int) × List Int × Bool}
    (H : Ev (fun k => spec_TimesOf.l0 k u.length v.length ((i + 1 : Nat) : Int) u nt v mtt (rowsT u v v.length N (i + 1)) (notT nt mtt v.length (i + 1))) r) (j : Nat) (hj : j ≤ N) :
    Ev (fun k => spec_TimesOf.l1 k u.length v.length i (rowT u v v.length i j) j u nt v mtt (rowsT u v v.length N i) (notT nt mtt v.length i)) r := by
  have u12 := h1.1.1.le12
  have v12 := h2.1.1.le12
  have v1 := h2.1.1.pos
  have hw : wrap64 ((u.length : Int) * (v.length : Int)) = (N : Int) := by
    have : (u.length : Int) * (v.length : Int) = (N : Int) := by rw [← hN]; norm_cast
    rw [this]
    exact wrap_of _ (by omega) (by omega)
  have q1 : i / v.length < u.length := div_in (by rw [hN]; exact hi)
  have p1 : i % v.length < v.length := Nat.mod_lt _ v1
  have z1 := ng_inL h1 (a := ((i / v.length : Nat) : Int)) (nat_lt q1)
  have z2 := ng_inL h2 (a := ((i % v.length : Nat) : Int)) (nat_lt p1)
  refine down N (fun j => Ev (fun k => spec_TimesOf.l1 k u.length v.length i (rowT u v v.length i j) j u nt v mtt (rowsT u v v.length N i) (notT nt mtt v.length i)) r) ?_ ?_ j hj
  · refine Ev.step (fun k => spec_TimesOf.l1.eq_2 ..) (Ev.neg (by rw [hw]; omega) (Ev.pos (by rw [rowsT_len]; omega) (Ev.neg (by omega) ?_)))
    rw [tdiv_nat i _ (by omega), tmod_nat]
    refine Ev.pos (nat_lt q1).1 (Ev.pos (by rw [h1.2.1]; exact (nat_lt q1).2) (Ev.pos (nat_lt p1).1 (Ev.pos (by rw [h2.2.1]; exact (nat_lt p1).2) (Ev.pos (by rw [notT_len]; omega) ?_))))
    obtain ⟨x, ex⟩ : ∃ x, rd nt ((i / v.length : Nat) : Int) = x := ⟨_, rfl⟩
    rw [ex] at z1
    have hx : 0 ≤ x * (v.length : Int) ∧ x * (v.length : Int) ≤ 144 := ⟨Int.mul_nonneg z1.1 (by omega), Int.le_trans (Int.mul_le_mul (show x ≤ 12 by omega) (show (v.length : Int) ≤ 12 by omega) (by omega) (by omega)) (by decide)⟩
    have e : wrap64 ((wrap64 (x * (v.length : Int))) + rd mtt ((i % v.length : Nat) : Int)) = x * (v.length : Int) + rd mtt ((i % v.length : Nat) : Int) := by
      obtain ⟨y, ey⟩ : ∃ y, x * (v.length : Int) = y := ⟨_, rfl⟩
      rw [ey] at hx ⊢
      obtain ⟨y2, ey2⟩ : ∃ y2, rd mtt ((i % v.length : Nat) : Int) = y2 := ⟨_, rfl⟩
      rw [ey2] at z2 ⊢
      rw [wrap_of y (by omega) (by omega), wrap_of _ (by omega) (by omega)]
    rw [ex, e, wrap_succ i (by omega), ← rowsT_succ]
    rw [notT_succ, ex] at H
    exact H
  · intro j hj ih
    have q2 : j / v.length < u.length := div_in (by rw [hN]; exact hj)
    have p2 : j % v.length < v.length := Nat.mod_lt _ v1
    refine Ev.step (fun k => spec_TimesOf.l1.eq_2 ..) (Ev.pos (by rw [hw]; omega) (Ev.neg (by omega) ?_))
    rw [tdiv_nat i _ (by omega), tdiv_nat j _ (by omega), tmod_nat, tmod_nat]
    refine Ev.pos (nat_lt q1).1 (Ev.pos (nat_lt q1).2 (Ev.pos (nat_lt q2).1 (Ev.pos (by rw [row_nat, h1.1.1.row q1]; exact (nat_lt q2).2) (Ev.pos (nat_lt p1).1 (Ev.pos (nat_lt p1).2 (Ev.pos (nat_lt p2).1 (Ev.pos (by rw [row_nat, h2.1.1.row p1]; exact (nat_lt p2).2) (Ev.pos (by rw [rowT_len]; omega) ?_))))))))
    rw [at_nat, at_nat, bit_mul (h1.1.1.bit q1 q2) (h2.1.1.bit p1 p2), wrap_succ j (by omega)]
    rw [rowT_succ] at ih
    exact ih
theorem tm_l0 (h1 : OL u nt) (h2 : OL v mtt) {N : Nat} (hN : u.length * v.length = N) (h12 : N ≤ 12) (i : Nat) (hi : i ≤ N) :
    Ev (fun k => spec_TimesOf.l0 k u.length v.length i u nt v mtt (rowsT u v v.length N i) (notT nt mtt v.length i)) (rowsT u v v.length N N, notT nt mtt v.length N, true) := by
  have hw : wrap64 ((u.length : Int) * (v.length : Int)) = (N : Int) := by
    have : (u.length : Int) * (v.length : Int) = (N : Int) := by rw [← hN]; norm_cast
    rw [this]
    exact wrap_of _ (by omega) (by omega)
  refine down N (fun i => Ev (fun k => spec_TimesOf.l0 k u.length v.length i u nt v mtt (rowsT u v v.length N i) (notT nt mtt v.length i)) (rowsT u v v.length N N, notT nt mtt v.length N, true)) ?_ ?_ i hi
  · exact Ev.step (fun k => spec_TimesOf.l0.eq_2 ..) (Ev.neg (by rw [hw]; omega) (Ev.ret rfl))
  · intro i hi ih
    exact Ev.step (fun k => spec_TimesOf.l0.eq_2 ..) (Ev.pos (by rw [hw]; omega) (tm_l1 h1 h2 hN h12 hi ih 0 (Nat.zero_le _)))
end
theorem spec_times_ev (u : List (List Int)) (nt : List Int) (v : List (List Int)) (mtt : List Int) : Ev (fun k => spec_TimesOf.f k u nt v mtt) (timesF u nt v mtt) := by
 unfold spec_TimesOf.f
 have none_ : ¬ (OL u nt ∧ OL v mtt ∧ u.length * v.length ≤ 12) → ([], [], false) = timesF u nt v mtt := fun k => (if_neg k).symm
 refine Ev.bind (spec_logic_ev u nt) ?_
 by_cases h1 : OL u nt
 ·refine Ev.tt (decide_eq_true h1) (Ev.bind (spec_logic_ev v mtt) ?_)
  by_cases h2 : OL v mtt
  ·have u12 := h1.1.1.le12
   have v12 := h2.1.1.le12
   obtain ⟨N, hN⟩ : ∃ N, u.length * v.length = N := ⟨_, rfl⟩
   have hb : N ≤ 144 := by rw [← hN]; exact Nat.le_trans (Nat.mul_le_mul u12 v12) (by decide)
   refine Ev.tt (decide_eq_true h2) (Ev.step (fun k => spec_TimesOf.j0.eq_2 ..) ?_)
   have hw : wrap64 ((nt.length : Int) * (mtt.length : Int)) = (N : Int) := by
    have : (nt.length : Int) * (mtt.length : Int) = (N : Int) := by rw [h1.2.1, h2.2.1, ← hN]; norm_cast
    rw [this]
    exact wrap_of _ (by omega) (by omega)
   rw [hw]
   by_cases q : N ≤ 12
   ·refine Ev.ff (decide_eq_false (by omega)) ?_
    rw [h1.2.1, h2.2.1]
    have e : timesF u nt v mtt = (rowsT u v v.length N N, notT nt mtt v.length N, true) := by
     unfold timesF
     rw [if_pos ⟨h1, h2, by omega⟩, hN]
     rfl
    rw [e]
    exact tm_l0 h1 h2 hN q 0 (Nat.zero_le _)
   ·exact Ev.tt (decide_eq_true (by omega)) (Ev.ret (none_ (fun k => q (by omega))))
  ·exact Ev.ff (decide_eq_false h2) (Ev.step (fun k => spec_TimesOf.j0.eq_2 ..) (Ev.tt rfl (Ev.ret (none_ (fun k => h2 k.2.1)))))
 ·exact Ev.ff (decide_eq_false h1) (Ev.step (fun k => spec_TimesOf.j0.eq_2 ..) (Ev.tt rfl (Ev.ret (none_ (fun k => h1 k.1)))))
end Go.Proofs.Ytlkibgccgkhdmaa.Q

namespace Go.Proofs.Ytlkibgccgkhdmaa.P
open Go.RowKit Go.Proofs.YtlkibgccgkhdmaaW.PrintWords Go.Proofs.YtlkibgccgkhdmaaW.PrintLast Go.Proofs.YtlkibgccgkhdmaaW.PrintMore Go.Proofs.Cl
set_option linter.unusedVariables false
end Go.Proofs.Ytlkibgccgkhdmaa.P

namespace Go.Proofs.Ytlkibgccgkhdmaa.Q
open Go.RowKit Go.Proofs.YtlkibgccgkhdmaaW.PrintWords Go.Proofs.YtlkibgccgkhdmaaW.PrintLast Go.Proofs.YtlkibgccgkhdmaaW.PrintMore Go.Proofs.Ytlkibgccgkhdmaa.P Go.Proofs.Cl
set_option linter.unusedVariables false
section
variable {u : List (List Int)} {nt o : List Int}
end

theorem toIntS_ev (xs : List Int) (h : xs.length ≤ 35184372088832) : Ev (fun k => laws_toIntS.f k xs) xs := by
 unfold laws_toIntS.f
 refine Ev.pos (by omega) (Ev.pos (by omega) ?_)
 have key : ∀ i, i ≤ xs.length → Ev (fun k => laws_toIntS.l0 k xs (xs.take i ++ List.replicate (xs.length - i) 0) i) xs := by
  intro i hi
  refine down xs.length (fun i => Ev (fun k => laws_toIntS.l0 k xs (xs.take i ++ List.replicate (xs.length - i) 0) i) xs) ?_ ?_ i hi
  ·refine Ev.step (fun k => laws_toIntS.l0.eq_2 ..) ?_
   exact Ev.neg (by omega) (Ev.ret (by simp))
  ·intro i hi ih
   refine Ev.step (fun k => laws_toIntS.l0.eq_2 ..) ?_
   refine Ev.pos (by omega) (Ev.pos (by omega) (Ev.pos (by simp; omega) ?_))
   rw [wrap_succ' i (by omega), rd_lt xs hi, show ((i : Int)).toNat = i from rfl, set_step xs 0 i hi]
   exact ih
 have := key 0 (Nat.zero_le _)
 simpa using this
theorem toIntSS_ev (u : List (List Int)) (h : u.length ≤ 11728124029610) (hr : ∀ i (k : i < u.length), u[i].length ≤ 35184372088832) : Ev (fun k => laws_toIntSS.f k u) u := by
 unfold laws_toIntSS.f
 refine Ev.pos (by omega) (Ev.pos (by omega) ?_)
 have key : ∀ i, i ≤ u.length → Ev (fun k => laws_toIntSS.l0 k u (u.take i ++ List.replicate (u.length - i) []) i) u := by
  intro i hi
  refine down u.length (fun i => Ev (fun k => laws_toIntSS.l0 k u (u.take i ++ List.replicate (u.length - i) []) i) u) ?_ ?_ i hi
  ·refine Ev.step (fun k => laws_toIntSS.l0.eq_2 ..) ?_
   exact Ev.neg (by omega) (Ev.ret (by simp))
  ·intro i hi ih
   refine Ev.step (fun k => laws_toIntSS.l0.eq_2 ..) ?_
   refine Ev.pos (by omega) (Ev.pos (by omega) ?_)
   rw [row_lt u hi]
   refine Ev.bind (toIntS_ev _ (hr i hi)) ?_
   refine Ev.pos (by simp; omega) ?_
   rw [wrap_succ' i (by omega), show ((i : Int)).toNat = i from rfl, set_step u [] i hi]
   exact ih
 have := key 0 (Nat.zero_le _)
 simpa using this
theorem eqIntS_ev (xs : List Int) (h : xs.length < 9223372036854775807) : Ev (fun k => laws_eqIntS.f k xs xs) true := by
 unfold laws_eqIntS.f
 refine Ev.pos rfl ?_
 refine down xs.length (fun i => Ev (fun k => laws_eqIntS.l0 k xs xs i) true) ?_ ?_ 0 (Nat.zero_le _)
 ·refine Ev.step (fun k => laws_eqIntS.l0.eq_2 ..) ?_
  exact Ev.neg (by omega) (Ev.ret rfl)
 ·intro i hi ih
  refine Ev.step (fun k => laws_eqIntS.l0.eq_2 ..) ?_
  refine Ev.pos (by omega) (Ev.pos (by omega) (Ev.pos (by omega) (Ev.pos rfl ?_)))
  rw [wrap_succ' i (by omega)]
  exact ih
theorem eqIntSS_ev (u : List (List Int)) (h : u.length < 9223372036854775807) (hr : ∀ i (k : i < u.length), u[i].length < 9223372036854775807) : Ev (fun k => laws_eqIntSS.f k u u) true := by
 unfold laws_eqIntSS.f
 refine Ev.pos rfl ?_
 refine down u.length (fun i => Ev (fun k => laws_eqIntSS.l0 k u u i) true) ?_ ?_ 0 (Nat.zero_le _)
 ·refine Ev.step (fun k => laws_eqIntSS.l0.eq_2 ..) ?_
  exact Ev.neg (by omega) (Ev.ret rfl)
 ·intro i hi ih
  refine Ev.step (fun k => laws_eqIntSS.l0.eq_2 ..) ?_
  refine Ev.pos (by omega) (Ev.pos (by omega) (Ev.pos (by omega) ?_))
  rw [row_lt u hi]
  refine Ev.bind (eqIntS_ev _ (hr i hi)) (Ev.pos rfl ?_)
  rw [wrap_succ' i (by omega)]
  exact ih
theorem szIntS_eq (xs : List Int) (a : Int) (h0 : 0 ≤ a) (h1 : a ≤ 1048576) (hx : xs.length ≤ 9223372036854775807) : laws_szIntS.f xs a = some (if a - xs.length < 0 then -1 else a - xs.length) := by
 unfold laws_szIntS.f
 rw [wrap_of _ (by omega) (by omega)]
 by_cases h : a - xs.length < 0
 ·rw [if_pos h, if_pos h]
 ·rw [if_neg h, if_neg h]
theorem szIntSS_ev (u : List (List Int)) (a : Int) (h0 : 0 ≤ a) (h1 : a ≤ 1048576) (hu : u.length ≤ 9223372036854775807) (hr : ∀ i (k : i < u.length), u[i].length ≤ 9223372036854775807) :
    ∃ r, Ev (fun k => laws_szIntSS.f k u a) r ∧ r ≤ 1048576 ∧ (0 ≤ r → u.length ≤ 1048576 ∧ ∀ i (k : i < u.length), u[i].length ≤ 1048576) := by
  unfold laws_szIntSS.f
  rw [wrap_of _ (by omega) (by omega)]
  by_cases e : a - u.length < 0
  · exact ⟨-1, Ev.pos e (Ev.ret rfl), by omega, fun h => by omega⟩
  · have key : ∀ i, i ≤ u.length → ∀ b : Int, 0 ≤ b → b ≤ 1048576 → ∃ r, Ev (fun k => laws_szIntSS.l0 k u b i) r ∧ r ≤ 1048576 ∧ (0 ≤ r → ∀ j (k : j < u.length), i ≤ j → u[j].length ≤ 1048576) := by
      intro i hi
      refine down u.length (fun i => ∀ b : Int, 0 ≤ b → b ≤ 1048576 → ∃ r, Ev (fun k => laws_szIntSS.l0 k u b i) r ∧ r ≤ 1048576 ∧ (0 ≤ r → ∀ j (k : j < u.length), i ≤ j → u[j].length ≤ 1048576)) ?_ ?_ i hi
      · intro b b0 b1
        refine ⟨b, Ev.step (fun k => laws_szIntSS.l0.eq_2 ..) (Ev.neg (by omega) (Ev.ret rfl)), b1, fun _ j hj k => by omega⟩
      · intro i hi ih b b0 b1
        have hs := szIntS_eq u[i] b b0 b1 (hr i hi)
        by_cases e2 : b - u[i].length < 0
        · rw [if_pos e2] at hs
          refine ⟨-1, Ev.step (fun k => laws_szIntSS.l0.eq_2 ..) ?_, by omega, fun h => by omega⟩
          refine Ev.pos (by omega) (Ev.pos (by omega) ?_)
          rw [row_lt u hi]
          exact Ev.bindc hs (Ev.pos (by omega) (Ev.ret rfl))
        · rw [if_neg e2] at hs
          obtain ⟨r, k1, k3, k2⟩ := ih (b - u[i].length) (by omega) (by omega)
          refine ⟨r, Ev.step (fun k => laws_szIntSS.l0.eq_2 ..) ?_, k3, fun h j hj k => ?_⟩
          · refine Ev.pos (by omega) (Ev.pos (by omega) ?_)
            rw [row_lt u hi]
            refine Ev.bindc hs (Ev.neg (by omega) ?_)
            rw [wrap_succ' i (by omega)]
            exact k1
          · by_cases e3 : j = i
            · subst e3
              omega
            · exact k2 h j hj (by omega)
    obtain ⟨r, k1, k3, k2⟩ := key 0 (Nat.zero_le _) (a - u.length) (by omega) (by omega)
    exact ⟨r, Ev.neg e k1, k3, fun h => ⟨by omega, fun i hi => k2 h i hi (Nat.zero_le _)⟩⟩
section
variable {u : List (List Int)} {nt : List Int}
theorem copyL (h1 : u.length ≤ 1048576) (h2 : ∀ i (k : i < u.length), u[i].length ≤ 1048576) (h3 : nt.length ≤ 1048576) : Ev (fun k => laws_toLogic.f k u nt) (u, nt) := by
 unfold laws_toLogic.f
 exact Ev.bind (toIntSS_ev u (by omega) (fun i k => by have := h2 i k; omega)) (Ev.bind (toIntS_ev nt (by omega)) (Ev.ret rfl))
theorem sameL (h1 : u.length ≤ 1048576) (h2 : ∀ i (k : i < u.length), u[i].length ≤ 1048576) (h3 : nt.length ≤ 1048576) : Ev (fun k => laws_eqLogic.f k u nt u nt) true := by
 unfold laws_eqLogic.f
 exact Ev.bind (eqIntSS_ev u (by omega) (fun i k => by have := h2 i k; omega)) (Ev.pos rfl (Ev.bind (eqIntS_ev nt (by omega)) (Ev.pos rfl (Ev.ret rfl))))
end
def mk1 (n : Nat) (a : Int) : List Int := (List.range n).map fun (i : Nat) => a + i
def tot (u : List (List Int)) : Nat := (u.map List.length).sum
def mk2 : List (List Int) → Int → List (List Int)
 | [], _ => []
 | x :: xs, a => mk1 x.length a :: mk2 xs (a + x.length)
theorem mk1_len (n : Nat) (a : Int) : (mk1 n a).length = n := by simp [mk1]
theorem mk1_at {n : Nat} {a : Int} {i : Nat} (h : i < n) : (mk1 n a)[i]'(by rw [mk1_len]; exact h) = a + i := by simp [mk1]
theorem tot_cons (x : List Int) (xs : List (List Int)) : tot (x :: xs) = x.length + tot xs := by simp [tot]
theorem tot_append (xs ys : List (List Int)) : tot (xs ++ ys) = tot xs + tot ys := by simp [tot]
theorem tot_le (M : Nat) : ∀ u : List (List Int), (∀ x ∈ u, x.length ≤ M) → tot u ≤ u.length * M
  | [], _ => by simp [tot]
  | x :: xs, h => by
    have h1 := h x List.mem_cons_self
    have h2 := tot_le M xs (fun y hy => h y (List.mem_cons_of_mem _ hy))
    rw [tot_cons, List.length_cons, Nat.succ_mul]
    omega
theorem mk2_len (u : List (List Int)) (a : Int) : (mk2 u a).length = u.length := by
 induction u generalizing a with
 | nil => rfl
 | cons x xs ih => simp [mk2, ih]
theorem mk2_append (xs ys : List (List Int)) (a : Int) : mk2 (xs ++ ys) a = mk2 xs a ++ mk2 ys (a + tot xs) := by
 induction xs generalizing a with
 | nil => simp [mk2, tot]
 | cons x xs ih =>
  rw [List.cons_append, mk2, mk2, ih, tot_cons, List.cons_append]
  congr 3
  omega
theorem take_one (u : List (List Int)) {i : Nat} (h : i < u.length) : u.take (i + 1) = u.take i ++ [u[i]] := List.take_succ_eq_append_getElem h
theorem tot_take (u : List (List Int)) {i : Nat} (h : i < u.length) : tot (u.take (i + 1)) = tot (u.take i) + u[i].length := by
 rw [take_one u h, tot_append]
 simp [tot]
theorem tot_take_le (u : List (List Int)) (i : Nat) : tot (u.take i) ≤ tot u := by
 have := tot_append (u.take i) (u.drop i)
 rw [List.take_append_drop] at this
 omega
def cur (u : List (List Int)) (a : Int) (i : Nat) : List (List Int) := mk2 (u.take i) a ++ u.drop i
theorem cur_zero (u : List (List Int)) (a : Int) : cur u a 0 = u := by simp [cur, mk2]
theorem cur_full (u : List (List Int)) (a : Int) : cur u a u.length = mk2 u a := by simp [cur]
theorem cur_len (u : List (List Int)) (a : Int) {i : Nat} (h : i ≤ u.length) : (cur u a i).length = u.length := by
 rw [cur, List.length_append, mk2_len, List.length_take, List.length_drop]
 omega
theorem cur_at (u : List (List Int)) (a : Int) {i : Nat} (h : i < u.length) : rd_L1 (cur u a i) (i : Int) = u[i] := by
 rw [row_nat, cur, List.getD_eq_getElem?_getD, List.getElem?_append_right (by rw [mk2_len, List.length_take]; omega), mk2_len, List.length_take, List.getElem?_drop]
 rw [show i + (i - min i u.length) = i by omega, List.getElem?_eq_getElem h, Option.getD_some]
theorem cur_set (u : List (List Int)) (a : Int) {i : Nat} (h : i < u.length) : (cur u a i).set i (mk1 u[i].length (a + tot (u.take i))) = cur u a (i + 1) := by
 have e : u.drop i = u[i] :: u.drop (i + 1) := by rw [List.drop_eq_getElem_cons h]
 rw [cur, List.set_append, if_neg (by rw [mk2_len, List.length_take]; omega), mk2_len, List.length_take, show i - min i u.length = 0 by omega, e, List.set_cons_zero]
 rw [cur, take_one u h, mk2_append, List.append_assoc]
 rfl
theorem markIntS_ev (xs : List Int) (a : Int) (h0 : 0 ≤ a) (h1 : a + xs.length ≤ 9223372036854775807) : Ev (fun k => laws_markIntS.f k xs a) (a + xs.length, mk1 xs.length a) := by
 unfold laws_markIntS.f
 have key := down xs.length (fun i => Ev (fun k => laws_markIntS.l0 k (mk1 i a ++ xs.drop i) (a + i) i) (a + xs.length, mk1 xs.length a)) ?_ ?_ 0 (Nat.zero_le _)
 ·have e : mk1 0 a ++ xs.drop 0 = xs := by simp [mk1]
  rw [e] at key
  simpa using key
 ·refine Ev.step (fun k => laws_markIntS.l0.eq_2 ..) ?_
  have e : mk1 xs.length a ++ xs.drop xs.length = mk1 xs.length a := by simp
  rw [e]
  exact Ev.neg (by rw [mk1_len]; omega) (Ev.ret rfl)
 ·intro i hi ih
  refine Ev.step (fun k => laws_markIntS.l0.eq_2 ..) ?_
  refine Ev.pos (by rw [List.length_append, mk1_len, List.length_drop]; omega) (Ev.pos (by omega) ?_)
  rw [wrap_succ' i (by omega), Int.toNat_natCast]
  have e1 : wrap64 (a + i + 1) = a + ((i + 1 : Nat) : Int) := by rw [wrap_of _ (by omega) (by omega)]; omega
  have e2 : (mk1 i a ++ xs.drop i).set i (a + i) = mk1 (i + 1) a ++ xs.drop (i + 1) := by
   rw [List.set_append, if_neg (by rw [mk1_len]; omega), mk1_len, Nat.sub_self, List.drop_eq_getElem_cons hi, List.set_cons_zero]
   simp [mk1, List.range_succ]
  rw [e1, e2]
  exact ih
theorem heldIntS_ev (m : Nat) (a : Int) (h0 : 0 ≤ a) (h1 : a + m ≤ 9223372036854775807) : Ev (fun k => laws_heldIntS.f k (mk1 m a) a) (a + m) := by
 unfold laws_heldIntS.f
 have key := down m (fun i => Ev (fun k => laws_heldIntS.l0 k (mk1 m a) (a + i) i) (a + m)) ?_ ?_ 0 (Nat.zero_le _)
 ·simpa using key
 ·refine Ev.step (fun k => laws_heldIntS.l0.eq_2 ..) ?_
  exact Ev.neg (by rw [mk1_len]; omega) (Ev.ret rfl)
 ·intro i hi ih
  refine Ev.step (fun k => laws_heldIntS.l0.eq_2 ..) ?_
  refine Ev.pos (by rw [mk1_len]; omega) (Ev.pos (by omega) (Ev.pos (by rw [rd_lt _ (by rw [mk1_len]; exact hi), mk1_at hi]) ?_))
  rw [wrap_succ' i (by omega), show wrap64 (a + i + 1) = a + ((i + 1 : Nat) : Int) by rw [wrap_of _ (by omega) (by omega)]; omega]
  exact ih
theorem mk2_at (u : List (List Int)) (a : Int) {i : Nat} (h : i < u.length) : rd_L1 (mk2 u a) (i : Int) = mk1 u[i].length (a + tot (u.take i)) := by
 have e := cur_set u a h
 have hl : i < (cur u a i).length := by rw [cur_len u a (Nat.le_of_lt h)]; exact h
 have h2 : (mk2 u a)[i]? = some (mk1 u[i].length (a + tot (u.take i))) := by
  rw [← cur_full u a, cur, List.take_length, List.drop_length, List.append_nil]
  conv => lhs; rw [← List.take_append_drop (i + 1) u]
  rw [mk2_append, List.getElem?_append_left (by rw [mk2_len, List.length_take]; omega), take_one u h, mk2_append, List.getElem?_append_right (by rw [mk2_len, List.length_take]; omega), mk2_len, List.length_take, show i - min i u.length = 0 by omega]
  rfl
 rw [row_nat, List.getD_eq_getElem?_getD, h2, Option.getD_some]
theorem heldIntSS_ev (u : List (List Int)) (a : Int) (h0 : 0 ≤ a) (h1 : a + tot u ≤ 9223372036854775807) (hl : u.length ≤ 9223372036854775806) : Ev (fun k => laws_heldIntSS.f k (mk2 u a) a) (a + tot u) := by
 unfold laws_heldIntSS.f
 have key := down u.length (fun i => Ev (fun k => laws_heldIntSS.l0 k (mk2 u a) (a + tot (u.take i)) i) (a + tot u)) ?_ ?_ 0 (Nat.zero_le _)
 ·simpa [tot] using key
 ·refine Ev.step (fun k => laws_heldIntSS.l0.eq_2 ..) ?_
  rw [List.take_length]
  exact Ev.neg (by rw [mk2_len]; omega) (Ev.ret rfl)
 ·intro i hi ih
  have e1 := tot_take u hi
  have e2 := tot_take_le u (i + 1)
  refine Ev.step (fun k => laws_heldIntSS.l0.eq_2 ..) ?_
  refine Ev.pos (by rw [mk2_len]; omega) (Ev.pos (by omega) ?_)
  rw [mk2_at u a hi]
  refine Ev.bind (heldIntS_ev _ _ (by omega) (by omega)) (Ev.neg (by omega) ?_)
  rw [wrap_succ' i (by omega), show a + (tot (u.take i) : Int) + (u[i].length : Nat) = a + (tot (u.take (i + 1)) : Nat) by omega]
  exact ih
theorem heldLogic_ev (u : List (List Int)) (m : Nat) (a : Int) (h0 : 0 ≤ a) (h1 : a + tot u + m ≤ 9223372036854775807) (hl : u.length ≤ 9223372036854775806) : Ev (fun k => laws_heldLogic.f k (mk2 u a) (mk1 m (a + tot u)) a) (a + tot u + m) := by
 unfold laws_heldLogic.f
 exact Ev.bind (heldIntSS_ev u a h0 (by omega) hl) (Ev.neg (by omega) (Ev.bind (heldIntS_ev m _ (by omega) (by omega)) (Ev.neg (by omega) (Ev.ret rfl))))
theorem tot_le2 (u : List (List Int)) (hl : u.length ≤ 1048576) (hz : ∀ i (k : i < u.length), u[i].length ≤ 1048576) : tot u ≤ 1099511627776 := by
 have h1 := tot_le 1048576 u (fun x hx => by
  obtain ⟨i, hi, rfl⟩ := List.getElem_of_mem hx
  exact hz i hi)
 have h2 : u.length * 1048576 ≤ 1048576 * 1048576 := Nat.mul_le_mul_right _ hl
 omega
theorem szL_ev (u : List (List Int)) (nt : List Int) (a : Int) (h0 : 0 ≤ a) (h1 : a ≤ 1048576) (h : (u.length ≤ 9223372036854775807 ∧ ∀ i (k : i < u.length), u[i].length ≤ 9223372036854775807) ∧ nt.length ≤ 9223372036854775807) :
    ∃ x, Ev (fun k => laws_szLogic.f k u nt a) x ∧ x ≤ 1048576 ∧ (0 ≤ x → u.length ≤ 1048576 ∧ (∀ i (k : i < u.length), u[i].length ≤ 1048576) ∧ nt.length ≤ 1048576) := by
  obtain ⟨x, hx, hle, h2⟩ := szIntSS_ev u a h0 h1 h.1.1 h.1.2
  unfold laws_szLogic.f
  by_cases e : x < 0
  · exact ⟨-1, Ev.bind hx (Ev.pos e (Ev.ret rfl)), by omega, fun q => by omega⟩
  · by_cases e2 : x - nt.length < 0
    · refine ⟨-1, Ev.bind hx (Ev.neg e (Ev.bindc (szIntS_eq nt x (by omega) (by omega) h.2) ?_)), by omega, fun q => by omega⟩
      rw [if_pos e2]
      exact Ev.pos (by omega) (Ev.ret rfl)
    · refine ⟨x - nt.length, Ev.bind hx (Ev.neg e (Ev.bindc (szIntS_eq nt x (by omega) (by omega) h.2) ?_)), by omega, fun q => ⟨(h2 (by omega)).1, (h2 (by omega)).2, by omega⟩⟩
      rw [if_neg e2]
      exact Ev.neg e2 (Ev.ret rfl)
def Few (r1 : List (List Int)) (r2 : List Int) : Prop := r1.length ≤ 1048576 ∧ (∀ i (k : i < r1.length), r1[i].length ≤ 1048576) ∧ r2.length ≤ 1048576
theorem few_nil : Few [] [] := ⟨Nat.zero_le _, fun i k => absurd k (Nat.not_lt_zero _), Nat.zero_le _⟩
theorem few_made (n : Nat) (h : n ≤ 1048576) (U : Nat → Nat → Bool) (N : Nat → Int) : Few (madeU n U) (madeN n N) := by
 refine ⟨by simp [madeU]; exact h, fun i k => ?_, by simp [madeN]; exact h⟩
 simp [madeU]
 exact h
end Go.Proofs.Ytlkibgccgkhdmaa.Q

namespace Go.Proofs.Ytlkibgccgkhdmaa.Q
open Go.RowKit Go.ChangeShapes Go.WideShapes Go.Deep Go.Proofs.YtlkibgccgkhdmaaW.PrintWords
set_option linter.unusedVariables false

def IsRows (W : World) (a : Option Addr) (len cap : Nat) : Prop :=
 (a = none ∧ len = 0 ∧ cap = 0) ∨ ∃ (x : Addr) (A : Nat → Option Addr) (L C : Nat → Nat) (Z : Nat → List Int), a = some x ∧ len ≤ cap ∧ cap ≤ maxLen ∧
  ∀ r, r < cap → W.cell? (x.add r) = some (.slice (A r) (L r) (C r)) ∧ L r ≤ C r ∧ C r ≤ maxLen ∧ (Z r).length = C r ∧ (A r = none → C r = 0) ∧
   ∀ a', A r = some a' → ∀ c, c < C r → W.cell? (a'.add c) = some (.int .i64 ((Z r).getD c 0))
theorem IsRows.reads {W : World} {a : Option Addr} {len cap : Nat} (h : IsRows W a len cap) (e : Nat) :
    ∃ u : List (List Int), u.length = len ∧ len ≤ cap ∧ Kd.C (Kd.slice e (Kd.int .i64)) W a u.length u ∧ ∀ i (k : i < u.length), u[i].length ≤ maxLen := by
  rcases h with ⟨rfl, rfl, rfl⟩ | ⟨x, A, L, C, Z, rfl, hl, hm, hr⟩
  · exact ⟨[], rfl, Nat.le_refl _, ⟨rfl, by simp, fun h => absurd h (Nat.lt_irrefl 0)⟩, fun i k => absurd k (by simp)⟩
  · refine ⟨(List.range len).map fun r => (Z r).take (L r), by simp, hl, ⟨rfl, ?_, fun _ => ⟨x, rfl, fun j p hj => ?_⟩⟩, fun i k => ?_⟩
    · simp only [List.length_map, List.length_range]
      exact Nat.le_trans hl (by unfold maxLen at hm; omega)
    · rw [List.getElem?_map] at hj
      have hjl : j < len := by
        rcases Nat.lt_or_ge j len with z | z
        · exact z
        · rw [List.getElem?_eq_none (by simpa using z)] at hj
          simp at hj
      rw [List.getElem?_range hjl] at hj
      have hp : (Z j).take (L j) = p := by simpa using hj
      obtain ⟨hc, h1, h2, h3, h4, h5⟩ := hr j (by omega)
      have hlen : p.length = L j := by rw [← hp, List.length_take]; omega
      refine ⟨[.slice (A j) (L j) (C j)], rfl, ⟨A j, C j, by rw [hlen], by rw [hlen]; exact h1, ?_⟩, fun i w hw => ?_⟩
      · rw [hlen]
        have hn : L j ≤ 9223372036854775807 := by unfold maxLen at h2; omega
        refine Kd.C_of_reads (d := (0 : Int)) (h1 := fun _ => rfl) ⟨hlen, hn, fun h0 => ?_⟩
        cases ha : A j with
        | none => have := h4 ha; omega
        | some a' =>
          refine ⟨a', rfl, fun c hcl => ?_⟩
          have := h5 a' ha c (by omega)
          rw [this, ← hp, List.getD_eq_getElem?_getD, List.getD_eq_getElem?_getD, List.getElem?_take_of_lt hcl]
      · cases i with
        | zero =>
          have : w = .slice (A j) (L j) (C j) := by simpa using hw.symm
          rw [this]
          simpa [Kd.slice] using hc
        | succ i => simp at hw
    · simp only [List.length_map, List.length_range] at k
      rw [List.getElem_map, List.getElem_range, List.length_take]
      obtain ⟨_, h1, h2, h3, _⟩ := hr i (by omega)
      omega
theorem rows_of {H : Type} {enc : TypeId × Value → H} {P : Program} {W : World} {base : Nat} {t e q : TypeId} {fuel : Nat} {a : Option Addr} {len cap : Nat} {x : DataW H × List MemPlace}
    (ht : P.underlying t = some (.slice e)) (he : P.underlying e = some (.slice q)) (hq : P.underlying q = some (.int .i64)) (ce : P.cellsOf e = 1) (cq : P.cellsOf q = 1)
    (h : DataW.trod enc P W base (fun _ => true) true fuel t [.slice a len cap] = some x) : IsRows W a len cap := by
  rcases open_int_rows ht he hq ce cq h with ⟨hcs, _⟩ | ⟨x, l, c, A, L, C, Z, hcs, _, hl, hm, _, hr⟩
  · simp only [List.cons.injEq, Value.slice.injEq, and_true] at hcs
    exact .inl ⟨hcs.1, hcs.2.1, hcs.2.2⟩
  · simp only [List.cons.injEq, Value.slice.injEq, and_true] at hcs
    obtain ⟨rfl, rfl, rfl⟩ := hcs
    refine .inr ⟨x, A, L, C, Z, rfl, hl, hm, fun r k => ?_⟩
    obtain ⟨h1, h2, h3, h4, _, h6, h7⟩ := hr r k
    exact ⟨h1, h2, h3, h4, h6, fun a' ha c hc => (h7 a' ha).2 c hc⟩
theorem ints_of {H : Type} {enc : TypeId × Value → H} {P : Program} {W : World} {base : Nat} {t e : TypeId} {fuel : Nat} {v : Value} {x : DataW H × List MemPlace}
    (ht : P.underlying t = some (.slice e)) (he : P.underlying e = some (.int .i64)) (ce : P.cellsOf e = 1)
    (h : DataW.trod enc P W base (fun _ => true) true fuel t [v] = some x) : ∃ (b : Option Addr) (cp : Nat) (n : List Int), v = .slice b n.length cp ∧ n.length ≤ cp ∧ Kd.C (Kd.int .i64) W b n.length n ∧ n.length ≤ maxLen := by
  rcases open_ints ht he ce h with ⟨hcs, _⟩ | ⟨a, l, c, zs, hcs, _, hl, hm, hz, _, hcell, _⟩
  · exact ⟨none, 0, [], by simpa using hcs, Nat.le_refl _, Kd.C_nil _ _, Nat.zero_le _⟩
  · have hz' : zs.length = c := by simpa using hz
    have hlen : (zs.take l).length = l := by rw [List.length_take]; omega
    refine ⟨some a, c, zs.take l, by rw [hlen]; simpa using hcs, by omega, ?_, by omega⟩
    refine Kd.C_of_reads (d := (0 : Int)) ⟨rfl, by rw [hlen]; have := hm; unfold maxLen at this; omega, fun _ => ⟨a, rfl, fun j hj => ?_⟩⟩
    rw [hlen] at hj
    rw [hcell j (by omega), List.getD_eq_getElem?_getD, List.getD_eq_getElem?_getD, List.getElem?_take_of_lt hj]
set_option linter.unusedVariables false
end Go.Proofs.Ytlkibgccgkhdmaa.Q

namespace Go.Proofs.Ytlkibgccgkhdmaa.Q
open Go.RowKit Go.Proofs.YtlkibgccgkhdmaaW.PrintWords Go.Proofs.YtlkibgccgkhdmaaW.PrintLast Go.Proofs.YtlkibgccgkhdmaaW.PrintMore Go.Proofs.Ytlkibgccgkhdmaa.P Go.Proofs.Cl
set_option linter.unusedVariables false
set_option linter.unusedVariables false
theorem few_times (u : List (List Int)) (nt : List Int) (v : List (List Int)) (mtt : List Int) : Few (timesF u nt v mtt).1 (timesF u nt v mtt).2.1 := by
 unfold timesF
 split
 ·rename_i h
  exact few_made _ (by have := h.2.2; omega) _ _
 ·exact few_nil
end Go.Proofs.Ytlkibgccgkhdmaa.Q
