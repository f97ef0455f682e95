import Derived.Test.YtjgfpiilfnchnaaPk2
import Derived.Test.YtjgfpiilfnchnaaPk6
import Derived.Shelf.Abstract
namespace Go.Proofs.Ytjgfpiilfnchnaa.P
open Go.RowKit Go.Proofs.YtjgfpiilfnchnaaW.PrintWords Go.Proofs.YtjgfpiilfnchnaaW.PrintLast Go.Proofs.YtjgfpiilfnchnaaW.PrintMore
set_option linter.unusedVariables false
set_option linter.unusedSimpArgs false
set_option maxHeartbeats 4000000 in
set_option maxRecDepth 100000 in
theorem every_inv {w : World} {g n c : Nat} {A : Option Addr} (k : Nat) (cap : Array Value) (hk : Enters Try.prog k) (I : Nat → Nat → World → Prop) (Out : World → Prop)
 (hg : ∀ i j w', I i j w' → w'.cell? ⟨g, 0, none⟩ = some (.slice A n c)) (hn : n ≤ 1000) (h0 : I 0 0 w) (hrow : ∀ i w', i < n → I i n w' → I (i + 1) 0 w')
 (hstep : ∀ i j w', i < n → j < n → I i j w' → Calls Try.prog k (#[.int .i64 i, .int .i64 j] ++ cap) w' fun e w'' => ∃ b, e = .returned (.bool b) ∧ (b = true → I i (j + 1) w'') ∧ (b = false → Out w'')) :
 Calls Try.prog 66 #[.pointer (some ⟨g, 0, none⟩), .func (.func k) #[] cap] w fun e w' => (e = .returned (.bool true) ∧ I n 0 w') ∨ (e = .returned (.bool false) ∧ Out w') := by
 have eg : ∀ (args : Array Value) (w : World), (callFunc k args).run Try.prog w = .ok (.enter k args) w := hk
 have HG := ak hg
 have HS := ak hstep
 have HR := ak hrow
 have hc0 := hg 0 0 w h0
 have H0 := ak h0
 clear hg hstep hrow hk h0
 go_enter Try.func66, Try.ntmps66
 go_wp2
 go_loopw [12] (fun a0 wr => ∃ i : Nat, i ≤ n ∧ a0 = .int .i64 i ∧ Aside0 (I i 0 wr)) (fun a0 _ => n - (intOf a0).toNat)
 case atStart => exact ⟨0, Nat.zero_le _, rfl, H0⟩
 case round =>
  obtain ⟨i, hi, rfl, HI⟩ := hrel
  by_cases hlt : i < n
  ·
   have hc1 := HG.out i 0 _ HI.out
   go_wp2
   obtain ⟨W1, hW1⟩ : ∃ W1, W1 = wr := ⟨_, rfl⟩
   go_loopw [20] (fun a1 wr => ∃ j : Nat, j ≤ n ∧ a1 = .int .i64 j ∧ Aside0 (I i j wr)) (fun a1 _ => n - (intOf a1).toNat)
   case atStart => exact ⟨0, Nat.zero_le _, rfl, HI⟩
   case round =>
    obtain ⟨j, hj, rfl, HJ⟩ := hrel
    by_cases hlj : j < n
    ·
     have HC := ak (HS.out i j _ hlt hlj HJ.out)
     go_wp2_with (go_at_fn k; refine HC.out.mono ?_; rintro e w2 ⟨b, rfl, hT, hF⟩; have HT := ak hT; have HF := ak hF; clear hT hF; cases b)
     ·
      go_ret
      exact Or.inr ⟨rfl, HF.out (by first | trivial | rfl)⟩
     go_roundw
     case rel => exact ⟨j + 1, (by omega), (by go_num), ⟨HT.out (by first | trivial | rfl)⟩⟩
     case measure => simp [intOf]; omega
    have e : j = n := by omega
    subst e
    have HN := ak (HR.out i _ hlt HJ.out)
    go_wp2
    go_roundw
    case rel => exact ⟨i + 1, (by omega), (by go_num), HN⟩
    case measure => simp [intOf]; omega
  have e : i = n := by omega
  subst e
  go_wp2
  go_ret
  exact Or.inl ⟨rfl, HI.out⟩
theorem pure_every {W : World} {g n c B : Nat} {A : Option Addr} (k : Nat) (hk : Enters Try.prog k) (P : Nat → Nat → Prop) [∀ a b, Decidable (P a b)] (hc : W.cell? ⟨g, 0, none⟩ = some (.slice A n c)) (hn : n ≤ 1000)
 (hF : ∀ w' (i j : Nat), Drawn0 W w' → i < n → j < n → Calls Try.prog k #[.int .i64 i, .int .i64 j, .pointer (some ⟨B, 0, none⟩)] w' fun e w2 => e = .returned (.bool (decide (P i j))) ∧ Drawn0 w' w2) :
 Calls Try.prog 66 #[.pointer (some ⟨g, 0, none⟩), .func (.func k) #[] #[.pointer (some ⟨B, 0, none⟩)]] W fun e w' => e = .returned (.bool (decide (∀ a, a < n → ∀ b, b < n → P a b))) ∧ Drawn0 W w' := by
 have tr : ∀ {w1 w2 : World}, Drawn0 W w1 → Drawn0 w1 w2 → Drawn0 W w2 := by
  rintro w1 w2 ⟨a, rfl⟩ ⟨b, rfl⟩
  exact ⟨⟨a + b, World.drewN_drewN ..⟩⟩
 refine (every_inv (g := g) (n := n) (c := c) (A := A) k _ hk (fun i j w' => Drawn0 W w' ∧ ∀ a b, (a < i ∧ b < n ∨ a = i ∧ b < j) → P a b) (fun w' => Drawn0 W w' ∧ ¬ ∀ a, a < n → ∀ b, b < n → P a b) ?_ hn ?_ ?_ ?_).mono ?_
 ·
  rintro i j w' ⟨⟨m, rfl⟩, _⟩
  exact hc
 ·
  exact ⟨Drawn0.refl _, fun a b h => by omega⟩
 ·
  rintro i w' hi ⟨hD, h⟩
  exact ⟨hD, fun a b q => h a b (by omega)⟩
 ·
  rintro i j w' hi hj ⟨hD, h⟩
  refine (hF w' i j hD hi hj).mono ?_
  rintro e w2 ⟨rfl, hD2⟩
  refine ⟨_, rfl, fun q => ⟨tr hD hD2, fun a b r => ?_⟩, fun q => ⟨tr hD hD2, fun r => absurd (r i hi j hj) (of_decide_eq_false q)⟩⟩
  by_cases e : a = i ∧ b = j
  ·
   obtain ⟨rfl, rfl⟩ := e
   exact oe_ q
  exact h a b (by omega)
 rintro e w' (⟨rfl, hD, h⟩ | ⟨rfl, hD, h⟩)
 ·
  exact ⟨(by rw [dT_ (fun a ha b hb => h a b (by omega))]), hD⟩
 exact ⟨(by rw [dF_ h]), hD⟩
end Go.Proofs.Ytjgfpiilfnchnaa.P

