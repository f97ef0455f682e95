import Derived.Test.YtlkibgccgkhdmaaPk7
import Derived.Shelf.Abstract
namespace Go.Proofs.Ytlkibgccgkhdmaa.P
open Go.RowKit Go.Proofs.YtlkibgccgkhdmaaW.PrintWords Go.Proofs.YtlkibgccgkhdmaaW.PrintLast Go.Proofs.YtlkibgccgkhdmaaW.PrintMore
set_option linter.unusedVariables false
set_option linter.unusedSimpArgs false
set_option maxHeartbeats 4000000 in
set_option maxRecDepth 100000 in
theorem every_inv {w : World} {g n c : Nat} {A : Option Addr} (k : Nat) (cap : Array Value) (hk : Enters Try.prog k) (I : Nat → Nat → World → Prop) (Out : World → Prop)
    (hg : ∀ i j w', I i j w' → w'.cell? ⟨g, 0, none⟩ = some (.slice A n c)) (hn : n ≤ 1000) (h0 : I 0 0 w) (hrow : ∀ i w', i < n → I i n w' → I (i + 1) 0 w')
    (hstep : ∀ i j w', i < n → j < n → I i j w' → Calls Try.prog k (#[.int .i64 i, .int .i64 j] ++ cap) w' fun e w'' => ∃ b, e = .returned (.bool b) ∧ (b = true → I i (j + 1) w'') ∧ (b = false → Out w'')) :
    Calls Try.prog 56 #[.pointer (some ⟨g, 0, none⟩), .func (.func k) #[] cap] w fun e w' => (e = .returned (.bool true) ∧ I n 0 w') ∨ (e = .returned (.bool false) ∧ Out w') := by
  have eg : ∀ (args : Array Value) (w : World), (callFunc k args).run Try.prog w = .ok (.enter k args) w := hk
  have HG := Aside0.mk hg
  have HS := Aside0.mk hstep
  have HR := Aside0.mk hrow
  have hc0 := hg 0 0 w h0
  have H0 := Aside0.mk h0
  clear hg hstep hrow hk h0
  go_enter Try.func56, Try.ntmps56
  go_wp2
  go_loopw [12] (fun v12 wr => ∃ i : Nat, i ≤ n ∧ v12 = .int .i64 i ∧ Aside0 (I i 0 wr)) (fun v12 _ => n - (intOf v12).toNat)
  case atStart => exact ⟨0, Nat.zero_le _, rfl, H0⟩
  case round =>
    obtain ⟨i, hi, rfl, HI⟩ := hrel
    by_cases hlt : i < n
    · have hc1 := HG.out i 0 _ HI.out
      go_wp2
      obtain ⟨W1, hW1⟩ : ∃ W1, W1 = wr := ⟨_, rfl⟩
      go_loopw [20] (fun v20 wr => ∃ j : Nat, j ≤ n ∧ v20 = .int .i64 j ∧ Aside0 (I i j wr)) (fun v20 _ => n - (intOf v20).toNat)
      case atStart => exact ⟨0, Nat.zero_le _, rfl, HI⟩
      case round =>
        obtain ⟨j, hj, rfl, HJ⟩ := hrel
        by_cases hlj : j < n
        · have HC := Aside0.mk (HS.out i j _ hlt hlj HJ.out)
          go_wp2_with (go_at_fn k; refine HC.out.mono ?_; rintro e w2 ⟨b, rfl, hT, hF⟩; have HT := Aside0.mk hT; have HF := Aside0.mk hF; clear hT hF; cases b)
          · go_ret
            exact Or.inr ⟨rfl, HF.out (by first | trivial | rfl)⟩
          · go_roundw
            case rel => exact ⟨j + 1, by omega, by go_num, ⟨HT.out (by first | trivial | rfl)⟩⟩
            case measure => simp [intOf]; omega
        · have e : j = n := by omega
          subst e
          have HN := Aside0.mk (HR.out i _ hlt HJ.out)
          go_wp2
          go_roundw
          case rel => exact ⟨i + 1, by omega, by go_num, HN⟩
          case measure => simp [intOf]; omega
    · have e : i = n := by omega
      subst e
      go_wp2
      go_ret
      exact Or.inl ⟨rfl, HI.out⟩
end Go.Proofs.Ytlkibgccgkhdmaa.P

