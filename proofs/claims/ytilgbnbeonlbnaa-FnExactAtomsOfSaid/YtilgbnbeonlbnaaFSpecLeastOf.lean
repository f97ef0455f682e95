-- written by gen.py (a program of this session) out of the kit's print of this seat's translation
import Derived.Test.YtilgbnbeonlbnaaPk2
namespace Go.Proofs.Ytilgbnbeonlbnaa.P
open Go.RowKit Go.Proofs.YtilgbnbeonlbnaaW.PrintWords Go.Proofs.YtilgbnbeonlbnaaW.PrintLast Go.Proofs.YtilgbnbeonlbnaaW.PrintMore
attribute [local go_sem] max2_int min2_int max_two min_two max_three min_three max_four min_four
set_option linter.unusedVariables false
set_option linter.unusedSimpArgs false
theorem zc_1 {p : Prop} (h : p := by repeat (first | exact Drawn0.refl _ | apply Drawn0.step)) : p := h
theorem zc_0 {p : Prop} (h : p := by first | rfl | (simp; done) | (simp [*]; done)) : p := h
set_option maxHeartbeats 8000000 in
set_option maxRecDepth 100000 in
theorem spec_LeastOf.calls (k : Nat) (A0 : Option Addr) (c0 : Nat) (l0 : List (List Int)) (r1 : Int) (r2 : Bool) (w : World) (hr0 : Kd.C (Kd.slice 3 (Kd.int .i64)) w A0 l0.length l0) (hc0 : l0.length ≤ c0) (h : spec_LeastOf.f k l0 = some (r1, r2)) :
 Calls Try.prog 23 #[.slice A0 l0.length c0] w fun e w' => e = .returned (.tuple #[.int .i64 r1, .bool r2]) ∧ Drawn0 w w' := by
 have HR0 := ak hr0
 have b5 := ak hc0
 clear hr0 hc0
 have H : (spec_LeastOf.l0 k l0 0) = some (r1, r2) := h
 clear h
 have H' := ak H
 clear H
 go_enter Try.func23, Try.ntmps23
 go_wp2
 go_loopg [4] k (fun kq v4 w' => ∃ (a0 : Int), v4 = .int .i64 a0 ∧ Aside0 (spec_LeastOf.l0 kq l0 a0 = some (r1, r2)) ∧ Aside0 (kq ≤ k) ∧ Drawn0 w w')
 case atStart => exact ⟨(0), zc_0, H', ⟨Nat.le_refl _⟩, zc_1⟩
 case round =>
  clear H'
  obtain ⟨a0, rfl, HA, HK1, ⟨m1, rfl⟩⟩ := hrel
  cases gk with
  | zero => exact absurd HA.out (by simp [spec_LeastOf.l0])
  | succ k1 =>
   have H := HA.out
   clear HA
   simp only [spec_LeastOf.l0] at H
   have a8 := ak H
   clear H
   go_upto_region 2 with (fail)
   go_cut [14] (fun b6 wc => ∃ (kq : Nat) (a2 : Bool), b6 = .bool a2 ∧ Aside0 (spec_LeastOf.j1 kq l0 a0 a2 = some (r1, r2)) ∧ Aside0 (kq ≤ k1) ∧ Drawn0 w wc)
   case first =>
    have H := a8.out
    clear a8
    replace H := os_ H
    rcases H with ⟨a3, H⟩ | ⟨a3, H⟩
    ·
     (first | rw [a3] | (simp only [i64_w, i32_w]; rw [a3]) | skip)
     obtain ⟨a6, A4, H⟩ := bd_ H
     try dsimp only at H
     have H' := ak H
     clear H
     go_wp2_with (first | (go_at_call 19; (with_reducible refine (spec_OrderOk.calls k1 _ _ l0 a6 _ (y4 HR0.out) b5.out A4.out).mono ?_); rintro e w' ⟨rfl, ⟨nd, rfl⟩⟩))
     go_meet
     case rel => exact ⟨_, (a6), zc_0, H', ⟨(by have := HK1.out; first | omega | exact Nat.le_refl _)⟩, zc_1⟩
    (first | rw [a3] | (simp only [i64_w, i32_w]; rw [a3]) | skip)
    have H' := ak H
    clear H
    go_wp2
    go_meet
    case rel => exact ⟨_, (false), zc_0, H', ⟨(by have := HK1.out; first | omega | exact Nat.le_refl _)⟩, zc_1⟩
   case rest =>
    clear a8
    obtain ⟨kq, a2, rfl, HA, a5, ⟨mc1, rfl⟩⟩ := hcut
    cases kq with
    | zero => exact absurd HA.out (by simp [spec_LeastOf.j1])
    | succ b2 =>
     have H := HA.out
     clear HA
     simp only [spec_LeastOf.j1] at H
     replace H := ox_ H
     rcases H with ⟨rfl, H⟩ | ⟨rfl, H⟩
     ·
      have H' := ak H
      clear H
      go_wp2
      go_loopg [5, 6] b2 (fun kq v5 v6 w' => ∃ (a4 : Bool) (a1 : Int), v5 = .bool a4 ∧ v6 = .int .i64 a1 ∧ Aside0 (spec_LeastOf.l1 kq l0 a0 a4 a1 = some (r1, r2)) ∧ Aside0 (kq ≤ b2) ∧ Drawn0 w w')
      case atStart => exact ⟨(true), (0), zc_0, zc_0, H', ⟨Nat.le_refl _⟩, zc_1⟩
      case round =>
       clear H'
       try clear c5
       obtain ⟨a4, a1, rfl, rfl, HA, HK3, ⟨m3, rfl⟩⟩ := hrel
       cases gk with
       | zero => exact absurd HA.out (by simp [spec_LeastOf.l1])
       | succ k3 =>
        have H := HA.out
        clear HA
        simp only [spec_LeastOf.l1] at H
        replace H := os_ H
        rcases H with ⟨a9, H⟩ | ⟨a9, H⟩
        ·
         replace H := ox_ H
         rcases H with ⟨rfl, H⟩ | ⟨rfl, H⟩
         ·
          replace H := od4 H
          obtain ⟨b7, b8, b3, b4, H⟩ := H
          have H' := ak H
          clear H
          obtain ⟨ad164, b0, b1, e164, hx164_0, a7, HR164_0, b9, q164⟩ := al_ HR0.out a0
          cases e164
          obtain ⟨ad165, e165, hx165_0, d0, q165⟩ := ai_ HR164_0.out a1
          cases e165
          go_wp2
          go_roundg k3
          case measure => have := HK1.out; have := a5.out; have := HK3.out; omega
          case rel => exact ⟨(((rd (rd_L1 l0 a0) a1) == 1)), (wrap64 (a1 + 1)), zc_0, zc_0, H', ⟨(by have := HK1.out; have := a5.out; have := HK3.out; omega)⟩, zc_1⟩
         have H' := ak H
         clear H
         go_wp2
         go_roundg k3
         case measure => have := HK1.out; have := a5.out; have := HK3.out; omega
         case rel => exact ⟨(false), (wrap64 (a1 + 1)), zc_0, zc_0, H', ⟨(by have := HK1.out; have := a5.out; have := HK3.out; omega)⟩, zc_1⟩
        replace H := ox_ H
        rcases H with ⟨rfl, H⟩ | ⟨rfl, H⟩
        ·
         simp only [Option.some.injEq, Prod.mk.injEq] at H
         obtain ⟨rfl, rfl⟩ := H
         go_wp2
         go_ret2
         exact ⟨zc_0, zc_1⟩
        have H' := ak H
        clear H
        go_wp2
        go_roundg k3
        case measure => have := HK1.out; have := a5.out; have := HK3.out; omega
        case rel => exact ⟨(wrap64 (a0 + 1)), zc_0, H', ⟨(by have := HK1.out; have := a5.out; have := HK3.out; omega)⟩, zc_1⟩
     simp only [Option.some.injEq, Prod.mk.injEq] at H
     obtain ⟨rfl, rfl⟩ := H
     go_wp2
     go_ret2
     exact ⟨zc_0, zc_1⟩

end Go.Proofs.Ytilgbnbeonlbnaa.P
