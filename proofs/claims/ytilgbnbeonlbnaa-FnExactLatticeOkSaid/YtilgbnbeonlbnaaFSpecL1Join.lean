-- written by gen.py (a program of this session) out of the kit's print of this seat's translation
import Derived.Test.YtilgbnbeonlbnaaI
import Derived.Test.YtilgbnbeonlbnaaD
namespace Go.Proofs.Ytilgbnbeonlbnaa.P
open Go.RowKit Go.Proofs.YtilgbnbeonlbnaaW.PrintWords Go.Proofs.YtilgbnbeonlbnaaW.PrintLast Go.Proofs.YtilgbnbeonlbnaaW.PrintMore
attribute [local go_sem] max2_int min2_int max_two min_two max_three min_three max_four min_four
set_option linter.unusedVariables false
set_option linter.unusedSimpArgs false
set_option maxHeartbeats 8000000 in
set_option maxRecDepth 100000 in
theorem spec_l1Join.calls (k : Nat) (A0 : Option Addr) (c0 : Nat) (l0 : List (List Int)) (a1 : Int) (a2 : Int) (r : Int) (w : World) (hr0 : Kd.C (Kd.slice 3 (Kd.int .i64)) w A0 l0.length l0) (hc0 : l0.length ≤ c0) (h : spec_l1Join.f k l0 a1 a2 = some r) :
  Calls Try.prog 60 #[.slice A0 l0.length c0, .int .i64 a1, .int .i64 a2] w fun e w' => e = .returned (.int .i64 r) ∧ Drawn0 w w' := by
 have HR0 := Aside0.mk hr0
 have HC0 := Aside0.mk hc0
 clear hr0 hc0
 have H : (spec_l1Join.l0 k l0 a1 a2 (-1) 0) = some r := h
 clear h
 have H' := Aside0.mk H
 clear H
 go_enter Try.func60, Try.ntmps60
 go_wp2
 go_loopg [7, 8] k (fun kq v7 v8 w' => ∃ (x7_1 : Int) (x8_1 : Int), v7 = .int .i64 x7_1 ∧ v8 = .int .i64 x8_1 ∧ Aside0 (spec_l1Join.l0 kq l0 a1 a2 x7_1 x8_1 = some r) ∧ Aside0 (kq ≤ k) ∧ Drawn0 w w')
 case atStart => exact ⟨((-1)), (0), (by first | rfl | (simp; done) | (simp [*]; done)), (by first | rfl | (simp; done) | (simp [*]; done)), H', ⟨Nat.le_refl _⟩, by repeat (first | exact Drawn0.refl _ | apply Drawn0.step)⟩
 case round =>
  clear H'
  try clear p2
  obtain ⟨x7_1, x8_1, rfl, rfl, HA, HK1, ⟨m1, rfl⟩⟩ := hrel
  cases gk with
  | zero => exact absurd HA.out (by simp [spec_l1Join.l0])
  | succ k1 =>
   have H := HA.out
   clear HA
   simp only [spec_l1Join.l0] at H
   by_cases c4 : x8_1 < (l0.length : Int)
   ·
    rw [if_pos c4] at H
    have c4b0 : decide (x8_1 < (l0.length : Int)) = true := decide_eq_true c4
    clear c4
    by_cases c5 : 0 ≤ a1
    ·
     rw [if_pos c5] at H
     have c5b0 : decide (0 ≤ a1) = true := decide_eq_true c5
     clear c5
     by_cases c6 : a1 < (l0.length : Int)
     ·
      rw [if_pos c6] at H
      have c6b0 : decide (a1 < (l0.length : Int)) = true := decide_eq_true c6
      clear c6
      by_cases c7 : 0 ≤ x8_1
      ·
       rw [if_pos c7] at H
       have c7b0 : decide (0 ≤ x8_1) = true := decide_eq_true c7
       clear c7
       by_cases c8 : x8_1 < ((rd_L1 l0 a1).length : Int)
       ·
        rw [if_pos c8] at H
        have c8b0 : decide (x8_1 < ((rd_L1 l0 a1).length : Int)) = true := decide_eq_true c8
        clear c8
        by_cases c9 : (rd (rd_L1 l0 a1) x8_1) = 1
        ·
         rw [if_pos c9] at H
         have c9b0 : ((rd (rd_L1 l0 a1) x8_1) == 1) = true := beq_iff_eq.mpr c9
         have c9b1 : ((rd (rd_L1 l0 a1) x8_1) != 1) = false := bne_eq_false_iff_eq.mpr c9
         clear c9
         by_cases c10 : 0 ≤ a2
         ·
          rw [if_pos c10] at H
          have c10b0 : decide (0 ≤ a2) = true := decide_eq_true c10
          clear c10
          by_cases c11 : a2 < (l0.length : Int)
          ·
           rw [if_pos c11] at H
           have c11b0 : decide (a2 < (l0.length : Int)) = true := decide_eq_true c11
           clear c11
           by_cases c12 : x8_1 < ((rd_L1 l0 a2).length : Int)
           ·
            rw [if_pos c12] at H
            have c12b0 : decide (x8_1 < ((rd_L1 l0 a2).length : Int)) = true := decide_eq_true c12
            clear c12
            by_cases c13 : (rd (rd_L1 l0 a2) x8_1) = 1
            ·
             rw [if_pos c13] at H
             have c13b0 : ((rd (rd_L1 l0 a2) x8_1) == 1) = true := beq_iff_eq.mpr c13
             have c13b1 : ((rd (rd_L1 l0 a2) x8_1) != 1) = false := bne_eq_false_iff_eq.mpr c13
             clear c13
             by_cases c14 : x7_1 < 0
             ·
              rw [if_pos c14] at H
              have c14b0 : decide (x7_1 < 0) = true := decide_eq_true c14
              clear c14
              have H' := Aside0.mk H
              clear H
              have p406 : 0 ≤ (a1 : Int) := of_decide_eq_true (by first | (with_reducible assumption) | assumption)
              have q406 : a1 < (l0.length : Int) := of_decide_eq_true (by first | (with_reducible assumption) | assumption)
              obtain ⟨ad406, A406_0, c406_0, e406, hx406_0, hl406_0, hi406_0⟩ := at_L1 HR0.out a1 p406 q406
              cases e406
              have HR406_0 := Aside0.mk hi406_0
              have HC406_0 := Aside0.mk hl406_0
              clear hi406_0 hl406_0
              replace p406 := eq_true p406
              replace q406 := eq_true q406
              have p407 : 0 ≤ (x8_1 : Int) := of_decide_eq_true (by first | (with_reducible assumption) | assumption)
              have q407 : x8_1 < ((rd_L1 l0 a1).length : Int) := of_decide_eq_true (by first | (with_reducible assumption) | assumption)
              obtain ⟨ad407, e407, hx407_0⟩ := Kd.at_int HR406_0.out x8_1 p407 q407
              cases e407
              replace p407 := eq_true p407
              replace q407 := eq_true q407
              have p408 : 0 ≤ (a2 : Int) := of_decide_eq_true (by first | (with_reducible assumption) | assumption)
              have q408 : a2 < (l0.length : Int) := of_decide_eq_true (by first | (with_reducible assumption) | assumption)
              obtain ⟨ad408, A408_0, c408_0, e408, hx408_0, hl408_0, hi408_0⟩ := at_L1 HR0.out a2 p408 q408
              obtain rfl : ad406 = ad408 := (by injection e408)
              have HR408_0 := Aside0.mk hi408_0
              have HC408_0 := Aside0.mk hl408_0
              clear hi408_0 hl408_0
              replace p408 := eq_true p408
              replace q408 := eq_true q408
              have p409 : 0 ≤ (x8_1 : Int) := of_decide_eq_true (by first | (with_reducible assumption) | assumption)
              have q409 : x8_1 < ((rd_L1 l0 a2).length : Int) := of_decide_eq_true (by first | (with_reducible assumption) | assumption)
              obtain ⟨ad409, e409, hx409_0⟩ := Kd.at_int HR408_0.out x8_1 p409 q409
              cases e409
              replace p409 := eq_true p409
              replace q409 := eq_true q409
              go_wp2
              go_roundg k1
              case measure => have := HK1.out; omega
              case rel => exact ⟨(x8_1), (wrap64 (x8_1 + 1)), (by first | rfl | (simp; done) | (simp [*]; done)), (by first | rfl | (simp; done) | (simp [*]; done)), H', ⟨by have := HK1.out; omega⟩, by repeat (first | exact Drawn0.refl _ | apply Drawn0.step)⟩
             ·
              rw [if_neg c14] at H
              have c14b0 : decide (x7_1 < 0) = false := decide_eq_false c14
              clear c14
              by_cases c15 : 0 ≤ x7_1
              ·
               rw [if_pos c15] at H
               have c15b0 : decide (0 ≤ x7_1) = true := decide_eq_true c15
               clear c15
               by_cases c16 : x7_1 < ((rd_L1 l0 x8_1).length : Int)
               ·
                rw [if_pos c16] at H
                have c16b0 : decide (x7_1 < ((rd_L1 l0 x8_1).length : Int)) = true := decide_eq_true c16
                clear c16
                by_cases c17 : (rd (rd_L1 l0 x8_1) x7_1) = 1
                ·
                 rw [if_pos c17] at H
                 have c17b0 : ((rd (rd_L1 l0 x8_1) x7_1) == 1) = true := beq_iff_eq.mpr c17
                 have c17b1 : ((rd (rd_L1 l0 x8_1) x7_1) != 1) = false := bne_eq_false_iff_eq.mpr c17
                 clear c17
                 have H' := Aside0.mk H
                 clear H
                 have p406 : 0 ≤ (a1 : Int) := of_decide_eq_true (by first | (with_reducible assumption) | assumption)
                 have q406 : a1 < (l0.length : Int) := of_decide_eq_true (by first | (with_reducible assumption) | assumption)
                 obtain ⟨ad406, A406_0, c406_0, e406, hx406_0, hl406_0, hi406_0⟩ := at_L1 HR0.out a1 p406 q406
                 cases e406
                 have HR406_0 := Aside0.mk hi406_0
                 have HC406_0 := Aside0.mk hl406_0
                 clear hi406_0 hl406_0
                 replace p406 := eq_true p406
                 replace q406 := eq_true q406
                 have p407 : 0 ≤ (x8_1 : Int) := of_decide_eq_true (by first | (with_reducible assumption) | assumption)
                 have q407 : x8_1 < ((rd_L1 l0 a1).length : Int) := of_decide_eq_true (by first | (with_reducible assumption) | assumption)
                 obtain ⟨ad407, e407, hx407_0⟩ := Kd.at_int HR406_0.out x8_1 p407 q407
                 cases e407
                 replace p407 := eq_true p407
                 replace q407 := eq_true q407
                 have p408 : 0 ≤ (a2 : Int) := of_decide_eq_true (by first | (with_reducible assumption) | assumption)
                 have q408 : a2 < (l0.length : Int) := of_decide_eq_true (by first | (with_reducible assumption) | assumption)
                 obtain ⟨ad408, A408_0, c408_0, e408, hx408_0, hl408_0, hi408_0⟩ := at_L1 HR0.out a2 p408 q408
                 obtain rfl : ad406 = ad408 := (by injection e408)
                 have HR408_0 := Aside0.mk hi408_0
                 have HC408_0 := Aside0.mk hl408_0
                 clear hi408_0 hl408_0
                 replace p408 := eq_true p408
                 replace q408 := eq_true q408
                 have p409 : 0 ≤ (x8_1 : Int) := of_decide_eq_true (by first | (with_reducible assumption) | assumption)
                 have q409 : x8_1 < ((rd_L1 l0 a2).length : Int) := of_decide_eq_true (by first | (with_reducible assumption) | assumption)
                 obtain ⟨ad409, e409, hx409_0⟩ := Kd.at_int HR408_0.out x8_1 p409 q409
                 cases e409
                 replace p409 := eq_true p409
                 replace q409 := eq_true q409
                 have p410 : 0 ≤ (x8_1 : Int) := of_decide_eq_true (by first | (with_reducible assumption) | assumption)
                 have q410 : x8_1 < (l0.length : Int) := of_decide_eq_true (by first | (with_reducible assumption) | assumption)
                 obtain ⟨ad410, A410_0, c410_0, e410, hx410_0, hl410_0, hi410_0⟩ := at_L1 HR0.out x8_1 p410 q410
                 obtain rfl : ad406 = ad410 := (by injection e410)
                 have HR410_0 := Aside0.mk hi410_0
                 have HC410_0 := Aside0.mk hl410_0
                 clear hi410_0 hl410_0
                 replace p410 := eq_true p410
                 replace q410 := eq_true q410
                 have p411 : 0 ≤ (x7_1 : Int) := of_decide_eq_true (by first | (with_reducible assumption) | assumption)
                 have q411 : x7_1 < ((rd_L1 l0 x8_1).length : Int) := of_decide_eq_true (by first | (with_reducible assumption) | assumption)
                 obtain ⟨ad411, e411, hx411_0⟩ := Kd.at_int HR410_0.out x7_1 p411 q411
                 cases e411
                 replace p411 := eq_true p411
                 replace q411 := eq_true q411
                 go_wp2
                 go_roundg k1
                 case measure => have := HK1.out; omega
                 case rel => exact ⟨(x8_1), (wrap64 (x8_1 + 1)), (by first | rfl | (simp; done) | (simp [*]; done)), (by first | rfl | (simp; done) | (simp [*]; done)), H', ⟨by have := HK1.out; omega⟩, by repeat (first | exact Drawn0.refl _ | apply Drawn0.step)⟩
                ·
                 rw [if_neg c17] at H
                 have c17b0 : ((rd (rd_L1 l0 x8_1) x7_1) == 1) = false := beq_eq_false_iff_ne.mpr c17
                 have c17b1 : ((rd (rd_L1 l0 x8_1) x7_1) != 1) = true := bne_iff_ne.mpr c17
                 have H' := Aside0.mk H
                 clear H
                 have p406 : 0 ≤ (a1 : Int) := of_decide_eq_true (by first | (with_reducible assumption) | assumption)
                 have q406 : a1 < (l0.length : Int) := of_decide_eq_true (by first | (with_reducible assumption) | assumption)
                 obtain ⟨ad406, A406_0, c406_0, e406, hx406_0, hl406_0, hi406_0⟩ := at_L1 HR0.out a1 p406 q406
                 cases e406
                 have HR406_0 := Aside0.mk hi406_0
                 have HC406_0 := Aside0.mk hl406_0
                 clear hi406_0 hl406_0
                 replace p406 := eq_true p406
                 replace q406 := eq_true q406
                 have p407 : 0 ≤ (x8_1 : Int) := of_decide_eq_true (by first | (with_reducible assumption) | assumption)
                 have q407 : x8_1 < ((rd_L1 l0 a1).length : Int) := of_decide_eq_true (by first | (with_reducible assumption) | assumption)
                 obtain ⟨ad407, e407, hx407_0⟩ := Kd.at_int HR406_0.out x8_1 p407 q407
                 cases e407
                 replace p407 := eq_true p407
                 replace q407 := eq_true q407
                 have p408 : 0 ≤ (a2 : Int) := of_decide_eq_true (by first | (with_reducible assumption) | assumption)
                 have q408 : a2 < (l0.length : Int) := of_decide_eq_true (by first | (with_reducible assumption) | assumption)
                 obtain ⟨ad408, A408_0, c408_0, e408, hx408_0, hl408_0, hi408_0⟩ := at_L1 HR0.out a2 p408 q408
                 obtain rfl : ad406 = ad408 := (by injection e408)
                 have HR408_0 := Aside0.mk hi408_0
                 have HC408_0 := Aside0.mk hl408_0
                 clear hi408_0 hl408_0
                 replace p408 := eq_true p408
                 replace q408 := eq_true q408
                 have p409 : 0 ≤ (x8_1 : Int) := of_decide_eq_true (by first | (with_reducible assumption) | assumption)
                 have q409 : x8_1 < ((rd_L1 l0 a2).length : Int) := of_decide_eq_true (by first | (with_reducible assumption) | assumption)
                 obtain ⟨ad409, e409, hx409_0⟩ := Kd.at_int HR408_0.out x8_1 p409 q409
                 cases e409
                 replace p409 := eq_true p409
                 replace q409 := eq_true q409
                 have p410 : 0 ≤ (x8_1 : Int) := of_decide_eq_true (by first | (with_reducible assumption) | assumption)
                 have q410 : x8_1 < (l0.length : Int) := of_decide_eq_true (by first | (with_reducible assumption) | assumption)
                 obtain ⟨ad410, A410_0, c410_0, e410, hx410_0, hl410_0, hi410_0⟩ := at_L1 HR0.out x8_1 p410 q410
                 obtain rfl : ad406 = ad410 := (by injection e410)
                 have HR410_0 := Aside0.mk hi410_0
                 have HC410_0 := Aside0.mk hl410_0
                 clear hi410_0 hl410_0
                 replace p410 := eq_true p410
                 replace q410 := eq_true q410
                 have p411 : 0 ≤ (x7_1 : Int) := of_decide_eq_true (by first | (with_reducible assumption) | assumption)
                 have q411 : x7_1 < ((rd_L1 l0 x8_1).length : Int) := of_decide_eq_true (by first | (with_reducible assumption) | assumption)
                 obtain ⟨ad411, e411, hx411_0⟩ := Kd.at_int HR410_0.out x7_1 p411 q411
                 cases e411
                 replace p411 := eq_true p411
                 replace q411 := eq_true q411
                 go_wp2
                 go_roundg k1
                 case measure => have := HK1.out; omega
                 case rel => exact ⟨(x7_1), (wrap64 (x8_1 + 1)), (by first | rfl | (simp; done) | (simp [*]; done)), (by first | rfl | (simp; done) | (simp [*]; done)), H', ⟨by have := HK1.out; omega⟩, by repeat (first | exact Drawn0.refl _ | apply Drawn0.step)⟩
               ·
                rw [if_neg c16] at H
                exact absurd H (by simp)
              ·
               rw [if_neg c15] at H
               exact absurd H (by simp)
            ·
             rw [if_neg c13] at H
             have c13b0 : ((rd (rd_L1 l0 a2) x8_1) == 1) = false := beq_eq_false_iff_ne.mpr c13
             have c13b1 : ((rd (rd_L1 l0 a2) x8_1) != 1) = true := bne_iff_ne.mpr c13
             have H' := Aside0.mk H
             clear H
             have p406 : 0 ≤ (a1 : Int) := of_decide_eq_true (by first | (with_reducible assumption) | assumption)
             have q406 : a1 < (l0.length : Int) := of_decide_eq_true (by first | (with_reducible assumption) | assumption)
             obtain ⟨ad406, A406_0, c406_0, e406, hx406_0, hl406_0, hi406_0⟩ := at_L1 HR0.out a1 p406 q406
             cases e406
             have HR406_0 := Aside0.mk hi406_0
             have HC406_0 := Aside0.mk hl406_0
             clear hi406_0 hl406_0
             replace p406 := eq_true p406
             replace q406 := eq_true q406
             have p407 : 0 ≤ (x8_1 : Int) := of_decide_eq_true (by first | (with_reducible assumption) | assumption)
             have q407 : x8_1 < ((rd_L1 l0 a1).length : Int) := of_decide_eq_true (by first | (with_reducible assumption) | assumption)
             obtain ⟨ad407, e407, hx407_0⟩ := Kd.at_int HR406_0.out x8_1 p407 q407
             cases e407
             replace p407 := eq_true p407
             replace q407 := eq_true q407
             have p408 : 0 ≤ (a2 : Int) := of_decide_eq_true (by first | (with_reducible assumption) | assumption)
             have q408 : a2 < (l0.length : Int) := of_decide_eq_true (by first | (with_reducible assumption) | assumption)
             obtain ⟨ad408, A408_0, c408_0, e408, hx408_0, hl408_0, hi408_0⟩ := at_L1 HR0.out a2 p408 q408
             obtain rfl : ad406 = ad408 := (by injection e408)
             have HR408_0 := Aside0.mk hi408_0
             have HC408_0 := Aside0.mk hl408_0
             clear hi408_0 hl408_0
             replace p408 := eq_true p408
             replace q408 := eq_true q408
             have p409 : 0 ≤ (x8_1 : Int) := of_decide_eq_true (by first | (with_reducible assumption) | assumption)
             have q409 : x8_1 < ((rd_L1 l0 a2).length : Int) := of_decide_eq_true (by first | (with_reducible assumption) | assumption)
             obtain ⟨ad409, e409, hx409_0⟩ := Kd.at_int HR408_0.out x8_1 p409 q409
             cases e409
             replace p409 := eq_true p409
             replace q409 := eq_true q409
             go_wp2
             go_roundg k1
             case measure => have := HK1.out; omega
             case rel => exact ⟨(x7_1), (wrap64 (x8_1 + 1)), (by first | rfl | (simp; done) | (simp [*]; done)), (by first | rfl | (simp; done) | (simp [*]; done)), H', ⟨by have := HK1.out; omega⟩, by repeat (first | exact Drawn0.refl _ | apply Drawn0.step)⟩
           ·
            rw [if_neg c12] at H
            exact absurd H (by simp)
          ·
           rw [if_neg c11] at H
           exact absurd H (by simp)
         ·
          rw [if_neg c10] at H
          exact absurd H (by simp)
        ·
         rw [if_neg c9] at H
         have c9b0 : ((rd (rd_L1 l0 a1) x8_1) == 1) = false := beq_eq_false_iff_ne.mpr c9
         have c9b1 : ((rd (rd_L1 l0 a1) x8_1) != 1) = true := bne_iff_ne.mpr c9
         have H' := Aside0.mk H
         clear H
         have p406 : 0 ≤ (a1 : Int) := of_decide_eq_true (by first | (with_reducible assumption) | assumption)
         have q406 : a1 < (l0.length : Int) := of_decide_eq_true (by first | (with_reducible assumption) | assumption)
         obtain ⟨ad406, A406_0, c406_0, e406, hx406_0, hl406_0, hi406_0⟩ := at_L1 HR0.out a1 p406 q406
         cases e406
         have HR406_0 := Aside0.mk hi406_0
         have HC406_0 := Aside0.mk hl406_0
         clear hi406_0 hl406_0
         replace p406 := eq_true p406
         replace q406 := eq_true q406
         have p407 : 0 ≤ (x8_1 : Int) := of_decide_eq_true (by first | (with_reducible assumption) | assumption)
         have q407 : x8_1 < ((rd_L1 l0 a1).length : Int) := of_decide_eq_true (by first | (with_reducible assumption) | assumption)
         obtain ⟨ad407, e407, hx407_0⟩ := Kd.at_int HR406_0.out x8_1 p407 q407
         cases e407
         replace p407 := eq_true p407
         replace q407 := eq_true q407
         go_wp2
         go_roundg k1
         case measure => have := HK1.out; omega
         case rel => exact ⟨(x7_1), (wrap64 (x8_1 + 1)), (by first | rfl | (simp; done) | (simp [*]; done)), (by first | rfl | (simp; done) | (simp [*]; done)), H', ⟨by have := HK1.out; omega⟩, by repeat (first | exact Drawn0.refl _ | apply Drawn0.step)⟩
       ·
        rw [if_neg c8] at H
        exact absurd H (by simp)
      ·
       rw [if_neg c7] at H
       exact absurd H (by simp)
     ·
      rw [if_neg c6] at H
      exact absurd H (by simp)
    ·
     rw [if_neg c5] at H
     exact absurd H (by simp)
   ·
    rw [if_neg c4] at H
    have c4b0 : decide (x8_1 < (l0.length : Int)) = false := decide_eq_false c4
    clear c4
    have H' := Aside0.mk H
    clear H
    go_wp2
    go_loopg [9] k1 (fun kq v9 w' => ∃ (x9_2 : Int), v9 = .int .i64 x9_2 ∧ Aside0 (spec_l1Join.l1 kq l0 a1 a2 x7_1 x9_2 = some r) ∧ Aside0 (kq ≤ k1) ∧ Drawn0 w w')
    case atStart => exact ⟨(0), (by first | rfl | (simp; done) | (simp [*]; done)), H', ⟨Nat.le_refl _⟩, by repeat (first | exact Drawn0.refl _ | apply Drawn0.step)⟩
    case round =>
     clear H'
     try clear c1
     try clear p2
     try clear c4
     try clear c4b0
     try clear p4
     try clear q4
     try clear hx4
     try clear c5
     try clear c5b0
     try clear c6
     try clear c6b0
     try clear p6
     try clear c7
     try clear c7b0
     try clear c8
     try clear c8b0
     try clear c9
     try clear c9b0
     try clear c9b1
     try clear c10
     try clear c10b0
     try clear c11
     try clear c11b0
     try clear c12
     try clear c12b0
     try clear c13
     try clear c13b0
     try clear c13b1
     try clear c14
     try clear c14b0
     try clear c15
     try clear c15b0
     try clear c16
     try clear c16b0
     try clear c17
     try clear c17b0
     try clear c17b1
     try clear hx406_0
     try clear hx407_0
     try clear hx408_0
     try clear hx409_0
     try clear hx410_0
     try clear hx411_0
     try clear p2
     try clear p406
     try clear p407
     try clear p408
     try clear p409
     try clear p410
     try clear p411
     try clear q406
     try clear q407
     try clear q408
     try clear q409
     try clear q410
     try clear q411
     obtain ⟨x9_2, rfl, HA, HK2, ⟨m2, rfl⟩⟩ := hrel
     cases gk with
     | zero => exact absurd HA.out (by simp [spec_l1Join.l1])
     | succ k2 =>
      have H := HA.out
      clear HA
      simp only [spec_l1Join.l1] at H
      by_cases c18 : x9_2 < (l0.length : Int)
      ·
       rw [if_pos c18] at H
       have c18b0 : decide (x9_2 < (l0.length : Int)) = true := decide_eq_true c18
       clear c18
       by_cases c19 : 0 ≤ a1
       ·
        rw [if_pos c19] at H
        have c19b0 : decide (0 ≤ a1) = true := decide_eq_true c19
        clear c19
        by_cases c20 : a1 < (l0.length : Int)
        ·
         rw [if_pos c20] at H
         have c20b0 : decide (a1 < (l0.length : Int)) = true := decide_eq_true c20
         clear c20
         by_cases c21 : 0 ≤ x9_2
         ·
          rw [if_pos c21] at H
          have c21b0 : decide (0 ≤ x9_2) = true := decide_eq_true c21
          clear c21
          by_cases c22 : x9_2 < ((rd_L1 l0 a1).length : Int)
          ·
           rw [if_pos c22] at H
           have c22b0 : decide (x9_2 < ((rd_L1 l0 a1).length : Int)) = true := decide_eq_true c22
           clear c22
           by_cases c23 : (rd (rd_L1 l0 a1) x9_2) = 1
           ·
            rw [if_pos c23] at H
            have c23b0 : ((rd (rd_L1 l0 a1) x9_2) == 1) = true := beq_iff_eq.mpr c23
            have c23b1 : ((rd (rd_L1 l0 a1) x9_2) != 1) = false := bne_eq_false_iff_eq.mpr c23
            clear c23
            by_cases c24 : 0 ≤ a2
            ·
             rw [if_pos c24] at H
             have c24b0 : decide (0 ≤ a2) = true := decide_eq_true c24
             clear c24
             by_cases c25 : a2 < (l0.length : Int)
             ·
              rw [if_pos c25] at H
              have c25b0 : decide (a2 < (l0.length : Int)) = true := decide_eq_true c25
              clear c25
              by_cases c26 : x9_2 < ((rd_L1 l0 a2).length : Int)
              ·
               rw [if_pos c26] at H
               have c26b0 : decide (x9_2 < ((rd_L1 l0 a2).length : Int)) = true := decide_eq_true c26
               clear c26
               by_cases c27 : (rd (rd_L1 l0 a2) x9_2) = 1
               ·
                rw [if_pos c27] at H
                have c27b0 : ((rd (rd_L1 l0 a2) x9_2) == 1) = true := beq_iff_eq.mpr c27
                have c27b1 : ((rd (rd_L1 l0 a2) x9_2) != 1) = false := bne_eq_false_iff_eq.mpr c27
                clear c27
                by_cases c28 : 0 ≤ x7_1
                ·
                 rw [if_pos c28] at H
                 have c28b0 : decide (0 ≤ x7_1) = true := decide_eq_true c28
                 clear c28
                 by_cases c29 : x7_1 < (l0.length : Int)
                 ·
                  rw [if_pos c29] at H
                  have c29b0 : decide (x7_1 < (l0.length : Int)) = true := decide_eq_true c29
                  clear c29
                  by_cases c30 : x9_2 < ((rd_L1 l0 x7_1).length : Int)
                  ·
                   rw [if_pos c30] at H
                   have c30b0 : decide (x9_2 < ((rd_L1 l0 x7_1).length : Int)) = true := decide_eq_true c30
                   clear c30
                   by_cases c31 : (rd (rd_L1 l0 x7_1) x9_2) = 0
                   ·
                    rw [if_pos c31] at H
                    have c31b0 : ((rd (rd_L1 l0 x7_1) x9_2) == 0) = true := beq_iff_eq.mpr c31
                    have c31b1 : ((rd (rd_L1 l0 x7_1) x9_2) != 0) = false := bne_eq_false_iff_eq.mpr c31
                    clear c31
                    obtain rfl := Option.some.inj H
                    have p412 : 0 ≤ (a1 : Int) := of_decide_eq_true (by first | (with_reducible assumption) | assumption)
                    have q412 : a1 < (l0.length : Int) := of_decide_eq_true (by first | (with_reducible assumption) | assumption)
                    obtain ⟨ad412, A412_0, c412_0, e412, hx412_0, hl412_0, hi412_0⟩ := at_L1 HR0.out a1 p412 q412
                    cases e412
                    have HR412_0 := Aside0.mk hi412_0
                    have HC412_0 := Aside0.mk hl412_0
                    clear hi412_0 hl412_0
                    replace p412 := eq_true p412
                    replace q412 := eq_true q412
                    have p413 : 0 ≤ (x9_2 : Int) := of_decide_eq_true (by first | (with_reducible assumption) | assumption)
                    have q413 : x9_2 < ((rd_L1 l0 a1).length : Int) := of_decide_eq_true (by first | (with_reducible assumption) | assumption)
                    obtain ⟨ad413, e413, hx413_0⟩ := Kd.at_int HR412_0.out x9_2 p413 q413
                    cases e413
                    replace p413 := eq_true p413
                    replace q413 := eq_true q413
                    have p414 : 0 ≤ (a2 : Int) := of_decide_eq_true (by first | (with_reducible assumption) | assumption)
                    have q414 : a2 < (l0.length : Int) := of_decide_eq_true (by first | (with_reducible assumption) | assumption)
                    obtain ⟨ad414, A414_0, c414_0, e414, hx414_0, hl414_0, hi414_0⟩ := at_L1 HR0.out a2 p414 q414
                    obtain rfl : ad412 = ad414 := (by injection e414)
                    have HR414_0 := Aside0.mk hi414_0
                    have HC414_0 := Aside0.mk hl414_0
                    clear hi414_0 hl414_0
                    replace p414 := eq_true p414
                    replace q414 := eq_true q414
                    have p415 : 0 ≤ (x9_2 : Int) := of_decide_eq_true (by first | (with_reducible assumption) | assumption)
                    have q415 : x9_2 < ((rd_L1 l0 a2).length : Int) := of_decide_eq_true (by first | (with_reducible assumption) | assumption)
                    obtain ⟨ad415, e415, hx415_0⟩ := Kd.at_int HR414_0.out x9_2 p415 q415
                    cases e415
                    replace p415 := eq_true p415
                    replace q415 := eq_true q415
                    have p416 : 0 ≤ (x7_1 : Int) := of_decide_eq_true (by first | (with_reducible assumption) | assumption)
                    have q416 : x7_1 < (l0.length : Int) := of_decide_eq_true (by first | (with_reducible assumption) | assumption)
                    obtain ⟨ad416, A416_0, c416_0, e416, hx416_0, hl416_0, hi416_0⟩ := at_L1 HR0.out x7_1 p416 q416
                    obtain rfl : ad412 = ad416 := (by injection e416)
                    have HR416_0 := Aside0.mk hi416_0
                    have HC416_0 := Aside0.mk hl416_0
                    clear hi416_0 hl416_0
                    replace p416 := eq_true p416
                    replace q416 := eq_true q416
                    have p417 : 0 ≤ (x9_2 : Int) := of_decide_eq_true (by first | (with_reducible assumption) | assumption)
                    have q417 : x9_2 < ((rd_L1 l0 x7_1).length : Int) := of_decide_eq_true (by first | (with_reducible assumption) | assumption)
                    obtain ⟨ad417, e417, hx417_0⟩ := Kd.at_int HR416_0.out x9_2 p417 q417
                    cases e417
                    replace p417 := eq_true p417
                    replace q417 := eq_true q417
                    go_wp2
                    go_ret
                    exact ⟨by first | rfl | (simp; done) | (simp [*]; done), by repeat (first | exact Drawn0.refl _ | apply Drawn0.step)⟩
                   ·
                    rw [if_neg c31] at H
                    have c31b0 : ((rd (rd_L1 l0 x7_1) x9_2) == 0) = false := beq_eq_false_iff_ne.mpr c31
                    have c31b1 : ((rd (rd_L1 l0 x7_1) x9_2) != 0) = true := bne_iff_ne.mpr c31
                    have H' := Aside0.mk H
                    clear H
                    have p412 : 0 ≤ (a1 : Int) := of_decide_eq_true (by first | (with_reducible assumption) | assumption)
                    have q412 : a1 < (l0.length : Int) := of_decide_eq_true (by first | (with_reducible assumption) | assumption)
                    obtain ⟨ad412, A412_0, c412_0, e412, hx412_0, hl412_0, hi412_0⟩ := at_L1 HR0.out a1 p412 q412
                    cases e412
                    have HR412_0 := Aside0.mk hi412_0
                    have HC412_0 := Aside0.mk hl412_0
                    clear hi412_0 hl412_0
                    replace p412 := eq_true p412
                    replace q412 := eq_true q412
                    have p413 : 0 ≤ (x9_2 : Int) := of_decide_eq_true (by first | (with_reducible assumption) | assumption)
                    have q413 : x9_2 < ((rd_L1 l0 a1).length : Int) := of_decide_eq_true (by first | (with_reducible assumption) | assumption)
                    obtain ⟨ad413, e413, hx413_0⟩ := Kd.at_int HR412_0.out x9_2 p413 q413
                    cases e413
                    replace p413 := eq_true p413
                    replace q413 := eq_true q413
                    have p414 : 0 ≤ (a2 : Int) := of_decide_eq_true (by first | (with_reducible assumption) | assumption)
                    have q414 : a2 < (l0.length : Int) := of_decide_eq_true (by first | (with_reducible assumption) | assumption)
                    obtain ⟨ad414, A414_0, c414_0, e414, hx414_0, hl414_0, hi414_0⟩ := at_L1 HR0.out a2 p414 q414
                    obtain rfl : ad412 = ad414 := (by injection e414)
                    have HR414_0 := Aside0.mk hi414_0
                    have HC414_0 := Aside0.mk hl414_0
                    clear hi414_0 hl414_0
                    replace p414 := eq_true p414
                    replace q414 := eq_true q414
                    have p415 : 0 ≤ (x9_2 : Int) := of_decide_eq_true (by first | (with_reducible assumption) | assumption)
                    have q415 : x9_2 < ((rd_L1 l0 a2).length : Int) := of_decide_eq_true (by first | (with_reducible assumption) | assumption)
                    obtain ⟨ad415, e415, hx415_0⟩ := Kd.at_int HR414_0.out x9_2 p415 q415
                    cases e415
                    replace p415 := eq_true p415
                    replace q415 := eq_true q415
                    have p416 : 0 ≤ (x7_1 : Int) := of_decide_eq_true (by first | (with_reducible assumption) | assumption)
                    have q416 : x7_1 < (l0.length : Int) := of_decide_eq_true (by first | (with_reducible assumption) | assumption)
                    obtain ⟨ad416, A416_0, c416_0, e416, hx416_0, hl416_0, hi416_0⟩ := at_L1 HR0.out x7_1 p416 q416
                    obtain rfl : ad412 = ad416 := (by injection e416)
                    have HR416_0 := Aside0.mk hi416_0
                    have HC416_0 := Aside0.mk hl416_0
                    clear hi416_0 hl416_0
                    replace p416 := eq_true p416
                    replace q416 := eq_true q416
                    have p417 : 0 ≤ (x9_2 : Int) := of_decide_eq_true (by first | (with_reducible assumption) | assumption)
                    have q417 : x9_2 < ((rd_L1 l0 x7_1).length : Int) := of_decide_eq_true (by first | (with_reducible assumption) | assumption)
                    obtain ⟨ad417, e417, hx417_0⟩ := Kd.at_int HR416_0.out x9_2 p417 q417
                    cases e417
                    replace p417 := eq_true p417
                    replace q417 := eq_true q417
                    go_wp2
                    go_roundg k2
                    case measure => have := HK1.out; have := HK2.out; omega
                    case rel => exact ⟨(wrap64 (x9_2 + 1)), (by first | rfl | (simp; done) | (simp [*]; done)), H', ⟨by have := HK1.out; have := HK2.out; omega⟩, by repeat (first | exact Drawn0.refl _ | apply Drawn0.step)⟩
                  ·
                   rw [if_neg c30] at H
                   exact absurd H (by simp)
                 ·
                  rw [if_neg c29] at H
                  exact absurd H (by simp)
                ·
                 rw [if_neg c28] at H
                 exact absurd H (by simp)
               ·
                rw [if_neg c27] at H
                have c27b0 : ((rd (rd_L1 l0 a2) x9_2) == 1) = false := beq_eq_false_iff_ne.mpr c27
                have c27b1 : ((rd (rd_L1 l0 a2) x9_2) != 1) = true := bne_iff_ne.mpr c27
                have H' := Aside0.mk H
                clear H
                have p412 : 0 ≤ (a1 : Int) := of_decide_eq_true (by first | (with_reducible assumption) | assumption)
                have q412 : a1 < (l0.length : Int) := of_decide_eq_true (by first | (with_reducible assumption) | assumption)
                obtain ⟨ad412, A412_0, c412_0, e412, hx412_0, hl412_0, hi412_0⟩ := at_L1 HR0.out a1 p412 q412
                cases e412
                have HR412_0 := Aside0.mk hi412_0
                have HC412_0 := Aside0.mk hl412_0
                clear hi412_0 hl412_0
                replace p412 := eq_true p412
                replace q412 := eq_true q412
                have p413 : 0 ≤ (x9_2 : Int) := of_decide_eq_true (by first | (with_reducible assumption) | assumption)
                have q413 : x9_2 < ((rd_L1 l0 a1).length : Int) := of_decide_eq_true (by first | (with_reducible assumption) | assumption)
                obtain ⟨ad413, e413, hx413_0⟩ := Kd.at_int HR412_0.out x9_2 p413 q413
                cases e413
                replace p413 := eq_true p413
                replace q413 := eq_true q413
                have p414 : 0 ≤ (a2 : Int) := of_decide_eq_true (by first | (with_reducible assumption) | assumption)
                have q414 : a2 < (l0.length : Int) := of_decide_eq_true (by first | (with_reducible assumption) | assumption)
                obtain ⟨ad414, A414_0, c414_0, e414, hx414_0, hl414_0, hi414_0⟩ := at_L1 HR0.out a2 p414 q414
                obtain rfl : ad412 = ad414 := (by injection e414)
                have HR414_0 := Aside0.mk hi414_0
                have HC414_0 := Aside0.mk hl414_0
                clear hi414_0 hl414_0
                replace p414 := eq_true p414
                replace q414 := eq_true q414
                have p415 : 0 ≤ (x9_2 : Int) := of_decide_eq_true (by first | (with_reducible assumption) | assumption)
                have q415 : x9_2 < ((rd_L1 l0 a2).length : Int) := of_decide_eq_true (by first | (with_reducible assumption) | assumption)
                obtain ⟨ad415, e415, hx415_0⟩ := Kd.at_int HR414_0.out x9_2 p415 q415
                cases e415
                replace p415 := eq_true p415
                replace q415 := eq_true q415
                go_wp2
                go_roundg k2
                case measure => have := HK1.out; have := HK2.out; omega
                case rel => exact ⟨(wrap64 (x9_2 + 1)), (by first | rfl | (simp; done) | (simp [*]; done)), H', ⟨by have := HK1.out; have := HK2.out; omega⟩, by repeat (first | exact Drawn0.refl _ | apply Drawn0.step)⟩
              ·
               rw [if_neg c26] at H
               exact absurd H (by simp)
             ·
              rw [if_neg c25] at H
              exact absurd H (by simp)
            ·
             rw [if_neg c24] at H
             exact absurd H (by simp)
           ·
            rw [if_neg c23] at H
            have c23b0 : ((rd (rd_L1 l0 a1) x9_2) == 1) = false := beq_eq_false_iff_ne.mpr c23
            have c23b1 : ((rd (rd_L1 l0 a1) x9_2) != 1) = true := bne_iff_ne.mpr c23
            have H' := Aside0.mk H
            clear H
            have p412 : 0 ≤ (a1 : Int) := of_decide_eq_true (by first | (with_reducible assumption) | assumption)
            have q412 : a1 < (l0.length : Int) := of_decide_eq_true (by first | (with_reducible assumption) | assumption)
            obtain ⟨ad412, A412_0, c412_0, e412, hx412_0, hl412_0, hi412_0⟩ := at_L1 HR0.out a1 p412 q412
            cases e412
            have HR412_0 := Aside0.mk hi412_0
            have HC412_0 := Aside0.mk hl412_0
            clear hi412_0 hl412_0
            replace p412 := eq_true p412
            replace q412 := eq_true q412
            have p413 : 0 ≤ (x9_2 : Int) := of_decide_eq_true (by first | (with_reducible assumption) | assumption)
            have q413 : x9_2 < ((rd_L1 l0 a1).length : Int) := of_decide_eq_true (by first | (with_reducible assumption) | assumption)
            obtain ⟨ad413, e413, hx413_0⟩ := Kd.at_int HR412_0.out x9_2 p413 q413
            cases e413
            replace p413 := eq_true p413
            replace q413 := eq_true q413
            go_wp2
            go_roundg k2
            case measure => have := HK1.out; have := HK2.out; omega
            case rel => exact ⟨(wrap64 (x9_2 + 1)), (by first | rfl | (simp; done) | (simp [*]; done)), H', ⟨by have := HK1.out; have := HK2.out; omega⟩, by repeat (first | exact Drawn0.refl _ | apply Drawn0.step)⟩
          ·
           rw [if_neg c22] at H
           exact absurd H (by simp)
         ·
          rw [if_neg c21] at H
          exact absurd H (by simp)
        ·
         rw [if_neg c20] at H
         exact absurd H (by simp)
       ·
        rw [if_neg c19] at H
        exact absurd H (by simp)
      ·
       rw [if_neg c18] at H
       have c18b0 : decide (x9_2 < (l0.length : Int)) = false := decide_eq_false c18
       clear c18
       obtain rfl := Option.some.inj H
       go_wp2
       go_ret
       exact ⟨by first | rfl | (simp; done) | (simp [*]; done), by repeat (first | exact Drawn0.refl _ | apply Drawn0.step)⟩

end Go.Proofs.Ytilgbnbeonlbnaa.P
