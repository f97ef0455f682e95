-- written by gen.py (a program of this session) out of the kit's print of this seat's translation
import Derived.Test.YtilgbnbeonlbnaaI
import Derived.Test.YtilgbnbeonlbnaaD
namespace Go.Proofs.Ytilgbnbeonlbnaa.P
open Go.RowKit Go.Proofs.YtilgbnbeonlbnaaW.PrintWords Go.Proofs.YtilgbnbeonlbnaaW.PrintLast Go.Proofs.YtilgbnbeonlbnaaW.PrintMore
attribute [local go_sem] max2_int min2_int max_two min_two max_three min_three max_four min_four
set_option linter.unusedVariables false
set_option linter.unusedSimpArgs false
set_option maxHeartbeats 8000000 in
set_option maxRecDepth 100000 in
theorem impl_meet.calls (k : Nat) (A0 : Option Addr) (c0 : Nat) (l0 : List (List Int)) (a1 : Int) (a2 : Int) (r : Int) (w : World) (hr0 : Kd.C (Kd.slice 3 (Kd.int .i64)) w A0 l0.length l0) (hc0 : l0.length ≤ c0) (h : impl_meet.f k l0 a1 a2 = some r) :
  Calls Try.prog 59 #[.slice A0 l0.length c0, .int .i64 a1, .int .i64 a2] w fun e w' => e = .returned (.int .i64 r) ∧ Drawn0 w w' := by
 have HR0 := Aside0.mk hr0
 have HC0 := Aside0.mk hc0
 clear hr0 hc0
 have H : (impl_meet.l0 k l0 a1 a2 (l0.length : Int) 0) = some r := h
 clear h
 have H' := Aside0.mk H
 clear H
 go_enter Try.func59, Try.ntmps59
 go_wp2
 go_loopg [12] k (fun kq v12 w' => ∃ (x12_1 : Int), v12 = .int .i64 x12_1 ∧ Aside0 (impl_meet.l0 kq l0 a1 a2 (l0.length : Int) x12_1 = some r) ∧ Aside0 (kq ≤ k) ∧ Drawn0 w w')
 case atStart => exact ⟨(0), (by first | rfl | (simp; done) | (simp [*]; done)), H', ⟨Nat.le_refl _⟩, by repeat (first | exact Drawn0.refl _ | apply Drawn0.step)⟩
 case round =>
  clear H'
  try clear p2
  obtain ⟨x12_1, rfl, HA, HK1, ⟨m1, rfl⟩⟩ := hrel
  cases gk with
  | zero => exact absurd HA.out (by simp [impl_meet.l0])
  | succ k1 =>
   have H := HA.out
   clear HA
   simp only [impl_meet.l0] at H
   by_cases c4 : x12_1 < (l0.length : Int)
   ·
    rw [if_pos c4] at H
    have c4b0 : decide (x12_1 < (l0.length : Int)) = true := decide_eq_true c4
    clear c4
    have HC5 := Aside0.mk H
    clear H
    go_upto_region 4 with (fail)
    go_cut [32] (fun v32 wc => ∃ (kq : Nat) (x32_4 : Bool), v32 = .bool x32_4 ∧ Aside0 (impl_meet.j1 kq l0 a1 a2 x12_1 (l0.length : Int) x12_1 x32_4 = some r) ∧ Aside0 (kq ≤ k1) ∧ Drawn0 w wc)
    case first =>
     have H := HC5.out
     clear HC5
     by_cases c6 : 0 ≤ x12_1
     ·
      rw [if_pos c6] at H
      have c6b0 : decide (0 ≤ x12_1) = true := decide_eq_true c6
      clear c6
      (first | rw [c6b0] | (simp only [i64_w, i32_w]; rw [c6b0]) | skip)
      by_cases c7 : x12_1 < (l0.length : Int)
      ·
       rw [if_pos c7] at H
       have c7b0 : decide (x12_1 < (l0.length : Int)) = true := decide_eq_true c7
       clear c7
       by_cases c8 : 0 ≤ a1
       ·
        rw [if_pos c8] at H
        have c8b0 : decide (0 ≤ a1) = true := decide_eq_true c8
        clear c8
        by_cases c9 : a1 < ((rd_L1 l0 x12_1).length : Int)
        ·
         rw [if_pos c9] at H
         have c9b0 : decide (a1 < ((rd_L1 l0 x12_1).length : Int)) = true := decide_eq_true c9
         clear c9
         by_cases c10 : (rd (rd_L1 l0 x12_1) a1) = 0
         ·
          rw [if_pos c10] at H
          have c10b0 : ((rd (rd_L1 l0 x12_1) a1) == 0) = true := beq_iff_eq.mpr c10
          have c10b1 : ((rd (rd_L1 l0 x12_1) a1) != 0) = false := bne_eq_false_iff_eq.mpr c10
          clear c10
          have H' := Aside0.mk H
          clear H
          have p339 : 0 ≤ (x12_1 : Int) := of_decide_eq_true (by first | (with_reducible assumption) | assumption)
          have q339 : x12_1 < (l0.length : Int) := of_decide_eq_true (by first | (with_reducible assumption) | assumption)
          obtain ⟨ad339, A339_0, c339_0, e339, hx339_0, hl339_0, hi339_0⟩ := at_L1 HR0.out x12_1 p339 q339
          cases e339
          have HR339_0 := Aside0.mk hi339_0
          have HC339_0 := Aside0.mk hl339_0
          clear hi339_0 hl339_0
          replace p339 := eq_true p339
          replace q339 := eq_true q339
          have p340 : 0 ≤ (a1 : Int) := of_decide_eq_true (by first | (with_reducible assumption) | assumption)
          have q340 : a1 < ((rd_L1 l0 x12_1).length : Int) := of_decide_eq_true (by first | (with_reducible assumption) | assumption)
          obtain ⟨ad340, e340, hx340_0⟩ := Kd.at_int HR339_0.out a1 p340 q340
          cases e340
          replace p340 := eq_true p340
          replace q340 := eq_true q340
          go_wp2
          go_meet
          case rel => exact ⟨_, (true), (by first | rfl | (simp; done) | (simp [*]; done)), H', ⟨by have := HK1.out; first | omega | exact Nat.le_refl _⟩, by repeat (first | exact Drawn0.refl _ | apply Drawn0.step)⟩
         ·
          rw [if_neg c10] at H
          have c10b0 : ((rd (rd_L1 l0 x12_1) a1) == 0) = false := beq_eq_false_iff_ne.mpr c10
          have c10b1 : ((rd (rd_L1 l0 x12_1) a1) != 0) = true := bne_iff_ne.mpr c10
          by_cases c11 : 0 ≤ a2
          ·
           rw [if_pos c11] at H
           have c11b0 : decide (0 ≤ a2) = true := decide_eq_true c11
           clear c11
           by_cases c12 : a2 < ((rd_L1 l0 x12_1).length : Int)
           ·
            rw [if_pos c12] at H
            have c12b0 : decide (a2 < ((rd_L1 l0 x12_1).length : Int)) = true := decide_eq_true c12
            clear c12
            have H' := Aside0.mk H
            clear H
            have p339 : 0 ≤ (x12_1 : Int) := of_decide_eq_true (by first | (with_reducible assumption) | assumption)
            have q339 : x12_1 < (l0.length : Int) := of_decide_eq_true (by first | (with_reducible assumption) | assumption)
            obtain ⟨ad339, A339_0, c339_0, e339, hx339_0, hl339_0, hi339_0⟩ := at_L1 HR0.out x12_1 p339 q339
            cases e339
            have HR339_0 := Aside0.mk hi339_0
            have HC339_0 := Aside0.mk hl339_0
            clear hi339_0 hl339_0
            replace p339 := eq_true p339
            replace q339 := eq_true q339
            have p340 : 0 ≤ (a1 : Int) := of_decide_eq_true (by first | (with_reducible assumption) | assumption)
            have q340 : a1 < ((rd_L1 l0 x12_1).length : Int) := of_decide_eq_true (by first | (with_reducible assumption) | assumption)
            obtain ⟨ad340, e340, hx340_0⟩ := Kd.at_int HR339_0.out a1 p340 q340
            cases e340
            replace p340 := eq_true p340
            replace q340 := eq_true q340
            have p341 : 0 ≤ (x12_1 : Int) := of_decide_eq_true (by first | (with_reducible assumption) | assumption)
            have q341 : x12_1 < (l0.length : Int) := of_decide_eq_true (by first | (with_reducible assumption) | assumption)
            obtain ⟨ad341, A341_0, c341_0, e341, hx341_0, hl341_0, hi341_0⟩ := at_L1 HR0.out x12_1 p341 q341
            obtain rfl : ad339 = ad341 := (by injection e341)
            have HR341_0 := Aside0.mk hi341_0
            have HC341_0 := Aside0.mk hl341_0
            clear hi341_0 hl341_0
            replace p341 := eq_true p341
            replace q341 := eq_true q341
            have ea_ := Option.some.inj (hx339_0.symm.trans hx341_0)
            injection ea_ with ea_ en_ ec_
            subst ea_
            subst ec_
            clear en_
            have p342 : 0 ≤ (a2 : Int) := of_decide_eq_true (by first | (with_reducible assumption) | assumption)
            have q342 : a2 < ((rd_L1 l0 x12_1).length : Int) := of_decide_eq_true (by first | (with_reducible assumption) | assumption)
            obtain ⟨ad342, e342, hx342_0⟩ := Kd.at_int HR341_0.out a2 p342 q342
            cases e342
            replace p342 := eq_true p342
            replace q342 := eq_true q342
            go_wp2
            go_meet
            case rel => exact ⟨_, (((rd (rd_L1 l0 x12_1) a2) == 0)), (by first | rfl | (simp; done) | (simp [*]; done)), H', ⟨by have := HK1.out; first | omega | exact Nat.le_refl _⟩, by repeat (first | exact Drawn0.refl _ | apply Drawn0.step)⟩
           ·
            rw [if_neg c12] at H
            exact absurd H (by simp)
          ·
           rw [if_neg c11] at H
           exact absurd H (by simp)
        ·
         rw [if_neg c9] at H
         exact absurd H (by simp)
       ·
        rw [if_neg c8] at H
        exact absurd H (by simp)
      ·
       rw [if_neg c7] at H
       exact absurd H (by simp)
     ·
      rw [if_neg c6] at H
      exact absurd H (by simp)
    case rest =>
     clear HC5
     try clear c1
     try clear p2
     try clear c3
     try clear p3
     try clear q3
     try clear hx3
     try clear c4
     try clear c4b0
     try clear c5
     try clear c6
     try clear c6b0
     try clear c7
     try clear c7b0
     try clear c8
     try clear c8b0
     try clear c9
     try clear c9b0
     try clear c10
     try clear c10b0
     try clear c10b1
     try clear c11
     try clear c11b0
     try clear c12
     try clear c12b0
     try clear hx339_0
     try clear hx340_0
     try clear hx341_0
     try clear hx342_0
     try clear p2
     try clear p339
     try clear p340
     try clear p341
     try clear p342
     try clear q339
     try clear q340
     try clear q341
     try clear q342
     obtain ⟨kq, x32_4, rfl, HA, HJ4, ⟨mc4, rfl⟩⟩ := hcut
     cases kq with
     | zero => exact absurd HA.out (by simp [impl_meet.j1])
     | succ kj4 =>
      have H := HA.out
      clear HA
      simp only [impl_meet.j1] at H
      by_cases c13 : x32_4 = true
      ·
       subst c13
       have H1 : (impl_meet.l0 kj4 l0 a1 a2 (l0.length : Int) (wrap64 (x12_1 + 1))) = some r := by rw [if_pos rfl] at H; exact H
       clear H
       have H := H1
       clear H1
       have H' := Aside0.mk H
       clear H
       go_wp2
       go_roundg kj4
       case measure => have := HK1.out; have := HJ4.out; omega
       case rel => exact ⟨(wrap64 (x12_1 + 1)), (by first | rfl | (simp; done) | (simp [*]; done)), H', ⟨by have := HK1.out; have := HJ4.out; omega⟩, by repeat (first | exact Drawn0.refl _ | apply Drawn0.step)⟩
      ·
       replace c13 := Bool.eq_false_iff.mpr c13
       subst c13
       have H1 : (impl_meet.l1 kj4 l0 a1 a2 x12_1 true (l0.length : Int) x12_1 (l0.length : Int) 0) = some r := by rw [if_neg (show ¬ (false = true) by decide)] at H; exact H
       clear H
       have H := H1
       clear H1
       have H' := Aside0.mk H
       clear H
       go_wp2
       go_loopg [8, 35] kj4 (fun kq v8 v35 w' => ∃ (x8_3 : Bool) (x35_3 : Int), v8 = .bool x8_3 ∧ v35 = .int .i64 x35_3 ∧ Aside0 (impl_meet.l1 kq l0 a1 a2 x12_1 x8_3 (l0.length : Int) x12_1 (l0.length : Int) x35_3 = some r) ∧ Aside0 (kq ≤ kj4) ∧ Drawn0 w w')
       case atStart => exact ⟨(true), (0), (by first | rfl | (simp; done) | (simp [*]; done)), (by first | rfl | (simp; done) | (simp [*]; done)), H', ⟨Nat.le_refl _⟩, by repeat (first | exact Drawn0.refl _ | apply Drawn0.step)⟩
       case round =>
        clear H'
        try clear c1
        try clear p2
        try clear c3
        try clear p3
        try clear q3
        try clear hx3
        try clear c4
        try clear c4b0
        try clear c5
        try clear c6
        try clear c6b0
        try clear p6
        try clear c7
        try clear c7b0
        try clear c8
        try clear c8b0
        try clear c9
        try clear c9b0
        try clear c10
        try clear c10b0
        try clear c10b1
        try clear c11
        try clear c11b0
        try clear c12
        try clear c12b0
        try clear c13
        try clear hx339_0
        try clear hx340_0
        try clear hx341_0
        try clear hx342_0
        try clear p2
        try clear p3
        try clear p339
        try clear p340
        try clear p341
        try clear p342
        try clear q3
        try clear q339
        try clear q340
        try clear q341
        try clear q342
        obtain ⟨x8_3, x35_3, rfl, rfl, HA, HK3, ⟨m3, rfl⟩⟩ := hrel
        cases gk with
        | zero => exact absurd HA.out (by simp [impl_meet.l1])
        | succ k3 =>
         have H := HA.out
         clear HA
         simp only [impl_meet.l1] at H
         by_cases c14 : x35_3 < (l0.length : Int)
         ·
          rw [if_pos c14] at H
          have c14b0 : decide (x35_3 < (l0.length : Int)) = true := decide_eq_true c14
          clear c14
          by_cases c15 : x8_3 = true
          ·
           subst c15
           have H1 : (if 0 ≤ x35_3 then (if x35_3 < (l0.length : Int) then (if 0 ≤ a1 then (if a1 < ((rd_L1 l0 x35_3).length : Int) then (if (rd (rd_L1 l0 x35_3) a1) = 0 then (impl_meet.l1 k3 l0 a1 a2 x12_1 true (l0.length : Int) x12_1 (l0.length : Int) (wrap64 (x35_3 + 1))) else (if 0 ≤ a2 then (if a2 < ((rd_L1 l0 x35_3).length : Int) then (if (rd (rd_L1 l0 x35_3) a2) = 0 then (impl_meet.l1 k3 l0 a1 a2 x12_1 true (l0.length : Int) x12_1 (l0.length : Int) (wrap64 (x35_3 + 1))) else (if 0 ≤ x12_1 then (if x12_1 < ((rd_L1 l0 x35_3).length : Int) then (impl_meet.l1 k3 l0 a1 a2 x12_1 ((rd (rd_L1 l0 x35_3) x12_1) == 1) (l0.length : Int) x12_1 (l0.length : Int) (wrap64 (x35_3 + 1))) else (none)) else (none))) else (none)) else (none))) else (none)) else (none)) else (none)) else (none)) = some r := by rw [if_pos rfl] at H; exact H
           clear H
           have H := H1
           clear H1
           by_cases c16 : 0 ≤ x35_3
           ·
            rw [if_pos c16] at H
            have c16b0 : decide (0 ≤ x35_3) = true := decide_eq_true c16
            clear c16
            by_cases c17 : x35_3 < (l0.length : Int)
            ·
             rw [if_pos c17] at H
             have c17b0 : decide (x35_3 < (l0.length : Int)) = true := decide_eq_true c17
             clear c17
             by_cases c18 : 0 ≤ a1
             ·
              rw [if_pos c18] at H
              have c18b0 : decide (0 ≤ a1) = true := decide_eq_true c18
              clear c18
              by_cases c19 : a1 < ((rd_L1 l0 x35_3).length : Int)
              ·
               rw [if_pos c19] at H
               have c19b0 : decide (a1 < ((rd_L1 l0 x35_3).length : Int)) = true := decide_eq_true c19
               clear c19
               by_cases c20 : (rd (rd_L1 l0 x35_3) a1) = 0
               ·
                rw [if_pos c20] at H
                have c20b0 : ((rd (rd_L1 l0 x35_3) a1) == 0) = true := beq_iff_eq.mpr c20
                have c20b1 : ((rd (rd_L1 l0 x35_3) a1) != 0) = false := bne_eq_false_iff_eq.mpr c20
                clear c20
                have H' := Aside0.mk H
                clear H
                have p343 : 0 ≤ (x35_3 : Int) := of_decide_eq_true (by first | (with_reducible assumption) | assumption)
                have q343 : x35_3 < (l0.length : Int) := of_decide_eq_true (by first | (with_reducible assumption) | assumption)
                obtain ⟨ad343, A343_0, c343_0, e343, hx343_0, hl343_0, hi343_0⟩ := at_L1 HR0.out x35_3 p343 q343
                cases e343
                have HR343_0 := Aside0.mk hi343_0
                have HC343_0 := Aside0.mk hl343_0
                clear hi343_0 hl343_0
                replace p343 := eq_true p343
                replace q343 := eq_true q343
                have p344 : 0 ≤ (a1 : Int) := of_decide_eq_true (by first | (with_reducible assumption) | assumption)
                have q344 : a1 < ((rd_L1 l0 x35_3).length : Int) := of_decide_eq_true (by first | (with_reducible assumption) | assumption)
                obtain ⟨ad344, e344, hx344_0⟩ := Kd.at_int HR343_0.out a1 p344 q344
                cases e344
                replace p344 := eq_true p344
                replace q344 := eq_true q344
                go_wp2
                go_roundg k3
                case measure => have := HK1.out; have := HJ4.out; have := HK3.out; omega
                case rel => exact ⟨(true), (wrap64 (x35_3 + 1)), (by first | rfl | (simp; done) | (simp [*]; done)), (by first | rfl | (simp; done) | (simp [*]; done)), H', ⟨by have := HK1.out; have := HJ4.out; have := HK3.out; omega⟩, by repeat (first | exact Drawn0.refl _ | apply Drawn0.step)⟩
               ·
                rw [if_neg c20] at H
                have c20b0 : ((rd (rd_L1 l0 x35_3) a1) == 0) = false := beq_eq_false_iff_ne.mpr c20
                have c20b1 : ((rd (rd_L1 l0 x35_3) a1) != 0) = true := bne_iff_ne.mpr c20
                by_cases c21 : 0 ≤ a2
                ·
                 rw [if_pos c21] at H
                 have c21b0 : decide (0 ≤ a2) = true := decide_eq_true c21
                 clear c21
                 by_cases c22 : a2 < ((rd_L1 l0 x35_3).length : Int)
                 ·
                  rw [if_pos c22] at H
                  have c22b0 : decide (a2 < ((rd_L1 l0 x35_3).length : Int)) = true := decide_eq_true c22
                  clear c22
                  by_cases c23 : (rd (rd_L1 l0 x35_3) a2) = 0
                  ·
                   rw [if_pos c23] at H
                   have c23b0 : ((rd (rd_L1 l0 x35_3) a2) == 0) = true := beq_iff_eq.mpr c23
                   have c23b1 : ((rd (rd_L1 l0 x35_3) a2) != 0) = false := bne_eq_false_iff_eq.mpr c23
                   clear c23
                   have H' := Aside0.mk H
                   clear H
                   have p343 : 0 ≤ (x35_3 : Int) := of_decide_eq_true (by first | (with_reducible assumption) | assumption)
                   have q343 : x35_3 < (l0.length : Int) := of_decide_eq_true (by first | (with_reducible assumption) | assumption)
                   obtain ⟨ad343, A343_0, c343_0, e343, hx343_0, hl343_0, hi343_0⟩ := at_L1 HR0.out x35_3 p343 q343
                   cases e343
                   have HR343_0 := Aside0.mk hi343_0
                   have HC343_0 := Aside0.mk hl343_0
                   clear hi343_0 hl343_0
                   replace p343 := eq_true p343
                   replace q343 := eq_true q343
                   have p344 : 0 ≤ (a1 : Int) := of_decide_eq_true (by first | (with_reducible assumption) | assumption)
                   have q344 : a1 < ((rd_L1 l0 x35_3).length : Int) := of_decide_eq_true (by first | (with_reducible assumption) | assumption)
                   obtain ⟨ad344, e344, hx344_0⟩ := Kd.at_int HR343_0.out a1 p344 q344
                   cases e344
                   replace p344 := eq_true p344
                   replace q344 := eq_true q344
                   have p345 : 0 ≤ (x35_3 : Int) := of_decide_eq_true (by first | (with_reducible assumption) | assumption)
                   have q345 : x35_3 < (l0.length : Int) := of_decide_eq_true (by first | (with_reducible assumption) | assumption)
                   obtain ⟨ad345, A345_0, c345_0, e345, hx345_0, hl345_0, hi345_0⟩ := at_L1 HR0.out x35_3 p345 q345
                   obtain rfl : ad343 = ad345 := (by injection e345)
                   have HR345_0 := Aside0.mk hi345_0
                   have HC345_0 := Aside0.mk hl345_0
                   clear hi345_0 hl345_0
                   replace p345 := eq_true p345
                   replace q345 := eq_true q345
                   have ea_ := Option.some.inj (hx343_0.symm.trans hx345_0)
                   injection ea_ with ea_ en_ ec_
                   subst ea_
                   subst ec_
                   clear en_
                   have p346 : 0 ≤ (a2 : Int) := of_decide_eq_true (by first | (with_reducible assumption) | assumption)
                   have q346 : a2 < ((rd_L1 l0 x35_3).length : Int) := of_decide_eq_true (by first | (with_reducible assumption) | assumption)
                   obtain ⟨ad346, e346, hx346_0⟩ := Kd.at_int HR345_0.out a2 p346 q346
                   cases e346
                   replace p346 := eq_true p346
                   replace q346 := eq_true q346
                   go_wp2
                   go_roundg k3
                   case measure => have := HK1.out; have := HJ4.out; have := HK3.out; omega
                   case rel => exact ⟨(true), (wrap64 (x35_3 + 1)), (by first | rfl | (simp; done) | (simp [*]; done)), (by first | rfl | (simp; done) | (simp [*]; done)), H', ⟨by have := HK1.out; have := HJ4.out; have := HK3.out; omega⟩, by repeat (first | exact Drawn0.refl _ | apply Drawn0.step)⟩
                  ·
                   rw [if_neg c23] at H
                   have c23b0 : ((rd (rd_L1 l0 x35_3) a2) == 0) = false := beq_eq_false_iff_ne.mpr c23
                   have c23b1 : ((rd (rd_L1 l0 x35_3) a2) != 0) = true := bne_iff_ne.mpr c23
                   by_cases c24 : 0 ≤ x12_1
                   ·
                    rw [if_pos c24] at H
                    have c24b0 : decide (0 ≤ x12_1) = true := decide_eq_true c24
                    clear c24
                    by_cases c25 : x12_1 < ((rd_L1 l0 x35_3).length : Int)
                    ·
                     rw [if_pos c25] at H
                     have c25b0 : decide (x12_1 < ((rd_L1 l0 x35_3).length : Int)) = true := decide_eq_true c25
                     clear c25
                     have H' := Aside0.mk H
                     clear H
                     have p343 : 0 ≤ (x35_3 : Int) := of_decide_eq_true (by first | (with_reducible assumption) | assumption)
                     have q343 : x35_3 < (l0.length : Int) := of_decide_eq_true (by first | (with_reducible assumption) | assumption)
                     obtain ⟨ad343, A343_0, c343_0, e343, hx343_0, hl343_0, hi343_0⟩ := at_L1 HR0.out x35_3 p343 q343
                     cases e343
                     have HR343_0 := Aside0.mk hi343_0
                     have HC343_0 := Aside0.mk hl343_0
                     clear hi343_0 hl343_0
                     replace p343 := eq_true p343
                     replace q343 := eq_true q343
                     have p344 : 0 ≤ (a1 : Int) := of_decide_eq_true (by first | (with_reducible assumption) | assumption)
                     have q344 : a1 < ((rd_L1 l0 x35_3).length : Int) := of_decide_eq_true (by first | (with_reducible assumption) | assumption)
                     obtain ⟨ad344, e344, hx344_0⟩ := Kd.at_int HR343_0.out a1 p344 q344
                     cases e344
                     replace p344 := eq_true p344
                     replace q344 := eq_true q344
                     have p345 : 0 ≤ (x35_3 : Int) := of_decide_eq_true (by first | (with_reducible assumption) | assumption)
                     have q345 : x35_3 < (l0.length : Int) := of_decide_eq_true (by first | (with_reducible assumption) | assumption)
                     obtain ⟨ad345, A345_0, c345_0, e345, hx345_0, hl345_0, hi345_0⟩ := at_L1 HR0.out x35_3 p345 q345
                     obtain rfl : ad343 = ad345 := (by injection e345)
                     have HR345_0 := Aside0.mk hi345_0
                     have HC345_0 := Aside0.mk hl345_0
                     clear hi345_0 hl345_0
                     replace p345 := eq_true p345
                     replace q345 := eq_true q345
                     have ea_ := Option.some.inj (hx343_0.symm.trans hx345_0)
                     injection ea_ with ea_ en_ ec_
                     subst ea_
                     subst ec_
                     clear en_
                     have p346 : 0 ≤ (a2 : Int) := of_decide_eq_true (by first | (with_reducible assumption) | assumption)
                     have q346 : a2 < ((rd_L1 l0 x35_3).length : Int) := of_decide_eq_true (by first | (with_reducible assumption) | assumption)
                     obtain ⟨ad346, e346, hx346_0⟩ := Kd.at_int HR345_0.out a2 p346 q346
                     cases e346
                     replace p346 := eq_true p346
                     replace q346 := eq_true q346
                     have p347 : 0 ≤ (x35_3 : Int) := of_decide_eq_true (by first | (with_reducible assumption) | assumption)
                     have q347 : x35_3 < (l0.length : Int) := of_decide_eq_true (by first | (with_reducible assumption) | assumption)
                     obtain ⟨ad347, A347_0, c347_0, e347, hx347_0, hl347_0, hi347_0⟩ := at_L1 HR0.out x35_3 p347 q347
                     obtain rfl : ad343 = ad347 := (by injection e347)
                     have HR347_0 := Aside0.mk hi347_0
                     have HC347_0 := Aside0.mk hl347_0
                     clear hi347_0 hl347_0
                     replace p347 := eq_true p347
                     replace q347 := eq_true q347
                     have ea_ := Option.some.inj (hx343_0.symm.trans hx347_0)
                     injection ea_ with ea_ en_ ec_
                     subst ea_
                     subst ec_
                     clear en_
                     have p348 : 0 ≤ (x12_1 : Int) := of_decide_eq_true (by first | (with_reducible assumption) | assumption)
                     have q348 : x12_1 < ((rd_L1 l0 x35_3).length : Int) := of_decide_eq_true (by first | (with_reducible assumption) | assumption)
                     obtain ⟨ad348, e348, hx348_0⟩ := Kd.at_int HR347_0.out x12_1 p348 q348
                     cases e348
                     replace p348 := eq_true p348
                     replace q348 := eq_true q348
                     go_wp2
                     go_roundg k3
                     case measure => have := HK1.out; have := HJ4.out; have := HK3.out; omega
                     case rel => exact ⟨(((rd (rd_L1 l0 x35_3) x12_1) == 1)), (wrap64 (x35_3 + 1)), (by first | rfl | (simp; done) | (simp [*]; done)), (by first | rfl | (simp; done) | (simp [*]; done)), H', ⟨by have := HK1.out; have := HJ4.out; have := HK3.out; omega⟩, by repeat (first | exact Drawn0.refl _ | apply Drawn0.step)⟩
                    ·
                     rw [if_neg c25] at H
                     exact absurd H (by simp)
                   ·
                    rw [if_neg c24] at H
                    exact absurd H (by simp)
                 ·
                  rw [if_neg c22] at H
                  exact absurd H (by simp)
                ·
                 rw [if_neg c21] at H
                 exact absurd H (by simp)
              ·
               rw [if_neg c19] at H
               exact absurd H (by simp)
             ·
              rw [if_neg c18] at H
              exact absurd H (by simp)
            ·
             rw [if_neg c17] at H
             exact absurd H (by simp)
           ·
            rw [if_neg c16] at H
            exact absurd H (by simp)
          ·
           replace c15 := Bool.eq_false_iff.mpr c15
           subst c15
           have H1 : (impl_meet.l1 k3 l0 a1 a2 x12_1 false (l0.length : Int) x12_1 (l0.length : Int) (wrap64 (x35_3 + 1))) = some r := by rw [if_neg (show ¬ (false = true) by decide)] at H; exact H
           clear H
           have H := H1
           clear H1
           have H' := Aside0.mk H
           clear H
           go_wp2
           go_roundg k3
           case measure => have := HK1.out; have := HJ4.out; have := HK3.out; omega
           case rel => exact ⟨(false), (wrap64 (x35_3 + 1)), (by first | rfl | (simp; done) | (simp [*]; done)), (by first | rfl | (simp; done) | (simp [*]; done)), H', ⟨by have := HK1.out; have := HJ4.out; have := HK3.out; omega⟩, by repeat (first | exact Drawn0.refl _ | apply Drawn0.step)⟩
         ·
          rw [if_neg c14] at H
          have c14b0 : decide (x35_3 < (l0.length : Int)) = false := decide_eq_false c14
          clear c14
          by_cases c26 : x8_3 = true
          ·
           subst c26
           have H1 : (some x12_1) = some r := by rw [if_pos rfl] at H; exact H
           clear H
           have H := H1
           clear H1
           obtain rfl := Option.some.inj H
           go_wp2
           go_ret
           exact ⟨by first | rfl | (simp; done) | (simp [*]; done), by repeat (first | exact Drawn0.refl _ | apply Drawn0.step)⟩
          ·
           replace c26 := Bool.eq_false_iff.mpr c26
           subst c26
           have H1 : (impl_meet.l0 k3 l0 a1 a2 (l0.length : Int) (wrap64 (x12_1 + 1))) = some r := by rw [if_neg (show ¬ (false = true) by decide)] at H; exact H
           clear H
           have H := H1
           clear H1
           have H' := Aside0.mk H
           clear H
           go_wp2
           go_roundg k3
           case measure => have := HK1.out; have := HJ4.out; have := HK3.out; omega
           case rel => exact ⟨(wrap64 (x12_1 + 1)), (by first | rfl | (simp; done) | (simp [*]; done)), H', ⟨by have := HK1.out; have := HJ4.out; have := HK3.out; omega⟩, by repeat (first | exact Drawn0.refl _ | apply Drawn0.step)⟩
   ·
    rw [if_neg c4] at H
    have c4b0 : decide (x12_1 < (l0.length : Int)) = false := decide_eq_false c4
    clear c4
    obtain rfl := Option.some.inj H
    go_wp2
    go_ret
    exact ⟨by first | rfl | (simp; done) | (simp [*]; done), by repeat (first | exact Drawn0.refl _ | apply Drawn0.step)⟩

end Go.Proofs.Ytilgbnbeonlbnaa.P
