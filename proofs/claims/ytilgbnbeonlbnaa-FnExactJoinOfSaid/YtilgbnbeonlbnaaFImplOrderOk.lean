-- written by gen.py (a program of this session) out of the kit's print of this seat's translation
import Derived.Test.YtilgbnbeonlbnaaI
import Derived.Test.YtilgbnbeonlbnaaD
namespace Go.Proofs.Ytilgbnbeonlbnaa.P
open Go.RowKit Go.Proofs.YtilgbnbeonlbnaaW.PrintWords Go.Proofs.YtilgbnbeonlbnaaW.PrintLast Go.Proofs.YtilgbnbeonlbnaaW.PrintMore
attribute [local go_sem] max2_int min2_int max_two min_two max_three min_three max_four min_four
set_option linter.unusedVariables false
set_option linter.unusedSimpArgs false
set_option maxHeartbeats 8000000 in
set_option maxRecDepth 100000 in
theorem impl_OrderOk.calls (k : Nat) (A0 : Option Addr) (c0 : Nat) (l0 : List (List Int)) (r : Bool) (w : World) (hr0 : Kd.C (Kd.slice 3 (Kd.int .i64)) w A0 l0.length l0) (hc0 : l0.length ≤ c0) (h : impl_OrderOk.f k l0 = some r) :
  Calls Try.prog 21 #[.slice A0 l0.length c0] w fun e w' => e = .returned (.bool r) ∧ Drawn0 w w' := by
 have HR0 := Aside0.mk hr0
 have HC0 := Aside0.mk hc0
 clear hr0 hc0
 have H : (if (l0.length : Int) < 1 then (impl_OrderOk.j0 k l0 (l0.length : Int) true) else (impl_OrderOk.j0 k l0 (l0.length : Int) (decide ((l0.length : Int) > 12)))) = some r := h
 clear h
 have HC2 := Aside0.mk H
 clear H
 go_enter Try.func21, Try.ntmps21
 go_upto_region 2 with (fail)
 go_cut [18] (fun v18 wc => ∃ (kq : Nat) (x18_1 : Bool), v18 = .bool x18_1 ∧ Aside0 (impl_OrderOk.j0 kq l0 (l0.length : Int) x18_1 = some r) ∧ Aside0 (kq ≤ k) ∧ Drawn0 w wc)
 case first =>
  have H := HC2.out
  clear HC2
  by_cases c3 : (l0.length : Int) < 1
  ·
   rw [if_pos c3] at H
   have c3b0 : decide ((l0.length : Int) < 1) = true := decide_eq_true c3
   have c3b1 : decide (l0.length < 1) = true := decide_eq_true (by omega)
   clear c3
   (first | rw [c3b0] | (simp only [i64_w, i32_w]; rw [c3b0]) | skip)
   have H' := Aside0.mk H
   clear H
   go_wp2
   go_meet
   case rel => exact ⟨_, (true), (by first | rfl | (simp; done) | (simp [*]; done)), H', ⟨by first | omega | exact Nat.le_refl _⟩, by repeat (first | exact Drawn0.refl _ | apply Drawn0.step)⟩
  ·
   rw [if_neg c3] at H
   have c3b0 : decide ((l0.length : Int) < 1) = false := decide_eq_false c3
   have c3b1 : decide (l0.length < 1) = false := decide_eq_false (by omega)
   clear c3
   (first | rw [c3b0] | (simp only [i64_w, i32_w]; rw [c3b0]) | skip)
   have H' := Aside0.mk H
   clear H
   go_wp2
   go_meet
   case rel => exact ⟨_, (decide ((l0.length : Int) > 12)), (by first | rfl | (simp; done) | (simp [*]; done)), H', ⟨by first | omega | exact Nat.le_refl _⟩, by repeat (first | exact Drawn0.refl _ | apply Drawn0.step)⟩
 case rest =>
  clear HC2
  try clear c2
  try clear p2
  try clear c3
  try clear c3b0
  try clear c3b1
  obtain ⟨kq, x18_1, rfl, HA, HJ1, ⟨mc1, rfl⟩⟩ := hcut
  cases kq with
  | zero => exact absurd HA.out (by simp [impl_OrderOk.j0])
  | succ kj1 =>
   have H := HA.out
   clear HA
   simp only [impl_OrderOk.j0] at H
   by_cases c4 : x18_1 = true
   ·
    subst c4
    have H1 : (some false) = some r := by rw [if_pos rfl] at H; exact H
    clear H
    have H := H1
    clear H1
    obtain rfl := Option.some.inj H
    go_wp2
    go_ret
    exact ⟨by first | rfl | (simp; done) | (simp [*]; done), by repeat (first | exact Drawn0.refl _ | apply Drawn0.step)⟩
   ·
    replace c4 := Bool.eq_false_iff.mpr c4
    subst c4
    have H1 : (impl_OrderOk.l0 kj1 l0 (l0.length : Int) l0 (l0.length : Int) 0) = some r := by rw [if_neg (show ¬ (false = true) by decide)] at H; exact H
    clear H
    have H := H1
    clear H1
    have H' := Aside0.mk H
    clear H
    go_wp2
    go_loopg [21] kj1 (fun kq v21 w' => ∃ (x21_2 : Int), v21 = .int .i64 x21_2 ∧ Aside0 (impl_OrderOk.l0 kq l0 (l0.length : Int) l0 (l0.length : Int) x21_2 = some r) ∧ Aside0 (kq ≤ kj1) ∧ Drawn0 w w')
    case atStart => exact ⟨(0), (by first | rfl | (simp; done) | (simp [*]; done)), H', ⟨Nat.le_refl _⟩, by repeat (first | exact Drawn0.refl _ | apply Drawn0.step)⟩
    case round =>
     clear H'
     try clear c1
     try clear c2
     try clear p2
     try clear c3
     try clear c3b0
     try clear c3b1
     try clear c4
     try clear p2
     obtain ⟨x21_2, rfl, HA, HK2, ⟨m2, rfl⟩⟩ := hrel
     cases gk with
     | zero => exact absurd HA.out (by simp [impl_OrderOk.l0])
     | succ k2 =>
      have H := HA.out
      clear HA
      simp only [impl_OrderOk.l0] at H
      by_cases c5 : x21_2 < (l0.length : Int)
      ·
       rw [if_pos c5] at H
       have c5b0 : decide (x21_2 < (l0.length : Int)) = true := decide_eq_true c5
       clear c5
       by_cases c6 : 0 ≤ x21_2
       ·
        rw [if_pos c6] at H
        have c6b0 : decide (0 ≤ x21_2) = true := decide_eq_true c6
        clear c6
        by_cases c7 : x21_2 < (l0.length : Int)
        ·
         rw [if_pos c7] at H
         have c7b0 : decide (x21_2 < (l0.length : Int)) = true := decide_eq_true c7
         clear c7
         have HC8 := Aside0.mk H
         clear H
         have p133 : 0 ≤ (x21_2 : Int) := of_decide_eq_true (by first | (with_reducible assumption) | assumption)
         have q133 : x21_2 < (l0.length : Int) := of_decide_eq_true (by first | (with_reducible assumption) | assumption)
         obtain ⟨ad133, A133_0, c133_0, e133, hx133_0, hl133_0, hi133_0⟩ := at_L1 HR0.out x21_2 p133 q133
         cases e133
         have HR133_0 := Aside0.mk hi133_0
         have HC133_0 := Aside0.mk hl133_0
         clear hi133_0 hl133_0
         replace p133 := eq_true p133
         replace q133 := eq_true q133
         go_upto_region 7 with (fail)
         go_cut [36] (fun v36 wc => ∃ (kq : Nat) (x36_7 : Bool), v36 = .bool x36_7 ∧ Aside0 (impl_OrderOk.j2 kq l0 (l0.length : Int) x21_2 (rd_L1 l0 x21_2) l0 (l0.length : Int) x21_2 x36_7 = some r) ∧ Aside0 (kq ≤ k2) ∧ Drawn0 w wc)
         case first =>
          have H := HC8.out
          clear HC8
          by_cases c9 : ((rd_L1 l0 x21_2).length : Int) = (l0.length : Int)
          ·
           rw [if_pos c9] at H
           have c9b0 : (((rd_L1 l0 x21_2).length : Int) == (l0.length : Int)) = true := beq_iff_eq.mpr c9
           have c9b1 : (((rd_L1 l0 x21_2).length : Int) != (l0.length : Int)) = false := bne_eq_false_iff_eq.mpr c9
           have c9b2 : ((rd_L1 l0 x21_2).length == l0.length) = true := by first | simpa using c9 | (simp at c9 ⊢; omega)
           clear c9
           (first | rw [c9b0] | (simp only [i64_w, i32_w]; rw [c9b0]) | skip)
           by_cases c10 : x21_2 < ((rd_L1 l0 x21_2).length : Int)
           ·
            rw [if_pos c10] at H
            have c10b0 : decide (x21_2 < ((rd_L1 l0 x21_2).length : Int)) = true := decide_eq_true c10
            clear c10
            have H' := Aside0.mk H
            clear H
            have p134 : 0 ≤ (x21_2 : Int) := of_decide_eq_true (by first | (with_reducible assumption) | assumption)
            have q134 : x21_2 < ((rd_L1 l0 x21_2).length : Int) := of_decide_eq_true (by first | (with_reducible assumption) | assumption)
            obtain ⟨ad134, e134, hx134_0⟩ := Kd.at_int HR133_0.out x21_2 p134 q134
            cases e134
            replace p134 := eq_true p134
            replace q134 := eq_true q134
            go_wp2
            go_meet
            case rel => exact ⟨_, (((rd (rd_L1 l0 x21_2) x21_2) != 1)), (by first | rfl | (simp; done) | (simp [*]; done)), H', ⟨by have := HJ1.out; have := HK2.out; first | omega | exact Nat.le_refl _⟩, by repeat (first | exact Drawn0.refl _ | apply Drawn0.step)⟩
           ·
            rw [if_neg c10] at H
            exact absurd H (by simp)
          ·
           rw [if_neg c9] at H
           have c9b0 : (((rd_L1 l0 x21_2).length : Int) == (l0.length : Int)) = false := beq_eq_false_iff_ne.mpr c9
           have c9b1 : (((rd_L1 l0 x21_2).length : Int) != (l0.length : Int)) = true := bne_iff_ne.mpr c9
           have c9b2 : ((rd_L1 l0 x21_2).length == l0.length) = false := by first | simpa using c9 | (simp at c9 ⊢; omega)
           (first | rw [c9b0] | (simp only [i64_w, i32_w]; rw [c9b0]) | skip)
           have H' := Aside0.mk H
           clear H
           go_wp2
           go_meet
           case rel => exact ⟨_, (true), (by first | rfl | (simp; done) | (simp [*]; done)), H', ⟨by have := HJ1.out; have := HK2.out; first | omega | exact Nat.le_refl _⟩, by repeat (first | exact Drawn0.refl _ | apply Drawn0.step)⟩
         case rest =>
          clear HC8
          try clear c1
          try clear p1
          try clear q1
          try clear hx1
          try clear c2
          try clear p2
          try clear c3
          try clear c3b0
          try clear c3b1
          try clear c4
          try clear c5
          try clear c5b0
          try clear c6
          try clear c6b0
          try clear c7
          try clear c7b0
          try clear c9
          try clear c9b0
          try clear c9b1
          try clear c9b2
          try clear c10
          try clear c10b0
          try clear hx133_0
          try clear hx134_0
          try clear p133
          try clear p134
          try clear p2
          try clear q133
          try clear q134
          obtain ⟨kq, x36_7, rfl, HA, HJ7, ⟨mc7, rfl⟩⟩ := hcut
          cases kq with
          | zero => exact absurd HA.out (by simp [impl_OrderOk.j2])
          | succ kj7 =>
           have H := HA.out
           clear HA
           simp only [impl_OrderOk.j2] at H
           by_cases c11 : x36_7 = true
           ·
            subst c11
            have H1 : (some false) = some r := by rw [if_pos rfl] at H; exact H
            clear H
            have H := H1
            clear H1
            obtain rfl := Option.some.inj H
            go_wp2
            go_ret
            exact ⟨by first | rfl | (simp; done) | (simp [*]; done), by repeat (first | exact Drawn0.refl _ | apply Drawn0.step)⟩
           ·
            replace c11 := Bool.eq_false_iff.mpr c11
            subst c11
            have H1 : (impl_OrderOk.l1 kj7 l0 (l0.length : Int) x21_2 l0 (l0.length : Int) x21_2 (rd_L1 l0 x21_2) ((rd_L1 l0 x21_2).length : Int) 0) = some r := by rw [if_neg (show ¬ (false = true) by decide)] at H; exact H
            clear H
            have H := H1
            clear H1
            have H' := Aside0.mk H
            clear H
            go_wp2
            go_loopg [39] kj7 (fun kq v39 w' => ∃ (x39_4 : Int), v39 = .int .i64 x39_4 ∧ Aside0 (impl_OrderOk.l1 kq l0 (l0.length : Int) x21_2 l0 (l0.length : Int) x21_2 (rd_L1 l0 x21_2) ((rd_L1 l0 x21_2).length : Int) x39_4 = some r) ∧ Aside0 (kq ≤ kj7) ∧ Drawn0 w w')
            case atStart => exact ⟨(0), (by first | rfl | (simp; done) | (simp [*]; done)), H', ⟨Nat.le_refl _⟩, by repeat (first | exact Drawn0.refl _ | apply Drawn0.step)⟩
            case round =>
             clear H'
             try clear c1
             try clear p1
             try clear q1
             try clear hx1
             try clear c2
             try clear p2
             try clear c3
             try clear c3b0
             try clear c3b1
             try clear c4
             try clear c5
             try clear c5b0
             try clear c6
             try clear c6b0
             try clear c7
             try clear c7b0
             try clear c9
             try clear c9b0
             try clear c9b1
             try clear c9b2
             try clear c10
             try clear c10b0
             try clear c11
             try clear hx133_0
             try clear hx134_0
             try clear p1
             try clear p133
             try clear p134
             try clear p2
             try clear q1
             try clear q133
             try clear q134
             obtain ⟨x39_4, rfl, HA, HK4, ⟨m4, rfl⟩⟩ := hrel
             cases gk with
             | zero => exact absurd HA.out (by simp [impl_OrderOk.l1])
             | succ k4 =>
              have H := HA.out
              clear HA
              simp only [impl_OrderOk.l1] at H
              by_cases c12 : x39_4 < ((rd_L1 l0 x21_2).length : Int)
              ·
               rw [if_pos c12] at H
               have c12b0 : decide (x39_4 < ((rd_L1 l0 x21_2).length : Int)) = true := decide_eq_true c12
               clear c12
               by_cases c13 : 0 ≤ x39_4
               ·
                rw [if_pos c13] at H
                have c13b0 : decide (0 ≤ x39_4) = true := decide_eq_true c13
                clear c13
                by_cases c14 : x39_4 < ((rd_L1 l0 x21_2).length : Int)
                ·
                 rw [if_pos c14] at H
                 have c14b0 : decide (x39_4 < ((rd_L1 l0 x21_2).length : Int)) = true := decide_eq_true c14
                 clear c14
                 have HC15 := Aside0.mk H
                 clear H
                 have p135 : 0 ≤ (x39_4 : Int) := of_decide_eq_true (by first | (with_reducible assumption) | assumption)
                 have q135 : x39_4 < ((rd_L1 l0 x21_2).length : Int) := of_decide_eq_true (by first | (with_reducible assumption) | assumption)
                 obtain ⟨ad135, e135, hx135_0⟩ := Kd.at_int HR133_0.out x39_4 p135 q135
                 cases e135
                 replace p135 := eq_true p135
                 replace q135 := eq_true q135
                 go_upto_region 12 with (fail)
                 go_cut [49] (fun v49 wc => ∃ (kq : Nat) (x49_14 : Bool), v49 = .bool x49_14 ∧ Aside0 (impl_OrderOk.j4 kq l0 (l0.length : Int) x21_2 x39_4 (rd (rd_L1 l0 x21_2) x39_4) l0 (l0.length : Int) x21_2 (rd_L1 l0 x21_2) ((rd_L1 l0 x21_2).length : Int) x39_4 x49_14 = some r) ∧ Aside0 (kq ≤ k4) ∧ Drawn0 w wc)
                 case first =>
                  have H := HC15.out
                  clear HC15
                  by_cases c16 : (rd (rd_L1 l0 x21_2) x39_4) = 0
                  ·
                   rw [if_pos c16] at H
                   have c16b0 : ((rd (rd_L1 l0 x21_2) x39_4) == 0) = true := beq_iff_eq.mpr c16
                   have c16b1 : ((rd (rd_L1 l0 x21_2) x39_4) != 0) = false := bne_eq_false_iff_eq.mpr c16
                   clear c16
                   (first | rw [c16b0] | (simp only [i64_w, i32_w]; rw [c16b0]) | skip)
                   have H' := Aside0.mk H
                   clear H
                   go_wp2
                   go_meet
                   case rel => exact ⟨_, (false), (by first | rfl | (simp; done) | (simp [*]; done)), H', ⟨by have := HJ1.out; have := HK2.out; have := HJ7.out; have := HK4.out; first | omega | exact Nat.le_refl _⟩, by repeat (first | exact Drawn0.refl _ | apply Drawn0.step)⟩
                  ·
                   rw [if_neg c16] at H
                   have c16b0 : ((rd (rd_L1 l0 x21_2) x39_4) == 0) = false := beq_eq_false_iff_ne.mpr c16
                   have c16b1 : ((rd (rd_L1 l0 x21_2) x39_4) != 0) = true := bne_iff_ne.mpr c16
                   (first | rw [c16b0] | (simp only [i64_w, i32_w]; rw [c16b0]) | skip)
                   have H' := Aside0.mk H
                   clear H
                   go_wp2
                   go_meet
                   case rel => exact ⟨_, (((rd (rd_L1 l0 x21_2) x39_4) != 1)), (by first | rfl | (simp; done) | (simp [*]; done)), H', ⟨by have := HJ1.out; have := HK2.out; have := HJ7.out; have := HK4.out; first | omega | exact Nat.le_refl _⟩, by repeat (first | exact Drawn0.refl _ | apply Drawn0.step)⟩
                 case rest =>
                  clear HC15
                  try clear c1
                  try clear p1
                  try clear q1
                  try clear hx1
                  try clear c2
                  try clear p2
                  try clear c3
                  try clear c3b0
                  try clear c3b1
                  try clear c4
                  try clear c5
                  try clear c5b0
                  try clear c6
                  try clear c6b0
                  try clear c7
                  try clear c7b0
                  try clear c9
                  try clear c9b0
                  try clear c9b1
                  try clear c9b2
                  try clear c10
                  try clear c10b0
                  try clear c11
                  try clear c12
                  try clear c12b0
                  try clear c13
                  try clear c13b0
                  try clear p13
                  try clear q13
                  try clear hx13
                  try clear c14
                  try clear c14b0
                  try clear c16
                  try clear c16b0
                  try clear c16b1
                  try clear hx133_0
                  try clear hx134_0
                  try clear hx135_0
                  try clear p1
                  try clear p133
                  try clear p134
                  try clear p135
                  try clear p2
                  try clear q1
                  try clear q133
                  try clear q134
                  try clear q135
                  obtain ⟨kq, x49_14, rfl, HA, HJ14, ⟨mc14, rfl⟩⟩ := hcut
                  cases kq with
                  | zero => exact absurd HA.out (by simp [impl_OrderOk.j4])
                  | succ kj14 =>
                   have H := HA.out
                   clear HA
                   simp only [impl_OrderOk.j4] at H
                   by_cases c17 : x49_14 = true
                   ·
                    subst c17
                    have H1 : (some false) = some r := by rw [if_pos rfl] at H; exact H
                    clear H
                    have H := H1
                    clear H1
                    obtain rfl := Option.some.inj H
                    go_wp2
                    go_ret
                    exact ⟨by first | rfl | (simp; done) | (simp [*]; done), by repeat (first | exact Drawn0.refl _ | apply Drawn0.step)⟩
                   ·
                    replace c17 := Bool.eq_false_iff.mpr c17
                    subst c17
                    have H1 : (if 0 ≤ x39_4 then (if x39_4 < (l0.length : Int) then (if ((rd_L1 l0 x39_4).length : Int) = (l0.length : Int) then (if (rd (rd_L1 l0 x21_2) x39_4) = 1 then (if x21_2 = x39_4 then (impl_OrderOk.l1 kj14 l0 (l0.length : Int) x21_2 l0 (l0.length : Int) x21_2 (rd_L1 l0 x21_2) ((rd_L1 l0 x21_2).length : Int) (wrap64 (x39_4 + 1))) else (if 0 ≤ x21_2 then (if x21_2 < ((rd_L1 l0 x39_4).length : Int) then (if (rd (rd_L1 l0 x39_4) x21_2) = 1 then (some false) else (impl_OrderOk.l1 kj14 l0 (l0.length : Int) x21_2 l0 (l0.length : Int) x21_2 (rd_L1 l0 x21_2) ((rd_L1 l0 x21_2).length : Int) (wrap64 (x39_4 + 1)))) else (none)) else (none))) else (impl_OrderOk.l1 kj14 l0 (l0.length : Int) x21_2 l0 (l0.length : Int) x21_2 (rd_L1 l0 x21_2) ((rd_L1 l0 x21_2).length : Int) (wrap64 (x39_4 + 1)))) else (some false)) else (none)) else (none)) = some r := by rw [if_neg (show ¬ (false = true) by decide)] at H; exact H
                    clear H
                    have H := H1
                    clear H1
                    by_cases c18 : 0 ≤ x39_4
                    ·
                     rw [if_pos c18] at H
                     have c18b0 : decide (0 ≤ x39_4) = true := decide_eq_true c18
                     clear c18
                     by_cases c19 : x39_4 < (l0.length : Int)
                     ·
                      rw [if_pos c19] at H
                      have c19b0 : decide (x39_4 < (l0.length : Int)) = true := decide_eq_true c19
                      clear c19
                      by_cases c20 : ((rd_L1 l0 x39_4).length : Int) = (l0.length : Int)
                      ·
                       rw [if_pos c20] at H
                       have c20b0 : (((rd_L1 l0 x39_4).length : Int) == (l0.length : Int)) = true := beq_iff_eq.mpr c20
                       have c20b1 : (((rd_L1 l0 x39_4).length : Int) != (l0.length : Int)) = false := bne_eq_false_iff_eq.mpr c20
                       have c20b2 : ((rd_L1 l0 x39_4).length == l0.length) = true := by first | simpa using c20 | (simp at c20 ⊢; omega)
                       clear c20
                       by_cases c21 : (rd (rd_L1 l0 x21_2) x39_4) = 1
                       ·
                        rw [if_pos c21] at H
                        have c21b0 : ((rd (rd_L1 l0 x21_2) x39_4) == 1) = true := beq_iff_eq.mpr c21
                        have c21b1 : ((rd (rd_L1 l0 x21_2) x39_4) != 1) = false := bne_eq_false_iff_eq.mpr c21
                        clear c21
                        by_cases c22 : x21_2 = x39_4
                        ·
                         rw [if_pos c22] at H
                         have c22b0 : (x21_2 == x39_4) = true := beq_iff_eq.mpr c22
                         have c22b1 : (x21_2 != x39_4) = false := bne_eq_false_iff_eq.mpr c22
                         clear c22
                         have H' := Aside0.mk H
                         clear H
                         have p136 : 0 ≤ (x39_4 : Int) := of_decide_eq_true (by first | (with_reducible assumption) | assumption)
                         have q136 : x39_4 < (l0.length : Int) := of_decide_eq_true (by first | (with_reducible assumption) | assumption)
                         obtain ⟨ad136, A136_0, c136_0, e136, hx136_0, hl136_0, hi136_0⟩ := at_L1 HR0.out x39_4 p136 q136
                         obtain rfl : ad133 = ad136 := (by injection e136)
                         have HR136_0 := Aside0.mk hi136_0
                         have HC136_0 := Aside0.mk hl136_0
                         clear hi136_0 hl136_0
                         replace p136 := eq_true p136
                         replace q136 := eq_true q136
                         go_wp2
                         go_roundg kj14
                         case measure => have := HJ1.out; have := HK2.out; have := HJ7.out; have := HK4.out; have := HJ14.out; omega
                         case rel => exact ⟨(wrap64 (x39_4 + 1)), (by first | rfl | (simp; done) | (simp [*]; done)), H', ⟨by have := HJ1.out; have := HK2.out; have := HJ7.out; have := HK4.out; have := HJ14.out; omega⟩, by repeat (first | exact Drawn0.refl _ | apply Drawn0.step)⟩
                        ·
                         rw [if_neg c22] at H
                         have c22b0 : (x21_2 == x39_4) = false := beq_eq_false_iff_ne.mpr c22
                         have c22b1 : (x21_2 != x39_4) = true := bne_iff_ne.mpr c22
                         by_cases c23 : 0 ≤ x21_2
                         ·
                          rw [if_pos c23] at H
                          have c23b0 : decide (0 ≤ x21_2) = true := decide_eq_true c23
                          clear c23
                          by_cases c24 : x21_2 < ((rd_L1 l0 x39_4).length : Int)
                          ·
                           rw [if_pos c24] at H
                           have c24b0 : decide (x21_2 < ((rd_L1 l0 x39_4).length : Int)) = true := decide_eq_true c24
                           clear c24
                           by_cases c25 : (rd (rd_L1 l0 x39_4) x21_2) = 1
                           ·
                            rw [if_pos c25] at H
                            have c25b0 : ((rd (rd_L1 l0 x39_4) x21_2) == 1) = true := beq_iff_eq.mpr c25
                            have c25b1 : ((rd (rd_L1 l0 x39_4) x21_2) != 1) = false := bne_eq_false_iff_eq.mpr c25
                            clear c25
                            obtain rfl := Option.some.inj H
                            have p136 : 0 ≤ (x39_4 : Int) := of_decide_eq_true (by first | (with_reducible assumption) | assumption)
                            have q136 : x39_4 < (l0.length : Int) := of_decide_eq_true (by first | (with_reducible assumption) | assumption)
                            obtain ⟨ad136, A136_0, c136_0, e136, hx136_0, hl136_0, hi136_0⟩ := at_L1 HR0.out x39_4 p136 q136
                            obtain rfl : ad133 = ad136 := (by injection e136)
                            have HR136_0 := Aside0.mk hi136_0
                            have HC136_0 := Aside0.mk hl136_0
                            clear hi136_0 hl136_0
                            replace p136 := eq_true p136
                            replace q136 := eq_true q136
                            have p137 : 0 ≤ (x39_4 : Int) := of_decide_eq_true (by first | (with_reducible assumption) | assumption)
                            have q137 : x39_4 < (l0.length : Int) := of_decide_eq_true (by first | (with_reducible assumption) | assumption)
                            obtain ⟨ad137, A137_0, c137_0, e137, hx137_0, hl137_0, hi137_0⟩ := at_L1 HR0.out x39_4 p137 q137
                            obtain rfl : ad133 = ad137 := (by injection e137)
                            have HR137_0 := Aside0.mk hi137_0
                            have HC137_0 := Aside0.mk hl137_0
                            clear hi137_0 hl137_0
                            replace p137 := eq_true p137
                            replace q137 := eq_true q137
                            have ea_ := Option.some.inj (hx136_0.symm.trans hx137_0)
                            injection ea_ with ea_ en_ ec_
                            subst ea_
                            subst ec_
                            clear en_
                            have p138 : 0 ≤ (x21_2 : Int) := of_decide_eq_true (by first | (with_reducible assumption) | assumption)
                            have q138 : x21_2 < ((rd_L1 l0 x39_4).length : Int) := of_decide_eq_true (by first | (with_reducible assumption) | assumption)
                            obtain ⟨ad138, e138, hx138_0⟩ := Kd.at_int HR137_0.out x21_2 p138 q138
                            cases e138
                            replace p138 := eq_true p138
                            replace q138 := eq_true q138
                            go_wp2
                            go_ret
                            exact ⟨by first | rfl | (simp; done) | (simp [*]; done), by repeat (first | exact Drawn0.refl _ | apply Drawn0.step)⟩
                           ·
                            rw [if_neg c25] at H
                            have c25b0 : ((rd (rd_L1 l0 x39_4) x21_2) == 1) = false := beq_eq_false_iff_ne.mpr c25
                            have c25b1 : ((rd (rd_L1 l0 x39_4) x21_2) != 1) = true := bne_iff_ne.mpr c25
                            have H' := Aside0.mk H
                            clear H
                            have p136 : 0 ≤ (x39_4 : Int) := of_decide_eq_true (by first | (with_reducible assumption) | assumption)
                            have q136 : x39_4 < (l0.length : Int) := of_decide_eq_true (by first | (with_reducible assumption) | assumption)
                            obtain ⟨ad136, A136_0, c136_0, e136, hx136_0, hl136_0, hi136_0⟩ := at_L1 HR0.out x39_4 p136 q136
                            obtain rfl : ad133 = ad136 := (by injection e136)
                            have HR136_0 := Aside0.mk hi136_0
                            have HC136_0 := Aside0.mk hl136_0
                            clear hi136_0 hl136_0
                            replace p136 := eq_true p136
                            replace q136 := eq_true q136
                            have p137 : 0 ≤ (x39_4 : Int) := of_decide_eq_true (by first | (with_reducible assumption) | assumption)
                            have q137 : x39_4 < (l0.length : Int) := of_decide_eq_true (by first | (with_reducible assumption) | assumption)
                            obtain ⟨ad137, A137_0, c137_0, e137, hx137_0, hl137_0, hi137_0⟩ := at_L1 HR0.out x39_4 p137 q137
                            obtain rfl : ad133 = ad137 := (by injection e137)
                            have HR137_0 := Aside0.mk hi137_0
                            have HC137_0 := Aside0.mk hl137_0
                            clear hi137_0 hl137_0
                            replace p137 := eq_true p137
                            replace q137 := eq_true q137
                            have ea_ := Option.some.inj (hx136_0.symm.trans hx137_0)
                            injection ea_ with ea_ en_ ec_
                            subst ea_
                            subst ec_
                            clear en_
                            have p138 : 0 ≤ (x21_2 : Int) := of_decide_eq_true (by first | (with_reducible assumption) | assumption)
                            have q138 : x21_2 < ((rd_L1 l0 x39_4).length : Int) := of_decide_eq_true (by first | (with_reducible assumption) | assumption)
                            obtain ⟨ad138, e138, hx138_0⟩ := Kd.at_int HR137_0.out x21_2 p138 q138
                            cases e138
                            replace p138 := eq_true p138
                            replace q138 := eq_true q138
                            go_wp2
                            go_roundg kj14
                            case measure => have := HJ1.out; have := HK2.out; have := HJ7.out; have := HK4.out; have := HJ14.out; omega
                            case rel => exact ⟨(wrap64 (x39_4 + 1)), (by first | rfl | (simp; done) | (simp [*]; done)), H', ⟨by have := HJ1.out; have := HK2.out; have := HJ7.out; have := HK4.out; have := HJ14.out; omega⟩, by repeat (first | exact Drawn0.refl _ | apply Drawn0.step)⟩
                          ·
                           rw [if_neg c24] at H
                           exact absurd H (by simp)
                         ·
                          rw [if_neg c23] at H
                          exact absurd H (by simp)
                       ·
                        rw [if_neg c21] at H
                        have c21b0 : ((rd (rd_L1 l0 x21_2) x39_4) == 1) = false := beq_eq_false_iff_ne.mpr c21
                        have c21b1 : ((rd (rd_L1 l0 x21_2) x39_4) != 1) = true := bne_iff_ne.mpr c21
                        have H' := Aside0.mk H
                        clear H
                        have p136 : 0 ≤ (x39_4 : Int) := of_decide_eq_true (by first | (with_reducible assumption) | assumption)
                        have q136 : x39_4 < (l0.length : Int) := of_decide_eq_true (by first | (with_reducible assumption) | assumption)
                        obtain ⟨ad136, A136_0, c136_0, e136, hx136_0, hl136_0, hi136_0⟩ := at_L1 HR0.out x39_4 p136 q136
                        obtain rfl : ad133 = ad136 := (by injection e136)
                        have HR136_0 := Aside0.mk hi136_0
                        have HC136_0 := Aside0.mk hl136_0
                        clear hi136_0 hl136_0
                        replace p136 := eq_true p136
                        replace q136 := eq_true q136
                        go_wp2
                        go_roundg kj14
                        case measure => have := HJ1.out; have := HK2.out; have := HJ7.out; have := HK4.out; have := HJ14.out; omega
                        case rel => exact ⟨(wrap64 (x39_4 + 1)), (by first | rfl | (simp; done) | (simp [*]; done)), H', ⟨by have := HJ1.out; have := HK2.out; have := HJ7.out; have := HK4.out; have := HJ14.out; omega⟩, by repeat (first | exact Drawn0.refl _ | apply Drawn0.step)⟩
                      ·
                       rw [if_neg c20] at H
                       have c20b0 : (((rd_L1 l0 x39_4).length : Int) == (l0.length : Int)) = false := beq_eq_false_iff_ne.mpr c20
                       have c20b1 : (((rd_L1 l0 x39_4).length : Int) != (l0.length : Int)) = true := bne_iff_ne.mpr c20
                       have c20b2 : ((rd_L1 l0 x39_4).length == l0.length) = false := by first | simpa using c20 | (simp at c20 ⊢; omega)
                       obtain rfl := Option.some.inj H
                       have p136 : 0 ≤ (x39_4 : Int) := of_decide_eq_true (by first | (with_reducible assumption) | assumption)
                       have q136 : x39_4 < (l0.length : Int) := of_decide_eq_true (by first | (with_reducible assumption) | assumption)
                       obtain ⟨ad136, A136_0, c136_0, e136, hx136_0, hl136_0, hi136_0⟩ := at_L1 HR0.out x39_4 p136 q136
                       obtain rfl : ad133 = ad136 := (by injection e136)
                       have HR136_0 := Aside0.mk hi136_0
                       have HC136_0 := Aside0.mk hl136_0
                       clear hi136_0 hl136_0
                       replace p136 := eq_true p136
                       replace q136 := eq_true q136
                       go_wp2
                       go_ret
                       exact ⟨by first | rfl | (simp; done) | (simp [*]; done), by repeat (first | exact Drawn0.refl _ | apply Drawn0.step)⟩
                     ·
                      rw [if_neg c19] at H
                      exact absurd H (by simp)
                    ·
                     rw [if_neg c18] at H
                     exact absurd H (by simp)
                ·
                 rw [if_neg c14] at H
                 exact absurd H (by simp)
               ·
                rw [if_neg c13] at H
                exact absurd H (by simp)
              ·
               rw [if_neg c12] at H
               have c12b0 : decide (x39_4 < ((rd_L1 l0 x21_2).length : Int)) = false := decide_eq_false c12
               clear c12
               have H' := Aside0.mk H
               clear H
               go_wp2
               go_roundg k4
               case measure => have := HJ1.out; have := HK2.out; have := HJ7.out; have := HK4.out; omega
               case rel => exact ⟨(wrap64 (x21_2 + 1)), (by first | rfl | (simp; done) | (simp [*]; done)), H', ⟨by have := HJ1.out; have := HK2.out; have := HJ7.out; have := HK4.out; omega⟩, by repeat (first | exact Drawn0.refl _ | apply Drawn0.step)⟩
        ·
         rw [if_neg c7] at H
         exact absurd H (by simp)
       ·
        rw [if_neg c6] at H
        exact absurd H (by simp)
      ·
       rw [if_neg c5] at H
       have c5b0 : decide (x21_2 < (l0.length : Int)) = false := decide_eq_false c5
       clear c5
       have H' := Aside0.mk H
       clear H
       go_wp2
       go_loopg [79] k2 (fun kq v79 w' => ∃ (x79_3 : Int), v79 = .int .i64 x79_3 ∧ Aside0 (impl_OrderOk.l2 kq l0 (l0.length : Int) (l0.length : Int) x79_3 = some r) ∧ Aside0 (kq ≤ k2) ∧ Drawn0 w w')
       case atStart => exact ⟨(0), (by first | rfl | (simp; done) | (simp [*]; done)), H', ⟨Nat.le_refl _⟩, by repeat (first | exact Drawn0.refl _ | apply Drawn0.step)⟩
       case round =>
        clear H'
        try clear c1
        try clear p1
        try clear q1
        try clear hx1
        try clear c2
        try clear p2
        try clear c3
        try clear c3b0
        try clear c3b1
        try clear c4
        try clear c5
        try clear c5b0
        try clear c6
        try clear c6b0
        try clear p6
        try clear c7
        try clear c7b0
        try clear c9
        try clear c9b0
        try clear c9b1
        try clear c9b2
        try clear c10
        try clear c10b0
        try clear c11
        try clear c12
        try clear c12b0
        try clear c13
        try clear c13b0
        try clear p13
        try clear q13
        try clear hx13
        try clear c14
        try clear c14b0
        try clear c16
        try clear c16b0
        try clear c16b1
        try clear c17
        try clear c18
        try clear c18b0
        try clear c19
        try clear c19b0
        try clear c20
        try clear c20b0
        try clear c20b1
        try clear c20b2
        try clear c21
        try clear c21b0
        try clear c21b1
        try clear c22
        try clear c22b0
        try clear c22b1
        try clear c23
        try clear c23b0
        try clear c24
        try clear c24b0
        try clear c25
        try clear c25b0
        try clear c25b1
        try clear hx133_0
        try clear hx134_0
        try clear hx135_0
        try clear hx136_0
        try clear hx137_0
        try clear hx138_0
        try clear p1
        try clear p13
        try clear p133
        try clear p134
        try clear p135
        try clear p136
        try clear p137
        try clear p138
        try clear p2
        try clear q1
        try clear q13
        try clear q133
        try clear q134
        try clear q135
        try clear q136
        try clear q137
        try clear q138
        obtain ⟨x79_3, rfl, HA, HK3, ⟨m3, rfl⟩⟩ := hrel
        cases gk with
        | zero => exact absurd HA.out (by simp [impl_OrderOk.l2])
        | succ k3 =>
         have H := HA.out
         clear HA
         simp only [impl_OrderOk.l2] at H
         by_cases c26 : x79_3 < (l0.length : Int)
         ·
          rw [if_pos c26] at H
          have c26b0 : decide (x79_3 < (l0.length : Int)) = true := decide_eq_true c26
          clear c26
          have H' := Aside0.mk H
          clear H
          go_wp2
          go_loopg [83] k3 (fun kq v83 w' => ∃ (x83_4 : Int), v83 = .int .i64 x83_4 ∧ Aside0 (impl_OrderOk.l3 kq l0 (l0.length : Int) x79_3 (l0.length : Int) x79_3 (l0.length : Int) x83_4 = some r) ∧ Aside0 (kq ≤ k3) ∧ Drawn0 w w')
          case atStart => exact ⟨(0), (by first | rfl | (simp; done) | (simp [*]; done)), H', ⟨Nat.le_refl _⟩, by repeat (first | exact Drawn0.refl _ | apply Drawn0.step)⟩
          case round =>
           clear H'
           try clear c1
           try clear p1
           try clear q1
           try clear hx1
           try clear c2
           try clear p2
           try clear c3
           try clear c3b0
           try clear c3b1
           try clear c4
           try clear c5
           try clear c5b0
           try clear c6
           try clear c6b0
           try clear p6
           try clear c7
           try clear c7b0
           try clear c9
           try clear c9b0
           try clear c9b1
           try clear c9b2
           try clear c10
           try clear c10b0
           try clear c11
           try clear c12
           try clear c12b0
           try clear c13
           try clear c13b0
           try clear p13
           try clear q13
           try clear hx13
           try clear c14
           try clear c14b0
           try clear c16
           try clear c16b0
           try clear c16b1
           try clear c17
           try clear c18
           try clear c18b0
           try clear c19
           try clear c19b0
           try clear c20
           try clear c20b0
           try clear c20b1
           try clear c20b2
           try clear c21
           try clear c21b0
           try clear c21b1
           try clear c22
           try clear c22b0
           try clear c22b1
           try clear c23
           try clear c23b0
           try clear c24
           try clear c24b0
           try clear c25
           try clear c25b0
           try clear c25b1
           try clear c26
           try clear c26b0
           try clear hx133_0
           try clear hx134_0
           try clear hx135_0
           try clear hx136_0
           try clear hx137_0
           try clear hx138_0
           try clear p1
           try clear p13
           try clear p133
           try clear p134
           try clear p135
           try clear p136
           try clear p137
           try clear p138
           try clear p2
           try clear p6
           try clear q1
           try clear q13
           try clear q133
           try clear q134
           try clear q135
           try clear q136
           try clear q137
           try clear q138
           obtain ⟨x83_4, rfl, HA, HK4, ⟨m4, rfl⟩⟩ := hrel
           cases gk with
           | zero => exact absurd HA.out (by simp [impl_OrderOk.l3])
           | succ k4 =>
            have H := HA.out
            clear HA
            simp only [impl_OrderOk.l3] at H
            by_cases c27 : x83_4 < (l0.length : Int)
            ·
             rw [if_pos c27] at H
             have c27b0 : decide (x83_4 < (l0.length : Int)) = true := decide_eq_true c27
             clear c27
             have H' := Aside0.mk H
             clear H
             go_wp2
             go_loopg [87] k4 (fun kq v87 w' => ∃ (x87_5 : Int), v87 = .int .i64 x87_5 ∧ Aside0 (impl_OrderOk.l4 kq l0 (l0.length : Int) x79_3 x83_4 (l0.length : Int) x79_3 (l0.length : Int) x83_4 (l0.length : Int) x87_5 = some r) ∧ Aside0 (kq ≤ k4) ∧ Drawn0 w w')
             case atStart => exact ⟨(0), (by first | rfl | (simp; done) | (simp [*]; done)), H', ⟨Nat.le_refl _⟩, by repeat (first | exact Drawn0.refl _ | apply Drawn0.step)⟩
             case round =>
              clear H'
              try clear c1
              try clear p1
              try clear q1
              try clear hx1
              try clear c2
              try clear p2
              try clear c3
              try clear c3b0
              try clear c3b1
              try clear c4
              try clear c5
              try clear c5b0
              try clear c6
              try clear c6b0
              try clear p6
              try clear c7
              try clear c7b0
              try clear c9
              try clear c9b0
              try clear c9b1
              try clear c9b2
              try clear c10
              try clear c10b0
              try clear c11
              try clear c12
              try clear c12b0
              try clear c13
              try clear c13b0
              try clear p13
              try clear q13
              try clear hx13
              try clear c14
              try clear c14b0
              try clear c16
              try clear c16b0
              try clear c16b1
              try clear c17
              try clear c18
              try clear c18b0
              try clear c19
              try clear c19b0
              try clear c20
              try clear c20b0
              try clear c20b1
              try clear c20b2
              try clear c21
              try clear c21b0
              try clear c21b1
              try clear c22
              try clear c22b0
              try clear c22b1
              try clear c23
              try clear c23b0
              try clear c24
              try clear c24b0
              try clear c25
              try clear c25b0
              try clear c25b1
              try clear c26
              try clear c26b0
              try clear c27
              try clear c27b0
              try clear hx133_0
              try clear hx134_0
              try clear hx135_0
              try clear hx136_0
              try clear hx137_0
              try clear hx138_0
              try clear p1
              try clear p13
              try clear p133
              try clear p134
              try clear p135
              try clear p136
              try clear p137
              try clear p138
              try clear p2
              try clear p6
              try clear q1
              try clear q13
              try clear q133
              try clear q134
              try clear q135
              try clear q136
              try clear q137
              try clear q138
              obtain ⟨x87_5, rfl, HA, HK5, ⟨m5, rfl⟩⟩ := hrel
              cases gk with
              | zero => exact absurd HA.out (by simp [impl_OrderOk.l4])
              | succ k5 =>
               have H := HA.out
               clear HA
               simp only [impl_OrderOk.l4] at H
               by_cases c28 : x87_5 < (l0.length : Int)
               ·
                rw [if_pos c28] at H
                have c28b0 : decide (x87_5 < (l0.length : Int)) = true := decide_eq_true c28
                clear c28
                by_cases c29 : 0 ≤ x79_3
                ·
                 rw [if_pos c29] at H
                 have c29b0 : decide (0 ≤ x79_3) = true := decide_eq_true c29
                 clear c29
                 by_cases c30 : x79_3 < (l0.length : Int)
                 ·
                  rw [if_pos c30] at H
                  have c30b0 : decide (x79_3 < (l0.length : Int)) = true := decide_eq_true c30
                  clear c30
                  by_cases c31 : 0 ≤ x83_4
                  ·
                   rw [if_pos c31] at H
                   have c31b0 : decide (0 ≤ x83_4) = true := decide_eq_true c31
                   clear c31
                   by_cases c32 : x83_4 < ((rd_L1 l0 x79_3).length : Int)
                   ·
                    rw [if_pos c32] at H
                    have c32b0 : decide (x83_4 < ((rd_L1 l0 x79_3).length : Int)) = true := decide_eq_true c32
                    clear c32
                    by_cases c33 : (rd (rd_L1 l0 x79_3) x83_4) = 1
                    ·
                     rw [if_pos c33] at H
                     have c33b0 : ((rd (rd_L1 l0 x79_3) x83_4) == 1) = true := beq_iff_eq.mpr c33
                     have c33b1 : ((rd (rd_L1 l0 x79_3) x83_4) != 1) = false := bne_eq_false_iff_eq.mpr c33
                     clear c33
                     by_cases c34 : x83_4 < (l0.length : Int)
                     ·
                      rw [if_pos c34] at H
                      have c34b0 : decide (x83_4 < (l0.length : Int)) = true := decide_eq_true c34
                      clear c34
                      by_cases c35 : 0 ≤ x87_5
                      ·
                       rw [if_pos c35] at H
                       have c35b0 : decide (0 ≤ x87_5) = true := decide_eq_true c35
                       clear c35
                       by_cases c36 : x87_5 < ((rd_L1 l0 x83_4).length : Int)
                       ·
                        rw [if_pos c36] at H
                        have c36b0 : decide (x87_5 < ((rd_L1 l0 x83_4).length : Int)) = true := decide_eq_true c36
                        clear c36
                        by_cases c37 : (rd (rd_L1 l0 x83_4) x87_5) = 1
                        ·
                         rw [if_pos c37] at H
                         have c37b0 : ((rd (rd_L1 l0 x83_4) x87_5) == 1) = true := beq_iff_eq.mpr c37
                         have c37b1 : ((rd (rd_L1 l0 x83_4) x87_5) != 1) = false := bne_eq_false_iff_eq.mpr c37
                         clear c37
                         by_cases c38 : x87_5 < ((rd_L1 l0 x79_3).length : Int)
                         ·
                          rw [if_pos c38] at H
                          have c38b0 : decide (x87_5 < ((rd_L1 l0 x79_3).length : Int)) = true := decide_eq_true c38
                          clear c38
                          by_cases c39 : (rd (rd_L1 l0 x79_3) x87_5) = 1
                          ·
                           rw [if_pos c39] at H
                           have c39b0 : ((rd (rd_L1 l0 x79_3) x87_5) == 1) = true := beq_iff_eq.mpr c39
                           have c39b1 : ((rd (rd_L1 l0 x79_3) x87_5) != 1) = false := bne_eq_false_iff_eq.mpr c39
                           clear c39
                           have H' := Aside0.mk H
                           clear H
                           have p139 : 0 ≤ (x79_3 : Int) := of_decide_eq_true (by first | (with_reducible assumption) | assumption)
                           have q139 : x79_3 < (l0.length : Int) := of_decide_eq_true (by first | (with_reducible assumption) | assumption)
                           obtain ⟨ad139, A139_0, c139_0, e139, hx139_0, hl139_0, hi139_0⟩ := at_L1 HR0.out x79_3 p139 q139
                           cases e139
                           have HR139_0 := Aside0.mk hi139_0
                           have HC139_0 := Aside0.mk hl139_0
                           clear hi139_0 hl139_0
                           replace p139 := eq_true p139
                           replace q139 := eq_true q139
                           have p140 : 0 ≤ (x83_4 : Int) := of_decide_eq_true (by first | (with_reducible assumption) | assumption)
                           have q140 : x83_4 < ((rd_L1 l0 x79_3).length : Int) := of_decide_eq_true (by first | (with_reducible assumption) | assumption)
                           obtain ⟨ad140, e140, hx140_0⟩ := Kd.at_int HR139_0.out x83_4 p140 q140
                           cases e140
                           replace p140 := eq_true p140
                           replace q140 := eq_true q140
                           have p141 : 0 ≤ (x83_4 : Int) := of_decide_eq_true (by first | (with_reducible assumption) | assumption)
                           have q141 : x83_4 < (l0.length : Int) := of_decide_eq_true (by first | (with_reducible assumption) | assumption)
                           obtain ⟨ad141, A141_0, c141_0, e141, hx141_0, hl141_0, hi141_0⟩ := at_L1 HR0.out x83_4 p141 q141
                           obtain rfl : ad139 = ad141 := (by injection e141)
                           have HR141_0 := Aside0.mk hi141_0
                           have HC141_0 := Aside0.mk hl141_0
                           clear hi141_0 hl141_0
                           replace p141 := eq_true p141
                           replace q141 := eq_true q141
                           have p142 : 0 ≤ (x87_5 : Int) := of_decide_eq_true (by first | (with_reducible assumption) | assumption)
                           have q142 : x87_5 < ((rd_L1 l0 x83_4).length : Int) := of_decide_eq_true (by first | (with_reducible assumption) | assumption)
                           obtain ⟨ad142, e142, hx142_0⟩ := Kd.at_int HR141_0.out x87_5 p142 q142
                           cases e142
                           replace p142 := eq_true p142
                           replace q142 := eq_true q142
                           have p143 : 0 ≤ (x79_3 : Int) := of_decide_eq_true (by first | (with_reducible assumption) | assumption)
                           have q143 : x79_3 < (l0.length : Int) := of_decide_eq_true (by first | (with_reducible assumption) | assumption)
                           obtain ⟨ad143, A143_0, c143_0, e143, hx143_0, hl143_0, hi143_0⟩ := at_L1 HR0.out x79_3 p143 q143
                           obtain rfl : ad139 = ad143 := (by injection e143)
                           have HR143_0 := Aside0.mk hi143_0
                           have HC143_0 := Aside0.mk hl143_0
                           clear hi143_0 hl143_0
                           replace p143 := eq_true p143
                           replace q143 := eq_true q143
                           have ea_ := Option.some.inj (hx139_0.symm.trans hx143_0)
                           injection ea_ with ea_ en_ ec_
                           subst ea_
                           subst ec_
                           clear en_
                           have p144 : 0 ≤ (x87_5 : Int) := of_decide_eq_true (by first | (with_reducible assumption) | assumption)
                           have q144 : x87_5 < ((rd_L1 l0 x79_3).length : Int) := of_decide_eq_true (by first | (with_reducible assumption) | assumption)
                           obtain ⟨ad144, e144, hx144_0⟩ := Kd.at_int HR143_0.out x87_5 p144 q144
                           cases e144
                           replace p144 := eq_true p144
                           replace q144 := eq_true q144
                           go_wp2
                           go_roundg k5
                           case measure => have := HJ1.out; have := HK2.out; have := HK3.out; have := HK4.out; have := HK5.out; omega
                           case rel => exact ⟨(wrap64 (x87_5 + 1)), (by first | rfl | (simp; done) | (simp [*]; done)), H', ⟨by have := HJ1.out; have := HK2.out; have := HK3.out; have := HK4.out; have := HK5.out; omega⟩, by repeat (first | exact Drawn0.refl _ | apply Drawn0.step)⟩
                          ·
                           rw [if_neg c39] at H
                           have c39b0 : ((rd (rd_L1 l0 x79_3) x87_5) == 1) = false := beq_eq_false_iff_ne.mpr c39
                           have c39b1 : ((rd (rd_L1 l0 x79_3) x87_5) != 1) = true := bne_iff_ne.mpr c39
                           obtain rfl := Option.some.inj H
                           have p139 : 0 ≤ (x79_3 : Int) := of_decide_eq_true (by first | (with_reducible assumption) | assumption)
                           have q139 : x79_3 < (l0.length : Int) := of_decide_eq_true (by first | (with_reducible assumption) | assumption)
                           obtain ⟨ad139, A139_0, c139_0, e139, hx139_0, hl139_0, hi139_0⟩ := at_L1 HR0.out x79_3 p139 q139
                           cases e139
                           have HR139_0 := Aside0.mk hi139_0
                           have HC139_0 := Aside0.mk hl139_0
                           clear hi139_0 hl139_0
                           replace p139 := eq_true p139
                           replace q139 := eq_true q139
                           have p140 : 0 ≤ (x83_4 : Int) := of_decide_eq_true (by first | (with_reducible assumption) | assumption)
                           have q140 : x83_4 < ((rd_L1 l0 x79_3).length : Int) := of_decide_eq_true (by first | (with_reducible assumption) | assumption)
                           obtain ⟨ad140, e140, hx140_0⟩ := Kd.at_int HR139_0.out x83_4 p140 q140
                           cases e140
                           replace p140 := eq_true p140
                           replace q140 := eq_true q140
                           have p141 : 0 ≤ (x83_4 : Int) := of_decide_eq_true (by first | (with_reducible assumption) | assumption)
                           have q141 : x83_4 < (l0.length : Int) := of_decide_eq_true (by first | (with_reducible assumption) | assumption)
                           obtain ⟨ad141, A141_0, c141_0, e141, hx141_0, hl141_0, hi141_0⟩ := at_L1 HR0.out x83_4 p141 q141
                           obtain rfl : ad139 = ad141 := (by injection e141)
                           have HR141_0 := Aside0.mk hi141_0
                           have HC141_0 := Aside0.mk hl141_0
                           clear hi141_0 hl141_0
                           replace p141 := eq_true p141
                           replace q141 := eq_true q141
                           have p142 : 0 ≤ (x87_5 : Int) := of_decide_eq_true (by first | (with_reducible assumption) | assumption)
                           have q142 : x87_5 < ((rd_L1 l0 x83_4).length : Int) := of_decide_eq_true (by first | (with_reducible assumption) | assumption)
                           obtain ⟨ad142, e142, hx142_0⟩ := Kd.at_int HR141_0.out x87_5 p142 q142
                           cases e142
                           replace p142 := eq_true p142
                           replace q142 := eq_true q142
                           have p143 : 0 ≤ (x79_3 : Int) := of_decide_eq_true (by first | (with_reducible assumption) | assumption)
                           have q143 : x79_3 < (l0.length : Int) := of_decide_eq_true (by first | (with_reducible assumption) | assumption)
                           obtain ⟨ad143, A143_0, c143_0, e143, hx143_0, hl143_0, hi143_0⟩ := at_L1 HR0.out x79_3 p143 q143
                           obtain rfl : ad139 = ad143 := (by injection e143)
                           have HR143_0 := Aside0.mk hi143_0
                           have HC143_0 := Aside0.mk hl143_0
                           clear hi143_0 hl143_0
                           replace p143 := eq_true p143
                           replace q143 := eq_true q143
                           have ea_ := Option.some.inj (hx139_0.symm.trans hx143_0)
                           injection ea_ with ea_ en_ ec_
                           subst ea_
                           subst ec_
                           clear en_
                           have p144 : 0 ≤ (x87_5 : Int) := of_decide_eq_true (by first | (with_reducible assumption) | assumption)
                           have q144 : x87_5 < ((rd_L1 l0 x79_3).length : Int) := of_decide_eq_true (by first | (with_reducible assumption) | assumption)
                           obtain ⟨ad144, e144, hx144_0⟩ := Kd.at_int HR143_0.out x87_5 p144 q144
                           cases e144
                           replace p144 := eq_true p144
                           replace q144 := eq_true q144
                           go_wp2
                           go_ret
                           exact ⟨by first | rfl | (simp; done) | (simp [*]; done), by repeat (first | exact Drawn0.refl _ | apply Drawn0.step)⟩
                         ·
                          rw [if_neg c38] at H
                          exact absurd H (by simp)
                        ·
                         rw [if_neg c37] at H
                         have c37b0 : ((rd (rd_L1 l0 x83_4) x87_5) == 1) = false := beq_eq_false_iff_ne.mpr c37
                         have c37b1 : ((rd (rd_L1 l0 x83_4) x87_5) != 1) = true := bne_iff_ne.mpr c37
                         have H' := Aside0.mk H
                         clear H
                         have p139 : 0 ≤ (x79_3 : Int) := of_decide_eq_true (by first | (with_reducible assumption) | assumption)
                         have q139 : x79_3 < (l0.length : Int) := of_decide_eq_true (by first | (with_reducible assumption) | assumption)
                         obtain ⟨ad139, A139_0, c139_0, e139, hx139_0, hl139_0, hi139_0⟩ := at_L1 HR0.out x79_3 p139 q139
                         cases e139
                         have HR139_0 := Aside0.mk hi139_0
                         have HC139_0 := Aside0.mk hl139_0
                         clear hi139_0 hl139_0
                         replace p139 := eq_true p139
                         replace q139 := eq_true q139
                         have p140 : 0 ≤ (x83_4 : Int) := of_decide_eq_true (by first | (with_reducible assumption) | assumption)
                         have q140 : x83_4 < ((rd_L1 l0 x79_3).length : Int) := of_decide_eq_true (by first | (with_reducible assumption) | assumption)
                         obtain ⟨ad140, e140, hx140_0⟩ := Kd.at_int HR139_0.out x83_4 p140 q140
                         cases e140
                         replace p140 := eq_true p140
                         replace q140 := eq_true q140
                         have p141 : 0 ≤ (x83_4 : Int) := of_decide_eq_true (by first | (with_reducible assumption) | assumption)
                         have q141 : x83_4 < (l0.length : Int) := of_decide_eq_true (by first | (with_reducible assumption) | assumption)
                         obtain ⟨ad141, A141_0, c141_0, e141, hx141_0, hl141_0, hi141_0⟩ := at_L1 HR0.out x83_4 p141 q141
                         obtain rfl : ad139 = ad141 := (by injection e141)
                         have HR141_0 := Aside0.mk hi141_0
                         have HC141_0 := Aside0.mk hl141_0
                         clear hi141_0 hl141_0
                         replace p141 := eq_true p141
                         replace q141 := eq_true q141
                         have p142 : 0 ≤ (x87_5 : Int) := of_decide_eq_true (by first | (with_reducible assumption) | assumption)
                         have q142 : x87_5 < ((rd_L1 l0 x83_4).length : Int) := of_decide_eq_true (by first | (with_reducible assumption) | assumption)
                         obtain ⟨ad142, e142, hx142_0⟩ := Kd.at_int HR141_0.out x87_5 p142 q142
                         cases e142
                         replace p142 := eq_true p142
                         replace q142 := eq_true q142
                         go_wp2
                         go_roundg k5
                         case measure => have := HJ1.out; have := HK2.out; have := HK3.out; have := HK4.out; have := HK5.out; omega
                         case rel => exact ⟨(wrap64 (x87_5 + 1)), (by first | rfl | (simp; done) | (simp [*]; done)), H', ⟨by have := HJ1.out; have := HK2.out; have := HK3.out; have := HK4.out; have := HK5.out; omega⟩, by repeat (first | exact Drawn0.refl _ | apply Drawn0.step)⟩
                       ·
                        rw [if_neg c36] at H
                        exact absurd H (by simp)
                      ·
                       rw [if_neg c35] at H
                       exact absurd H (by simp)
                     ·
                      rw [if_neg c34] at H
                      exact absurd H (by simp)
                    ·
                     rw [if_neg c33] at H
                     have c33b0 : ((rd (rd_L1 l0 x79_3) x83_4) == 1) = false := beq_eq_false_iff_ne.mpr c33
                     have c33b1 : ((rd (rd_L1 l0 x79_3) x83_4) != 1) = true := bne_iff_ne.mpr c33
                     have H' := Aside0.mk H
                     clear H
                     have p139 : 0 ≤ (x79_3 : Int) := of_decide_eq_true (by first | (with_reducible assumption) | assumption)
                     have q139 : x79_3 < (l0.length : Int) := of_decide_eq_true (by first | (with_reducible assumption) | assumption)
                     obtain ⟨ad139, A139_0, c139_0, e139, hx139_0, hl139_0, hi139_0⟩ := at_L1 HR0.out x79_3 p139 q139
                     cases e139
                     have HR139_0 := Aside0.mk hi139_0
                     have HC139_0 := Aside0.mk hl139_0
                     clear hi139_0 hl139_0
                     replace p139 := eq_true p139
                     replace q139 := eq_true q139
                     have p140 : 0 ≤ (x83_4 : Int) := of_decide_eq_true (by first | (with_reducible assumption) | assumption)
                     have q140 : x83_4 < ((rd_L1 l0 x79_3).length : Int) := of_decide_eq_true (by first | (with_reducible assumption) | assumption)
                     obtain ⟨ad140, e140, hx140_0⟩ := Kd.at_int HR139_0.out x83_4 p140 q140
                     cases e140
                     replace p140 := eq_true p140
                     replace q140 := eq_true q140
                     go_wp2
                     go_roundg k5
                     case measure => have := HJ1.out; have := HK2.out; have := HK3.out; have := HK4.out; have := HK5.out; omega
                     case rel => exact ⟨(wrap64 (x87_5 + 1)), (by first | rfl | (simp; done) | (simp [*]; done)), H', ⟨by have := HJ1.out; have := HK2.out; have := HK3.out; have := HK4.out; have := HK5.out; omega⟩, by repeat (first | exact Drawn0.refl _ | apply Drawn0.step)⟩
                   ·
                    rw [if_neg c32] at H
                    exact absurd H (by simp)
                  ·
                   rw [if_neg c31] at H
                   exact absurd H (by simp)
                 ·
                  rw [if_neg c30] at H
                  exact absurd H (by simp)
                ·
                 rw [if_neg c29] at H
                 exact absurd H (by simp)
               ·
                rw [if_neg c28] at H
                have c28b0 : decide (x87_5 < (l0.length : Int)) = false := decide_eq_false c28
                clear c28
                have H' := Aside0.mk H
                clear H
                go_wp2
                go_roundg k5
                case measure => have := HJ1.out; have := HK2.out; have := HK3.out; have := HK4.out; have := HK5.out; omega
                case rel => exact ⟨(wrap64 (x83_4 + 1)), (by first | rfl | (simp; done) | (simp [*]; done)), H', ⟨by have := HJ1.out; have := HK2.out; have := HK3.out; have := HK4.out; have := HK5.out; omega⟩, by repeat (first | exact Drawn0.refl _ | apply Drawn0.step)⟩
            ·
             rw [if_neg c27] at H
             have c27b0 : decide (x83_4 < (l0.length : Int)) = false := decide_eq_false c27
             clear c27
             have H' := Aside0.mk H
             clear H
             go_wp2
             go_roundg k4
             case measure => have := HJ1.out; have := HK2.out; have := HK3.out; have := HK4.out; omega
             case rel => exact ⟨(wrap64 (x79_3 + 1)), (by first | rfl | (simp; done) | (simp [*]; done)), H', ⟨by have := HJ1.out; have := HK2.out; have := HK3.out; have := HK4.out; omega⟩, by repeat (first | exact Drawn0.refl _ | apply Drawn0.step)⟩
         ·
          rw [if_neg c26] at H
          have c26b0 : decide (x79_3 < (l0.length : Int)) = false := decide_eq_false c26
          clear c26
          obtain rfl := Option.some.inj H
          go_wp2
          go_ret
          exact ⟨by first | rfl | (simp; done) | (simp [*]; done), by repeat (first | exact Drawn0.refl _ | apply Drawn0.step)⟩

end Go.Proofs.Ytilgbnbeonlbnaa.P
