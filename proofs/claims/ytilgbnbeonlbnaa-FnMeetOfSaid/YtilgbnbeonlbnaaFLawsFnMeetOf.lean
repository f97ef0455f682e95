-- written by gen.py (a program of this session) out of the kit's print of this seat's translation
import Derived.Test.YtilgbnbeonlbnaaI
import Derived.Test.YtilgbnbeonlbnaaD
import Derived.Test.YtilgbnbeonlbnaaFImplMeetOf
import Derived.Test.YtilgbnbeonlbnaaFLawsAlive
import Derived.Test.YtilgbnbeonlbnaaFSpecDrawMeetOf
import Derived.Test.YtilgbnbeonlbnaaFSpecMeetOf
namespace Go.Proofs.Ytilgbnbeonlbnaa.P
open Go.RowKit Go.Proofs.YtilgbnbeonlbnaaW.PrintWords Go.Proofs.YtilgbnbeonlbnaaW.PrintLast Go.Proofs.YtilgbnbeonlbnaaW.PrintMore
attribute [local go_sem] max2_int min2_int max_two min_two max_three min_three max_four min_four
set_option linter.unusedVariables false
set_option linter.unusedSimpArgs false
set_option maxHeartbeats 8000000 in
set_option maxRecDepth 100000 in
theorem laws_FnMeetOf.calls (k : Nat) (A0 : Option Addr) (c0 : Nat) (l0 : List Int) (r : Bool) (w : World) (hr0 : Kd.C (Kd.int .u8) w A0 l0.length l0) (hc0 : l0.length ≤ c0) (h : laws_FnMeetOf.f k l0 = some r) :
  Calls Try.prog 11 #[.slice A0 l0.length c0] w fun e w' => e = .returned (.bool r) ∧ Below w.heap.size w w' := by
 have HR0 := Aside0.mk hr0
 have HC0 := Aside0.mk hc0
 clear hr0 hc0
 have HB := Aside0.mk (Below.refl w.heap.size w)
 have H : (if (l0.length : Int) > 1048576 then (some true) else ((spec_DrawMeetOf.f k l0).bind fun bt492 => ((impl_MeetOf.f k bt492.1 bt492.2.1 bt492.2.2).bind fun bt497 => ((spec_MeetOf.f k bt492.1 bt492.2.1 bt492.2.2).bind fun bt499 => (if bt497.1 = bt499.1 then (laws_FnMeetOf.j0 k bt492.1 bt492.2.1 bt492.2.2 bt497.1 bt497.2 (bt497.2 != bt499.2)) else (laws_FnMeetOf.j0 k bt492.1 bt492.2.1 bt492.2.2 bt497.1 bt497.2 true)))))) = some r := h
 clear h
 by_cases c2 : (l0.length : Int) > 1048576
 ·
  rw [if_pos c2] at H
  have c2b0 : decide (1048576 < (l0.length : Int)) = true := decide_eq_true c2
  have c2b1 : decide (1048576 < l0.length) = true := decide_eq_true (by omega)
  clear c2
  obtain rfl := Option.some.inj H
  go_enter Try.func11, Try.ntmps11
  go_wp2
  go_ret
  exact ⟨by first | rfl | (simp [errW_none, errW_some] <;> rfl) | (simp [*, errW_none, errW_some] <;> rfl), by repeat (first | (with_reducible first | exact HB.out | apply below_alloc | apply pw_below_drewN | apply below_drew1) | exact HB.out)⟩
 ·
  rw [if_neg c2] at H
  have c2b0 : decide (1048576 < (l0.length : Int)) = false := decide_eq_false c2
  have c2b1 : decide (1048576 < l0.length) = false := decide_eq_false (by omega)
  clear c2
  replace H := Option.bind_eq_some_iff.mp H
  obtain ⟨⟨t492, t493, t494⟩, A30, H⟩ := H
  replace H : ((impl_MeetOf.f k t492 t493 t494).bind fun bt497 => ((spec_MeetOf.f k t492 t493 t494).bind fun bt499 => (if bt497.1 = bt499.1 then (laws_FnMeetOf.j0 k t492 t493 t494 bt497.1 bt497.2 (bt497.2 != bt499.2)) else (laws_FnMeetOf.j0 k t492 t493 t494 bt497.1 bt497.2 true)))) = some r := H
  have A3 := Aside0.mk A30
  clear A30
  replace H := Option.bind_eq_some_iff.mp H
  obtain ⟨⟨t497, t498⟩, A40, H⟩ := H
  replace H : ((spec_MeetOf.f k t492 t493 t494).bind fun bt499 => (if t497 = bt499.1 then (laws_FnMeetOf.j0 k t492 t493 t494 t497 t498 (t498 != bt499.2)) else (laws_FnMeetOf.j0 k t492 t493 t494 t497 t498 true))) = some r := H
  have A4 := Aside0.mk A40
  clear A40
  replace H := Option.bind_eq_some_iff.mp H
  obtain ⟨⟨t499, t500⟩, A50, H⟩ := H
  replace H : (if t497 = t499 then (laws_FnMeetOf.j0 k t492 t493 t494 t497 t498 (t498 != t500)) else (laws_FnMeetOf.j0 k t492 t493 t494 t497 t498 true)) = some r := H
  have A5 := Aside0.mk A50
  clear A50
  have HC6 := Aside0.mk H
  clear H
  go_enter Try.func11, Try.ntmps11
  go_upto_region 6 with (first | ((with_reducible refine gate_callee (f := 37) rfl ?_); refine goesL_ (some 20) rfl rfl Try.func37 (by kernel_rfl) rfl #[.slice A0 l0.length c0] rfl (by (try simp only [List.map_toArray, List.map_cons, List.map_nil]); first | done | rfl | (simp only [List.length_drop, List.length_take]; rfl)) ?_; (with_reducible refine (spec_DrawMeetOf.calls k _ _ l0 t492 t493 t494 _ ?side1 ?side2 A3.out).mono ?_); (case side1 => repeat (first | exact HR0.out | (with_reducible refine Kd.C_alloc ?_ _) | (with_reducible refine Kd.C_drewN ?_ _) | (with_reducible refine Kd.C_drew ?_))); (case side2 => exact HC0.out); rintro e w7 ⟨v495, rfl, ho0, hb⟩; refine ⟨_, rfl, ?_⟩; have n0_ := Aside0.mk (Kd.S_lower ho0 (below_size (by repeat (first | (with_reducible first | exact HB.out | apply below_alloc | apply pw_below_drewN | apply below_drew1) | exact HB.out)))); have n1_ := Aside0.mk (below_step (by repeat (first | (with_reducible first | exact HB.out | apply below_alloc | apply pw_below_drewN | apply below_drew1) | exact HB.out)) hb); clear HB; have HO496 := n0_; have HB := n1_; clear n0_ n1_; (try clear hb); (try clear hb2); (try clear hk); (try clear hi); (try clear ho0); obtain ⟨Ao8, co8, eo8⟩ := Kd.S_slice HO496.out; subst eo8) | ((with_reducible refine gate_callee (f := 29) rfl ?_); refine goesL_ (some 28) rfl rfl Try.func29 (by kernel_rfl) rfl #[.slice Ao8 t492.length co8, .int .i64 t493, .int .i64 t494] rfl (by (try simp only [List.map_toArray, List.map_cons, List.map_nil]); first | done | rfl | (simp only [List.length_drop, List.length_take]; rfl)) ?_; (with_reducible refine (impl_MeetOf.calls k _ _ t492 t493 t494 t497 t498 _ ?side1 ?side2 A4.out).mono ?_); (case side1 => repeat (first | exact (Kd.S_reads' HO496.out).2.2 | (with_reducible refine Kd.C_alloc ?_ _) | (with_reducible refine Kd.C_drewN ?_ _) | (with_reducible refine Kd.C_drew ?_))); (case side2 => exact (Kd.S_reads' HO496.out).2.1); rintro e w' ⟨rfl, ⟨nd, rfl⟩⟩; refine ⟨_, rfl, ?_⟩) | ((with_reducible refine gate_callee (f := 28) rfl ?_); refine goesL_ (some 35) rfl rfl Try.func28 (by kernel_rfl) rfl #[.slice Ao8 t492.length co8, .int .i64 t493, .int .i64 t494] rfl (by (try simp only [List.map_toArray, List.map_cons, List.map_nil]); first | done | rfl | (simp only [List.length_drop, List.length_take]; rfl)) ?_; (with_reducible refine (spec_MeetOf.calls k _ _ t492 t493 t494 t499 t500 _ ?side1 ?side2 A5.out).mono ?_); (case side1 => repeat (first | exact (Kd.S_reads' HO496.out).2.2 | (with_reducible refine Kd.C_alloc ?_ _) | (with_reducible refine Kd.C_drewN ?_ _) | (with_reducible refine Kd.C_drew ?_))); (case side2 => exact (Kd.S_reads' HO496.out).2.1); rintro e w' ⟨rfl, ⟨nd, rfl⟩⟩; refine ⟨_, rfl, ?_⟩))
  (try simp only [Act.put, List.setIfInBounds_toArray, List.set_cons_zero, List.set_cons_succ])
  go_cut [45] (fun v45 wc => ∃ (kq : Nat) (x45_5 : Bool), v45 = .bool x45_5 ∧ Aside0 (laws_FnMeetOf.j0 kq t492 t493 t494 t497 t498 x45_5 = some r) ∧ Aside0 (kq ≤ k) ∧ Aside0 (Kd.S (Kd.slice 3 (Kd.int .i64)) 32 wc w.heap.size (fun _ => True) (.slice Ao8 t492.length co8) t492) ∧ Aside0 (Below w.heap.size w wc))
  case first =>
   have H := HC6.out
   clear HC6
   by_cases c9 : t497 = t499
   ·
    rw [if_pos c9] at H
    have c9b0 : (t497 == t499) = true := beq_iff_eq.mpr c9
    have c9b1 : (t497 != t499) = false := bne_eq_false_iff_eq.mpr c9
    clear c9
    (first | rw [c9b0] | (simp only [i64_w, i32_w]; rw [c9b0]) | skip)
    have H' := Aside0.mk H
    clear H
    go_wp2
    go_meet
    case rel => exact ⟨_, ((t498 != t500)), (by first | rfl | (simp; done) | (simp [*]; done)), H', ⟨by first | omega | exact Nat.le_refl _⟩, ⟨by (with_reducible repeat (first | apply Kd.S_alloc | apply Kd.S_drewN | apply Kd.S_drew)); exact HO496.out⟩, ⟨by repeat (first | (with_reducible first | exact HB.out | apply below_alloc | apply pw_below_drewN | apply below_drew1) | exact HB.out)⟩⟩
   ·
    rw [if_neg c9] at H
    have c9b0 : (t497 == t499) = false := beq_eq_false_iff_ne.mpr c9
    have c9b1 : (t497 != t499) = true := bne_iff_ne.mpr c9
    (first | rw [c9b0] | (simp only [i64_w, i32_w]; rw [c9b0]) | skip)
    have H' := Aside0.mk H
    clear H
    go_wp2
    go_meet
    case rel => exact ⟨_, (true), (by first | rfl | (simp; done) | (simp [*]; done)), H', ⟨by first | omega | exact Nat.le_refl _⟩, ⟨by (with_reducible repeat (first | apply Kd.S_alloc | apply Kd.S_drewN | apply Kd.S_drew)); exact HO496.out⟩, ⟨by repeat (first | (with_reducible first | exact HB.out | apply below_alloc | apply pw_below_drewN | apply below_drew1) | exact HB.out)⟩⟩
  case rest =>
   clear HC6
   try clear c1
   try clear c2
   try clear c2b0
   try clear c2b1
   try clear p2
   try clear c3
   try clear c9
   try clear c9b0
   try clear c9b1
   obtain ⟨kq, x45_5, rfl, HA, HJ5, HO_3, HB⟩ := hcut
   cases kq with
   | zero => exact absurd HA.out (by simp [laws_FnMeetOf.j0])
   | succ kj5 =>
    have H := HA.out
    clear HA
    simp only [laws_FnMeetOf.j0] at H
    by_cases c10 : x45_5 = true
    ·
     subst c10
     have H1 : (some false) = some r := by rw [if_pos rfl] at H; exact H
     clear H
     have H := H1
     clear H1
     obtain rfl := Option.some.inj H
     go_wp2
     go_ret
     exact ⟨by first | rfl | (simp [errW_none, errW_some] <;> rfl) | (simp [*, errW_none, errW_some] <;> rfl), by repeat (first | (with_reducible first | exact HB.out | apply below_alloc | apply pw_below_drewN | apply below_drew1) | exact HB.out)⟩
    ·
     replace c10 := Bool.eq_false_iff.mpr c10
     subst c10
     have H1 : (if t498 = true then (laws_FnMeetOf.l0 kj5 t492 t493 t494 t497 0) else (if t497 = (-1) then ((laws_alive.f kj5).bind fun t501 => (some t501)) else (some false))) = some r := by rw [if_neg (show ¬ (false = true) by decide)] at H; exact H
     clear H
     have H := H1
     clear H1
     by_cases c11 : t498 = true
     ·
      subst c11
      have H1 : (laws_FnMeetOf.l0 kj5 t492 t493 t494 t497 0) = some r := by rw [if_pos rfl] at H; exact H
      clear H
      have H := H1
      clear H1
      have H' := Aside0.mk H
      clear H
      go_wp2
      go_loopg [10] kj5 (fun kq v10 w' => ∃ (x10_2 : Int), v10 = .int .i64 x10_2 ∧ Aside0 (laws_FnMeetOf.l0 kq t492 t493 t494 t497 x10_2 = some r) ∧ Aside0 (kq ≤ kj5) ∧ Aside0 (Kd.S (Kd.slice 3 (Kd.int .i64)) 32 w' w.heap.size (fun _ => True) (.slice Ao8 t492.length co8) t492) ∧ Aside0 (Below w.heap.size w w'))
      case atStart => exact ⟨(0), (by first | rfl | (simp; done) | (simp [*]; done)), H', ⟨Nat.le_refl _⟩, ⟨by (with_reducible repeat (first | apply Kd.S_alloc | apply Kd.S_drewN | apply Kd.S_drew)); exact HO_3.out⟩, ⟨by repeat (first | (with_reducible first | exact HB.out | apply below_alloc | apply pw_below_drewN | apply below_drew1) | exact HB.out)⟩⟩
      case round =>
       clear H'
       try clear c1
       try clear c2
       try clear c2b0
       try clear c2b1
       try clear p2
       try clear c3
       try clear c9
       try clear c9b0
       try clear c9b1
       try clear c10
       try clear c11
       try clear p2
       obtain ⟨x10_2, rfl, HA, HK2, HO_3, HB⟩ := hrel
       cases gk with
       | zero => exact absurd HA.out (by simp [laws_FnMeetOf.l0])
       | succ k2 =>
        have H := HA.out
        clear HA
        simp only [laws_FnMeetOf.l0] at H
        by_cases c12 : x10_2 < (t492.length : Int)
        ·
         rw [if_pos c12] at H
         have c12b0 : decide (x10_2 < (t492.length : Int)) = true := decide_eq_true c12
         clear c12
         by_cases c13 : 0 ≤ x10_2
         ·
          rw [if_pos c13] at H
          have c13b0 : decide (0 ≤ x10_2) = true := decide_eq_true c13
          clear c13
          by_cases c14 : 0 ≤ t493
          ·
           rw [if_pos c14] at H
           have c14b0 : decide (0 ≤ t493) = true := decide_eq_true c14
           clear c14
           by_cases c15 : t493 < ((rd_L1 t492 x10_2).length : Int)
           ·
            rw [if_pos c15] at H
            have c15b0 : decide (t493 < ((rd_L1 t492 x10_2).length : Int)) = true := decide_eq_true c15
            clear c15
            by_cases c16 : (rd (rd_L1 t492 x10_2) t493) = 1
            ·
             rw [if_pos c16] at H
             have c16b0 : ((rd (rd_L1 t492 x10_2) t493) == 1) = true := beq_iff_eq.mpr c16
             have c16b1 : ((rd (rd_L1 t492 x10_2) t493) != 1) = false := bne_eq_false_iff_eq.mpr c16
             clear c16
             by_cases c17 : 0 ≤ t494
             ·
              rw [if_pos c17] at H
              have c17b0 : decide (0 ≤ t494) = true := decide_eq_true c17
              clear c17
              by_cases c18 : t494 < ((rd_L1 t492 x10_2).length : Int)
              ·
               rw [if_pos c18] at H
               have c18b0 : decide (t494 < ((rd_L1 t492 x10_2).length : Int)) = true := decide_eq_true c18
               clear c18
               by_cases c19 : (rd (rd_L1 t492 x10_2) t494) = 1
               ·
                rw [if_pos c19] at H
                have c19b0 : ((rd (rd_L1 t492 x10_2) t494) == 1) = true := beq_iff_eq.mpr c19
                have c19b1 : ((rd (rd_L1 t492 x10_2) t494) != 1) = false := bne_eq_false_iff_eq.mpr c19
                clear c19
                by_cases c20 : 0 ≤ t497
                ·
                 rw [if_pos c20] at H
                 have c20b0 : decide (0 ≤ t497) = true := decide_eq_true c20
                 clear c20
                 by_cases c21 : t497 < ((rd_L1 t492 x10_2).length : Int)
                 ·
                  rw [if_pos c21] at H
                  have c21b0 : decide (t497 < ((rd_L1 t492 x10_2).length : Int)) = true := decide_eq_true c21
                  clear c21
                  by_cases c22 : (rd (rd_L1 t492 x10_2) t497) = 0
                  ·
                   rw [if_pos c22] at H
                   have c22b0 : ((rd (rd_L1 t492 x10_2) t497) == 0) = true := beq_iff_eq.mpr c22
                   have c22b1 : ((rd (rd_L1 t492 x10_2) t497) != 0) = false := bne_eq_false_iff_eq.mpr c22
                   clear c22
                   obtain rfl := Option.some.inj H
                   have p502 : 0 ≤ (x10_2 : Int) := of_decide_eq_true (by first | (with_reducible assumption) | assumption)
                   have q502 : x10_2 < (t492.length : Int) := of_decide_eq_true (by first | (with_reducible assumption) | assumption)
                   obtain ⟨ad502, A502_0, c502_0, e502, hx502_0, hl502_0, hi502_0⟩ := at_L1 (Kd.S_reads' HO_3.out).2.2 x10_2 p502 q502
                   cases e502
                   obtain ⟨ce502, hce502, hMe502, hcc502⟩ := Kd.S_get HO_3.out [] x10_2 p502 (by first | exact q502 | exact of_decide_eq_true (by first | (with_reducible assumption) | assumption) | (have e_ := (Kd.S_reads' HO_3.out).1; omega))
                   obtain ⟨ve502_0, rfl, ge502_0⟩ := hMe502
                   have hv502_0 := hcc502 0 _ rfl
                   rw [Nat.add_zero, show ((Kd.slice 3 (Kd.int .i64))).sz = 1 from rfl, Nat.mul_one] at hv502_0
                   replace hv502_0 := Option.some.inj (hv502_0.symm.trans hx502_0)
                   rw [hv502_0] at ge502_0
                   have HL502_0 := Aside0.mk (show Kd.R (Kd.int .i64) 3 _ _ _ _ (rd_L1 t492 x10_2) from ge502_0)
                   clear hv502_0 ge502_0
                   clear hcc502 hce502
                   have HR502_0 := Aside0.mk hi502_0
                   have HC502_0 := Aside0.mk hl502_0
                   clear hi502_0 hl502_0
                   replace p502 := eq_true p502
                   replace q502 := eq_true q502
                   have p503 : 0 ≤ (t493 : Int) := of_decide_eq_true (by first | (with_reducible assumption) | assumption)
                   have q503 : t493 < ((rd_L1 t492 x10_2).length : Int) := of_decide_eq_true (by first | (with_reducible assumption) | assumption)
                   obtain ⟨ad503, e503, hx503_0⟩ := Kd.at_int (by repeat (first | (with_reducible exact HR502_0.out) | (with_reducible refine Kd.C_alloc ?_ _) | (with_reducible refine Kd.C_drewN ?_ _) | (with_reducible refine Kd.C_drew ?_) | exact HR502_0.out)) t493 p503 q503
                   cases e503
                   replace p503 := eq_true p503
                   replace q503 := eq_true q503
                   have p504 : 0 ≤ (x10_2 : Int) := of_decide_eq_true (by first | (with_reducible assumption) | assumption)
                   have q504 : x10_2 < (t492.length : Int) := of_decide_eq_true (by first | (with_reducible assumption) | assumption)
                   obtain ⟨ad504, A504_0, c504_0, e504, hx504_0, hl504_0, hi504_0⟩ := at_L1 (Kd.S_reads' HO_3.out).2.2 x10_2 p504 q504
                   obtain rfl : ad502 = ad504 := (by injection e504)
                   obtain ⟨ce504, hce504, hMe504, hcc504⟩ := Kd.S_get HO_3.out [] x10_2 p504 (by first | exact q504 | exact of_decide_eq_true (by first | (with_reducible assumption) | assumption) | (have e_ := (Kd.S_reads' HO_3.out).1; omega))
                   obtain ⟨ve504_0, rfl, ge504_0⟩ := hMe504
                   have hv504_0 := hcc504 0 _ rfl
                   rw [Nat.add_zero, show ((Kd.slice 3 (Kd.int .i64))).sz = 1 from rfl, Nat.mul_one] at hv504_0
                   replace hv504_0 := Option.some.inj (hv504_0.symm.trans hx504_0)
                   rw [hv504_0] at ge504_0
                   have HL504_0 := Aside0.mk (show Kd.R (Kd.int .i64) 3 _ _ _ _ (rd_L1 t492 x10_2) from ge504_0)
                   clear hv504_0 ge504_0
                   clear hcc504 hce504
                   have HR504_0 := Aside0.mk hi504_0
                   have HC504_0 := Aside0.mk hl504_0
                   clear hi504_0 hl504_0
                   replace p504 := eq_true p504
                   replace q504 := eq_true q504
                   have ea_ := Option.some.inj (hx502_0.symm.trans hx504_0)
                   injection ea_ with ea_ en_ ec_
                   subst ea_
                   subst ec_
                   clear en_
                   have p505 : 0 ≤ (t494 : Int) := of_decide_eq_true (by first | (with_reducible assumption) | assumption)
                   have q505 : t494 < ((rd_L1 t492 x10_2).length : Int) := of_decide_eq_true (by first | (with_reducible assumption) | assumption)
                   obtain ⟨ad505, e505, hx505_0⟩ := Kd.at_int (by repeat (first | (with_reducible exact HR504_0.out) | (with_reducible refine Kd.C_alloc ?_ _) | (with_reducible refine Kd.C_drewN ?_ _) | (with_reducible refine Kd.C_drew ?_) | exact HR504_0.out)) t494 p505 q505
                   cases e505
                   replace p505 := eq_true p505
                   replace q505 := eq_true q505
                   have p506 : 0 ≤ (x10_2 : Int) := of_decide_eq_true (by first | (with_reducible assumption) | assumption)
                   have q506 : x10_2 < (t492.length : Int) := of_decide_eq_true (by first | (with_reducible assumption) | assumption)
                   obtain ⟨ad506, A506_0, c506_0, e506, hx506_0, hl506_0, hi506_0⟩ := at_L1 (Kd.S_reads' HO_3.out).2.2 x10_2 p506 q506
                   obtain rfl : ad502 = ad506 := (by injection e506)
                   obtain ⟨ce506, hce506, hMe506, hcc506⟩ := Kd.S_get HO_3.out [] x10_2 p506 (by first | exact q506 | exact of_decide_eq_true (by first | (with_reducible assumption) | assumption) | (have e_ := (Kd.S_reads' HO_3.out).1; omega))
                   obtain ⟨ve506_0, rfl, ge506_0⟩ := hMe506
                   have hv506_0 := hcc506 0 _ rfl
                   rw [Nat.add_zero, show ((Kd.slice 3 (Kd.int .i64))).sz = 1 from rfl, Nat.mul_one] at hv506_0
                   replace hv506_0 := Option.some.inj (hv506_0.symm.trans hx506_0)
                   rw [hv506_0] at ge506_0
                   have HL506_0 := Aside0.mk (show Kd.R (Kd.int .i64) 3 _ _ _ _ (rd_L1 t492 x10_2) from ge506_0)
                   clear hv506_0 ge506_0
                   clear hcc506 hce506
                   have HR506_0 := Aside0.mk hi506_0
                   have HC506_0 := Aside0.mk hl506_0
                   clear hi506_0 hl506_0
                   replace p506 := eq_true p506
                   replace q506 := eq_true q506
                   have ea_ := Option.some.inj (hx502_0.symm.trans hx506_0)
                   injection ea_ with ea_ en_ ec_
                   subst ea_
                   subst ec_
                   clear en_
                   have p507 : 0 ≤ (t497 : Int) := of_decide_eq_true (by first | (with_reducible assumption) | assumption)
                   have q507 : t497 < ((rd_L1 t492 x10_2).length : Int) := of_decide_eq_true (by first | (with_reducible assumption) | assumption)
                   obtain ⟨ad507, e507, hx507_0⟩ := Kd.at_int (by repeat (first | (with_reducible exact HR506_0.out) | (with_reducible refine Kd.C_alloc ?_ _) | (with_reducible refine Kd.C_drewN ?_ _) | (with_reducible refine Kd.C_drew ?_) | exact HR506_0.out)) t497 p507 q507
                   cases e507
                   replace p507 := eq_true p507
                   replace q507 := eq_true q507
                   go_wp2
                   go_ret
                   exact ⟨by first | rfl | (simp [errW_none, errW_some] <;> rfl) | (simp [*, errW_none, errW_some] <;> rfl), by repeat (first | (with_reducible first | exact HB.out | apply below_alloc | apply pw_below_drewN | apply below_drew1) | exact HB.out)⟩
                  ·
                   rw [if_neg c22] at H
                   have c22b0 : ((rd (rd_L1 t492 x10_2) t497) == 0) = false := beq_eq_false_iff_ne.mpr c22
                   have c22b1 : ((rd (rd_L1 t492 x10_2) t497) != 0) = true := bne_iff_ne.mpr c22
                   have H' := Aside0.mk H
                   clear H
                   have p502 : 0 ≤ (x10_2 : Int) := of_decide_eq_true (by first | (with_reducible assumption) | assumption)
                   have q502 : x10_2 < (t492.length : Int) := of_decide_eq_true (by first | (with_reducible assumption) | assumption)
                   obtain ⟨ad502, A502_0, c502_0, e502, hx502_0, hl502_0, hi502_0⟩ := at_L1 (Kd.S_reads' HO_3.out).2.2 x10_2 p502 q502
                   cases e502
                   obtain ⟨ce502, hce502, hMe502, hcc502⟩ := Kd.S_get HO_3.out [] x10_2 p502 (by first | exact q502 | exact of_decide_eq_true (by first | (with_reducible assumption) | assumption) | (have e_ := (Kd.S_reads' HO_3.out).1; omega))
                   obtain ⟨ve502_0, rfl, ge502_0⟩ := hMe502
                   have hv502_0 := hcc502 0 _ rfl
                   rw [Nat.add_zero, show ((Kd.slice 3 (Kd.int .i64))).sz = 1 from rfl, Nat.mul_one] at hv502_0
                   replace hv502_0 := Option.some.inj (hv502_0.symm.trans hx502_0)
                   rw [hv502_0] at ge502_0
                   have HL502_0 := Aside0.mk (show Kd.R (Kd.int .i64) 3 _ _ _ _ (rd_L1 t492 x10_2) from ge502_0)
                   clear hv502_0 ge502_0
                   clear hcc502 hce502
                   have HR502_0 := Aside0.mk hi502_0
                   have HC502_0 := Aside0.mk hl502_0
                   clear hi502_0 hl502_0
                   replace p502 := eq_true p502
                   replace q502 := eq_true q502
                   have p503 : 0 ≤ (t493 : Int) := of_decide_eq_true (by first | (with_reducible assumption) | assumption)
                   have q503 : t493 < ((rd_L1 t492 x10_2).length : Int) := of_decide_eq_true (by first | (with_reducible assumption) | assumption)
                   obtain ⟨ad503, e503, hx503_0⟩ := Kd.at_int (by repeat (first | (with_reducible exact HR502_0.out) | (with_reducible refine Kd.C_alloc ?_ _) | (with_reducible refine Kd.C_drewN ?_ _) | (with_reducible refine Kd.C_drew ?_) | exact HR502_0.out)) t493 p503 q503
                   cases e503
                   replace p503 := eq_true p503
                   replace q503 := eq_true q503
                   have p504 : 0 ≤ (x10_2 : Int) := of_decide_eq_true (by first | (with_reducible assumption) | assumption)
                   have q504 : x10_2 < (t492.length : Int) := of_decide_eq_true (by first | (with_reducible assumption) | assumption)
                   obtain ⟨ad504, A504_0, c504_0, e504, hx504_0, hl504_0, hi504_0⟩ := at_L1 (Kd.S_reads' HO_3.out).2.2 x10_2 p504 q504
                   obtain rfl : ad502 = ad504 := (by injection e504)
                   obtain ⟨ce504, hce504, hMe504, hcc504⟩ := Kd.S_get HO_3.out [] x10_2 p504 (by first | exact q504 | exact of_decide_eq_true (by first | (with_reducible assumption) | assumption) | (have e_ := (Kd.S_reads' HO_3.out).1; omega))
                   obtain ⟨ve504_0, rfl, ge504_0⟩ := hMe504
                   have hv504_0 := hcc504 0 _ rfl
                   rw [Nat.add_zero, show ((Kd.slice 3 (Kd.int .i64))).sz = 1 from rfl, Nat.mul_one] at hv504_0
                   replace hv504_0 := Option.some.inj (hv504_0.symm.trans hx504_0)
                   rw [hv504_0] at ge504_0
                   have HL504_0 := Aside0.mk (show Kd.R (Kd.int .i64) 3 _ _ _ _ (rd_L1 t492 x10_2) from ge504_0)
                   clear hv504_0 ge504_0
                   clear hcc504 hce504
                   have HR504_0 := Aside0.mk hi504_0
                   have HC504_0 := Aside0.mk hl504_0
                   clear hi504_0 hl504_0
                   replace p504 := eq_true p504
                   replace q504 := eq_true q504
                   have ea_ := Option.some.inj (hx502_0.symm.trans hx504_0)
                   injection ea_ with ea_ en_ ec_
                   subst ea_
                   subst ec_
                   clear en_
                   have p505 : 0 ≤ (t494 : Int) := of_decide_eq_true (by first | (with_reducible assumption) | assumption)
                   have q505 : t494 < ((rd_L1 t492 x10_2).length : Int) := of_decide_eq_true (by first | (with_reducible assumption) | assumption)
                   obtain ⟨ad505, e505, hx505_0⟩ := Kd.at_int (by repeat (first | (with_reducible exact HR504_0.out) | (with_reducible refine Kd.C_alloc ?_ _) | (with_reducible refine Kd.C_drewN ?_ _) | (with_reducible refine Kd.C_drew ?_) | exact HR504_0.out)) t494 p505 q505
                   cases e505
                   replace p505 := eq_true p505
                   replace q505 := eq_true q505
                   have p506 : 0 ≤ (x10_2 : Int) := of_decide_eq_true (by first | (with_reducible assumption) | assumption)
                   have q506 : x10_2 < (t492.length : Int) := of_decide_eq_true (by first | (with_reducible assumption) | assumption)
                   obtain ⟨ad506, A506_0, c506_0, e506, hx506_0, hl506_0, hi506_0⟩ := at_L1 (Kd.S_reads' HO_3.out).2.2 x10_2 p506 q506
                   obtain rfl : ad502 = ad506 := (by injection e506)
                   obtain ⟨ce506, hce506, hMe506, hcc506⟩ := Kd.S_get HO_3.out [] x10_2 p506 (by first | exact q506 | exact of_decide_eq_true (by first | (with_reducible assumption) | assumption) | (have e_ := (Kd.S_reads' HO_3.out).1; omega))
                   obtain ⟨ve506_0, rfl, ge506_0⟩ := hMe506
                   have hv506_0 := hcc506 0 _ rfl
                   rw [Nat.add_zero, show ((Kd.slice 3 (Kd.int .i64))).sz = 1 from rfl, Nat.mul_one] at hv506_0
                   replace hv506_0 := Option.some.inj (hv506_0.symm.trans hx506_0)
                   rw [hv506_0] at ge506_0
                   have HL506_0 := Aside0.mk (show Kd.R (Kd.int .i64) 3 _ _ _ _ (rd_L1 t492 x10_2) from ge506_0)
                   clear hv506_0 ge506_0
                   clear hcc506 hce506
                   have HR506_0 := Aside0.mk hi506_0
                   have HC506_0 := Aside0.mk hl506_0
                   clear hi506_0 hl506_0
                   replace p506 := eq_true p506
                   replace q506 := eq_true q506
                   have ea_ := Option.some.inj (hx502_0.symm.trans hx506_0)
                   injection ea_ with ea_ en_ ec_
                   subst ea_
                   subst ec_
                   clear en_
                   have p507 : 0 ≤ (t497 : Int) := of_decide_eq_true (by first | (with_reducible assumption) | assumption)
                   have q507 : t497 < ((rd_L1 t492 x10_2).length : Int) := of_decide_eq_true (by first | (with_reducible assumption) | assumption)
                   obtain ⟨ad507, e507, hx507_0⟩ := Kd.at_int (by repeat (first | (with_reducible exact HR506_0.out) | (with_reducible refine Kd.C_alloc ?_ _) | (with_reducible refine Kd.C_drewN ?_ _) | (with_reducible refine Kd.C_drew ?_) | exact HR506_0.out)) t497 p507 q507
                   cases e507
                   replace p507 := eq_true p507
                   replace q507 := eq_true q507
                   go_wp2
                   go_roundg k2
                   case measure => have := HJ5.out; have := HK2.out; omega
                   case rel => exact ⟨(wrap64 (x10_2 + 1)), (by first | rfl | (simp; done) | (simp [*]; done)), H', ⟨by have := HJ5.out; have := HK2.out; omega⟩, ⟨by (with_reducible repeat (first | apply Kd.S_alloc | apply Kd.S_drewN | apply Kd.S_drew)); exact HO_3.out⟩, ⟨by repeat (first | (with_reducible first | exact HB.out | apply below_alloc | apply pw_below_drewN | apply below_drew1) | exact HB.out)⟩⟩
                 ·
                  rw [if_neg c21] at H
                  exact absurd H (by simp)
                ·
                 rw [if_neg c20] at H
                 exact absurd H (by simp)
               ·
                rw [if_neg c19] at H
                have c19b0 : ((rd (rd_L1 t492 x10_2) t494) == 1) = false := beq_eq_false_iff_ne.mpr c19
                have c19b1 : ((rd (rd_L1 t492 x10_2) t494) != 1) = true := bne_iff_ne.mpr c19
                have H' := Aside0.mk H
                clear H
                have p502 : 0 ≤ (x10_2 : Int) := of_decide_eq_true (by first | (with_reducible assumption) | assumption)
                have q502 : x10_2 < (t492.length : Int) := of_decide_eq_true (by first | (with_reducible assumption) | assumption)
                obtain ⟨ad502, A502_0, c502_0, e502, hx502_0, hl502_0, hi502_0⟩ := at_L1 (Kd.S_reads' HO_3.out).2.2 x10_2 p502 q502
                cases e502
                obtain ⟨ce502, hce502, hMe502, hcc502⟩ := Kd.S_get HO_3.out [] x10_2 p502 (by first | exact q502 | exact of_decide_eq_true (by first | (with_reducible assumption) | assumption) | (have e_ := (Kd.S_reads' HO_3.out).1; omega))
                obtain ⟨ve502_0, rfl, ge502_0⟩ := hMe502
                have hv502_0 := hcc502 0 _ rfl
                rw [Nat.add_zero, show ((Kd.slice 3 (Kd.int .i64))).sz = 1 from rfl, Nat.mul_one] at hv502_0
                replace hv502_0 := Option.some.inj (hv502_0.symm.trans hx502_0)
                rw [hv502_0] at ge502_0
                have HL502_0 := Aside0.mk (show Kd.R (Kd.int .i64) 3 _ _ _ _ (rd_L1 t492 x10_2) from ge502_0)
                clear hv502_0 ge502_0
                clear hcc502 hce502
                have HR502_0 := Aside0.mk hi502_0
                have HC502_0 := Aside0.mk hl502_0
                clear hi502_0 hl502_0
                replace p502 := eq_true p502
                replace q502 := eq_true q502
                have p503 : 0 ≤ (t493 : Int) := of_decide_eq_true (by first | (with_reducible assumption) | assumption)
                have q503 : t493 < ((rd_L1 t492 x10_2).length : Int) := of_decide_eq_true (by first | (with_reducible assumption) | assumption)
                obtain ⟨ad503, e503, hx503_0⟩ := Kd.at_int (by repeat (first | (with_reducible exact HR502_0.out) | (with_reducible refine Kd.C_alloc ?_ _) | (with_reducible refine Kd.C_drewN ?_ _) | (with_reducible refine Kd.C_drew ?_) | exact HR502_0.out)) t493 p503 q503
                cases e503
                replace p503 := eq_true p503
                replace q503 := eq_true q503
                have p504 : 0 ≤ (x10_2 : Int) := of_decide_eq_true (by first | (with_reducible assumption) | assumption)
                have q504 : x10_2 < (t492.length : Int) := of_decide_eq_true (by first | (with_reducible assumption) | assumption)
                obtain ⟨ad504, A504_0, c504_0, e504, hx504_0, hl504_0, hi504_0⟩ := at_L1 (Kd.S_reads' HO_3.out).2.2 x10_2 p504 q504
                obtain rfl : ad502 = ad504 := (by injection e504)
                obtain ⟨ce504, hce504, hMe504, hcc504⟩ := Kd.S_get HO_3.out [] x10_2 p504 (by first | exact q504 | exact of_decide_eq_true (by first | (with_reducible assumption) | assumption) | (have e_ := (Kd.S_reads' HO_3.out).1; omega))
                obtain ⟨ve504_0, rfl, ge504_0⟩ := hMe504
                have hv504_0 := hcc504 0 _ rfl
                rw [Nat.add_zero, show ((Kd.slice 3 (Kd.int .i64))).sz = 1 from rfl, Nat.mul_one] at hv504_0
                replace hv504_0 := Option.some.inj (hv504_0.symm.trans hx504_0)
                rw [hv504_0] at ge504_0
                have HL504_0 := Aside0.mk (show Kd.R (Kd.int .i64) 3 _ _ _ _ (rd_L1 t492 x10_2) from ge504_0)
                clear hv504_0 ge504_0
                clear hcc504 hce504
                have HR504_0 := Aside0.mk hi504_0
                have HC504_0 := Aside0.mk hl504_0
                clear hi504_0 hl504_0
                replace p504 := eq_true p504
                replace q504 := eq_true q504
                have ea_ := Option.some.inj (hx502_0.symm.trans hx504_0)
                injection ea_ with ea_ en_ ec_
                subst ea_
                subst ec_
                clear en_
                have p505 : 0 ≤ (t494 : Int) := of_decide_eq_true (by first | (with_reducible assumption) | assumption)
                have q505 : t494 < ((rd_L1 t492 x10_2).length : Int) := of_decide_eq_true (by first | (with_reducible assumption) | assumption)
                obtain ⟨ad505, e505, hx505_0⟩ := Kd.at_int (by repeat (first | (with_reducible exact HR504_0.out) | (with_reducible refine Kd.C_alloc ?_ _) | (with_reducible refine Kd.C_drewN ?_ _) | (with_reducible refine Kd.C_drew ?_) | exact HR504_0.out)) t494 p505 q505
                cases e505
                replace p505 := eq_true p505
                replace q505 := eq_true q505
                go_wp2
                go_roundg k2
                case measure => have := HJ5.out; have := HK2.out; omega
                case rel => exact ⟨(wrap64 (x10_2 + 1)), (by first | rfl | (simp; done) | (simp [*]; done)), H', ⟨by have := HJ5.out; have := HK2.out; omega⟩, ⟨by (with_reducible repeat (first | apply Kd.S_alloc | apply Kd.S_drewN | apply Kd.S_drew)); exact HO_3.out⟩, ⟨by repeat (first | (with_reducible first | exact HB.out | apply below_alloc | apply pw_below_drewN | apply below_drew1) | exact HB.out)⟩⟩
              ·
               rw [if_neg c18] at H
               exact absurd H (by simp)
             ·
              rw [if_neg c17] at H
              exact absurd H (by simp)
            ·
             rw [if_neg c16] at H
             have c16b0 : ((rd (rd_L1 t492 x10_2) t493) == 1) = false := beq_eq_false_iff_ne.mpr c16
             have c16b1 : ((rd (rd_L1 t492 x10_2) t493) != 1) = true := bne_iff_ne.mpr c16
             have H' := Aside0.mk H
             clear H
             have p502 : 0 ≤ (x10_2 : Int) := of_decide_eq_true (by first | (with_reducible assumption) | assumption)
             have q502 : x10_2 < (t492.length : Int) := of_decide_eq_true (by first | (with_reducible assumption) | assumption)
             obtain ⟨ad502, A502_0, c502_0, e502, hx502_0, hl502_0, hi502_0⟩ := at_L1 (Kd.S_reads' HO_3.out).2.2 x10_2 p502 q502
             cases e502
             obtain ⟨ce502, hce502, hMe502, hcc502⟩ := Kd.S_get HO_3.out [] x10_2 p502 (by first | exact q502 | exact of_decide_eq_true (by first | (with_reducible assumption) | assumption) | (have e_ := (Kd.S_reads' HO_3.out).1; omega))
             obtain ⟨ve502_0, rfl, ge502_0⟩ := hMe502
             have hv502_0 := hcc502 0 _ rfl
             rw [Nat.add_zero, show ((Kd.slice 3 (Kd.int .i64))).sz = 1 from rfl, Nat.mul_one] at hv502_0
             replace hv502_0 := Option.some.inj (hv502_0.symm.trans hx502_0)
             rw [hv502_0] at ge502_0
             have HL502_0 := Aside0.mk (show Kd.R (Kd.int .i64) 3 _ _ _ _ (rd_L1 t492 x10_2) from ge502_0)
             clear hv502_0 ge502_0
             clear hcc502 hce502
             have HR502_0 := Aside0.mk hi502_0
             have HC502_0 := Aside0.mk hl502_0
             clear hi502_0 hl502_0
             replace p502 := eq_true p502
             replace q502 := eq_true q502
             have p503 : 0 ≤ (t493 : Int) := of_decide_eq_true (by first | (with_reducible assumption) | assumption)
             have q503 : t493 < ((rd_L1 t492 x10_2).length : Int) := of_decide_eq_true (by first | (with_reducible assumption) | assumption)
             obtain ⟨ad503, e503, hx503_0⟩ := Kd.at_int (by repeat (first | (with_reducible exact HR502_0.out) | (with_reducible refine Kd.C_alloc ?_ _) | (with_reducible refine Kd.C_drewN ?_ _) | (with_reducible refine Kd.C_drew ?_) | exact HR502_0.out)) t493 p503 q503
             cases e503
             replace p503 := eq_true p503
             replace q503 := eq_true q503
             go_wp2
             go_roundg k2
             case measure => have := HJ5.out; have := HK2.out; omega
             case rel => exact ⟨(wrap64 (x10_2 + 1)), (by first | rfl | (simp; done) | (simp [*]; done)), H', ⟨by have := HJ5.out; have := HK2.out; omega⟩, ⟨by (with_reducible repeat (first | apply Kd.S_alloc | apply Kd.S_drewN | apply Kd.S_drew)); exact HO_3.out⟩, ⟨by repeat (first | (with_reducible first | exact HB.out | apply below_alloc | apply pw_below_drewN | apply below_drew1) | exact HB.out)⟩⟩
           ·
            rw [if_neg c15] at H
            exact absurd H (by simp)
          ·
           rw [if_neg c14] at H
           exact absurd H (by simp)
         ·
          rw [if_neg c13] at H
          exact absurd H (by simp)
        ·
         rw [if_neg c12] at H
         have c12b0 : decide (x10_2 < (t492.length : Int)) = false := decide_eq_false c12
         clear c12
         replace H := Option.bind_eq_some_iff.mp H
         obtain ⟨⟨t508, t509⟩, A230, H⟩ := H
         replace H : ((impl_MeetOf.f k2 t492 t493 t493).bind fun bt510 => (if 0 ≤ t497 then (if t497 < (t492.length : Int) then (if 0 ≤ t493 then (if t493 < ((rd_L1 t492 t497).length : Int) then (if (rd (rd_L1 t492 t497) t493) = 1 then (if 0 ≤ t494 then (if t494 < ((rd_L1 t492 t497).length : Int) then (if (rd (rd_L1 t492 t497) t494) = 1 then (if t509 = true then (if t508 = t497 then (if bt510.2 = true then (some (bt510.1 == t493)) else (some false)) else (some false)) else (some false)) else (some false)) else (none)) else (none)) else (some false)) else (none)) else (none)) else (none)) else (none))) = some r := H
         have A23 := Aside0.mk A230
         clear A230
         replace H := Option.bind_eq_some_iff.mp H
         obtain ⟨⟨t510, t511⟩, A240, H⟩ := H
         replace H : (if 0 ≤ t497 then (if t497 < (t492.length : Int) then (if 0 ≤ t493 then (if t493 < ((rd_L1 t492 t497).length : Int) then (if (rd (rd_L1 t492 t497) t493) = 1 then (if 0 ≤ t494 then (if t494 < ((rd_L1 t492 t497).length : Int) then (if (rd (rd_L1 t492 t497) t494) = 1 then (if t509 = true then (if t508 = t497 then (if t511 = true then (some (t510 == t493)) else (some false)) else (some false)) else (some false)) else (some false)) else (none)) else (none)) else (some false)) else (none)) else (none)) else (none)) else (none)) = some r := H
         have A24 := Aside0.mk A240
         clear A240
         by_cases c25 : 0 ≤ t497
         ·
          rw [if_pos c25] at H
          have c25b0 : decide (0 ≤ t497) = true := decide_eq_true c25
          clear c25
          by_cases c26 : t497 < (t492.length : Int)
          ·
           rw [if_pos c26] at H
           have c26b0 : decide (t497 < (t492.length : Int)) = true := decide_eq_true c26
           clear c26
           by_cases c27 : 0 ≤ t493
           ·
            rw [if_pos c27] at H
            have c27b0 : decide (0 ≤ t493) = true := decide_eq_true c27
            clear c27
            by_cases c28 : t493 < ((rd_L1 t492 t497).length : Int)
            ·
             rw [if_pos c28] at H
             have c28b0 : decide (t493 < ((rd_L1 t492 t497).length : Int)) = true := decide_eq_true c28
             clear c28
             by_cases c29 : (rd (rd_L1 t492 t497) t493) = 1
             ·
              rw [if_pos c29] at H
              have c29b0 : ((rd (rd_L1 t492 t497) t493) == 1) = true := beq_iff_eq.mpr c29
              have c29b1 : ((rd (rd_L1 t492 t497) t493) != 1) = false := bne_eq_false_iff_eq.mpr c29
              clear c29
              by_cases c30 : 0 ≤ t494
              ·
               rw [if_pos c30] at H
               have c30b0 : decide (0 ≤ t494) = true := decide_eq_true c30
               clear c30
               by_cases c31 : t494 < ((rd_L1 t492 t497).length : Int)
               ·
                rw [if_pos c31] at H
                have c31b0 : decide (t494 < ((rd_L1 t492 t497).length : Int)) = true := decide_eq_true c31
                clear c31
                by_cases c32 : (rd (rd_L1 t492 t497) t494) = 1
                ·
                 rw [if_pos c32] at H
                 have c32b0 : ((rd (rd_L1 t492 t497) t494) == 1) = true := beq_iff_eq.mpr c32
                 have c32b1 : ((rd (rd_L1 t492 t497) t494) != 1) = false := bne_eq_false_iff_eq.mpr c32
                 clear c32
                 by_cases c33 : t509 = true
                 ·
                  subst c33
                  have H1 : (if t508 = t497 then (if t511 = true then (some (t510 == t493)) else (some false)) else (some false)) = some r := by rw [if_pos rfl] at H; exact H
                  clear H
                  have H := H1
                  clear H1
                  by_cases c34 : t508 = t497
                  ·
                   rw [if_pos c34] at H
                   have c34b0 : (t508 == t497) = true := beq_iff_eq.mpr c34
                   have c34b1 : (t508 != t497) = false := bne_eq_false_iff_eq.mpr c34
                   clear c34
                   by_cases c35 : t511 = true
                   ·
                    subst c35
                    have H1 : (some (t510 == t493)) = some r := by rw [if_pos rfl] at H; exact H
                    clear H
                    have H := H1
                    clear H1
                    obtain rfl := Option.some.inj H
                    go_wp2_with (first | ((with_reducible refine gate_callee (f := 29) rfl ?_); refine goesL_ (some 91) rfl rfl Try.func29 (by kernel_rfl) rfl #[.slice Ao8 t492.length co8, .int .i64 t494, .int .i64 t493] rfl (by (try simp only [List.map_toArray, List.map_cons, List.map_nil]); first | done | rfl | (simp only [List.length_drop, List.length_take]; rfl)) ?_; (with_reducible refine (impl_MeetOf.calls k2 _ _ t492 t494 t493 t508 true _ ?side1 ?side2 A23.out).mono ?_); (case side1 => repeat (first | exact (Kd.S_reads' HO_3.out).2.2 | (with_reducible refine Kd.C_alloc ?_ _) | (with_reducible refine Kd.C_drewN ?_ _) | (with_reducible refine Kd.C_drew ?_))); (case side2 => exact (Kd.S_reads' HO_3.out).2.1); rintro e w' ⟨rfl, ⟨nd, rfl⟩⟩; refine ⟨_, rfl, ?_⟩) | ((with_reducible refine gate_callee (f := 29) rfl ?_); refine goesL_ (some 98) rfl rfl Try.func29 (by kernel_rfl) rfl #[.slice Ao8 t492.length co8, .int .i64 t493, .int .i64 t493] rfl (by (try simp only [List.map_toArray, List.map_cons, List.map_nil]); first | done | rfl | (simp only [List.length_drop, List.length_take]; rfl)) ?_; (with_reducible refine (impl_MeetOf.calls k2 _ _ t492 t493 t493 t510 true _ ?side1 ?side2 A24.out).mono ?_); (case side1 => repeat (first | exact (Kd.S_reads' HO_3.out).2.2 | (with_reducible refine Kd.C_alloc ?_ _) | (with_reducible refine Kd.C_drewN ?_ _) | (with_reducible refine Kd.C_drew ?_))); (case side2 => exact (Kd.S_reads' HO_3.out).2.1); rintro e w' ⟨rfl, ⟨nd, rfl⟩⟩; refine ⟨_, rfl, ?_⟩; have p512 : 0 ≤ (t497 : Int) := of_decide_eq_true (by first | (with_reducible assumption) | assumption); have q512 : t497 < (t492.length : Int) := of_decide_eq_true (by first | (with_reducible assumption) | assumption); obtain ⟨ad512, A512_0, c512_0, e512, hx512_0, hl512_0, hi512_0⟩ := at_L1 (Kd.S_reads' HO_3.out).2.2 t497 p512 q512; cases e512; obtain ⟨ce512, hce512, hMe512, hcc512⟩ := Kd.S_get HO_3.out [] t497 p512 (by first | exact q512 | exact of_decide_eq_true (by first | (with_reducible assumption) | assumption) | (have e_ := (Kd.S_reads' HO_3.out).1; omega)); obtain ⟨ve512_0, rfl, ge512_0⟩ := hMe512; have hv512_0 := hcc512 0 _ rfl; rw [Nat.add_zero, show ((Kd.slice 3 (Kd.int .i64))).sz = 1 from rfl, Nat.mul_one] at hv512_0; replace hv512_0 := Option.some.inj (hv512_0.symm.trans hx512_0); rw [hv512_0] at ge512_0; have HL512_0 := Aside0.mk (show Kd.R (Kd.int .i64) 3 _ _ _ _ (rd_L1 t492 t497) from ge512_0); clear hv512_0 ge512_0; clear hcc512 hce512; have HR512_0 := Aside0.mk hi512_0; have HC512_0 := Aside0.mk hl512_0; clear hi512_0 hl512_0; replace p512 := eq_true p512; replace q512 := eq_true q512; have p513 : 0 ≤ (t493 : Int) := of_decide_eq_true (by first | (with_reducible assumption) | assumption); have q513 : t493 < ((rd_L1 t492 t497).length : Int) := of_decide_eq_true (by first | (with_reducible assumption) | assumption); obtain ⟨ad513, e513, hx513_0⟩ := Kd.at_int (by repeat (first | (with_reducible exact HR512_0.out) | (with_reducible refine Kd.C_alloc ?_ _) | (with_reducible refine Kd.C_drewN ?_ _) | (with_reducible refine Kd.C_drew ?_) | exact HR512_0.out)) t493 p513 q513; cases e513; replace p513 := eq_true p513; replace q513 := eq_true q513; have p514 : 0 ≤ (t497 : Int) := of_decide_eq_true (by first | (with_reducible assumption) | assumption); have q514 : t497 < (t492.length : Int) := of_decide_eq_true (by first | (with_reducible assumption) | assumption); obtain ⟨ad514, A514_0, c514_0, e514, hx514_0, hl514_0, hi514_0⟩ := at_L1 (Kd.S_reads' HO_3.out).2.2 t497 p514 q514; obtain rfl : ad512 = ad514 := (by injection e514); obtain ⟨ce514, hce514, hMe514, hcc514⟩ := Kd.S_get HO_3.out [] t497 p514 (by first | exact q514 | exact of_decide_eq_true (by first | (with_reducible assumption) | assumption) | (have e_ := (Kd.S_reads' HO_3.out).1; omega)); obtain ⟨ve514_0, rfl, ge514_0⟩ := hMe514; have hv514_0 := hcc514 0 _ rfl; rw [Nat.add_zero, show ((Kd.slice 3 (Kd.int .i64))).sz = 1 from rfl, Nat.mul_one] at hv514_0; replace hv514_0 := Option.some.inj (hv514_0.symm.trans hx514_0); rw [hv514_0] at ge514_0; have HL514_0 := Aside0.mk (show Kd.R (Kd.int .i64) 3 _ _ _ _ (rd_L1 t492 t497) from ge514_0); clear hv514_0 ge514_0; clear hcc514 hce514; have HR514_0 := Aside0.mk hi514_0; have HC514_0 := Aside0.mk hl514_0; clear hi514_0 hl514_0; replace p514 := eq_true p514; replace q514 := eq_true q514; have ea_ := Option.some.inj (hx512_0.symm.trans hx514_0); injection ea_ with ea_ en_ ec_; subst ea_; subst ec_; clear en_; have p515 : 0 ≤ (t494 : Int) := of_decide_eq_true (by first | (with_reducible assumption) | assumption); have q515 : t494 < ((rd_L1 t492 t497).length : Int) := of_decide_eq_true (by first | (with_reducible assumption) | assumption); obtain ⟨ad515, e515, hx515_0⟩ := Kd.at_int (by repeat (first | (with_reducible exact HR514_0.out) | (with_reducible refine Kd.C_alloc ?_ _) | (with_reducible refine Kd.C_drewN ?_ _) | (with_reducible refine Kd.C_drew ?_) | exact HR514_0.out)) t494 p515 q515; cases e515; replace p515 := eq_true p515; replace q515 := eq_true q515))
                    go_ret
                    exact ⟨by first | rfl | (simp [errW_none, errW_some] <;> rfl) | (simp [*, errW_none, errW_some] <;> rfl), by repeat (first | (with_reducible first | exact HB.out | apply below_alloc | apply pw_below_drewN | apply below_drew1) | exact HB.out)⟩
                   ·
                    replace c35 := Bool.eq_false_iff.mpr c35
                    subst c35
                    have H1 : (some false) = some r := by rw [if_neg (show ¬ (false = true) by decide)] at H; exact H
                    clear H
                    have H := H1
                    clear H1
                    obtain rfl := Option.some.inj H
                    go_wp2_with (first | ((with_reducible refine gate_callee (f := 29) rfl ?_); refine goesL_ (some 91) rfl rfl Try.func29 (by kernel_rfl) rfl #[.slice Ao8 t492.length co8, .int .i64 t494, .int .i64 t493] rfl (by (try simp only [List.map_toArray, List.map_cons, List.map_nil]); first | done | rfl | (simp only [List.length_drop, List.length_take]; rfl)) ?_; (with_reducible refine (impl_MeetOf.calls k2 _ _ t492 t494 t493 t508 true _ ?side1 ?side2 A23.out).mono ?_); (case side1 => repeat (first | exact (Kd.S_reads' HO_3.out).2.2 | (with_reducible refine Kd.C_alloc ?_ _) | (with_reducible refine Kd.C_drewN ?_ _) | (with_reducible refine Kd.C_drew ?_))); (case side2 => exact (Kd.S_reads' HO_3.out).2.1); rintro e w' ⟨rfl, ⟨nd, rfl⟩⟩; refine ⟨_, rfl, ?_⟩) | ((with_reducible refine gate_callee (f := 29) rfl ?_); refine goesL_ (some 98) rfl rfl Try.func29 (by kernel_rfl) rfl #[.slice Ao8 t492.length co8, .int .i64 t493, .int .i64 t493] rfl (by (try simp only [List.map_toArray, List.map_cons, List.map_nil]); first | done | rfl | (simp only [List.length_drop, List.length_take]; rfl)) ?_; (with_reducible refine (impl_MeetOf.calls k2 _ _ t492 t493 t493 t510 false _ ?side1 ?side2 A24.out).mono ?_); (case side1 => repeat (first | exact (Kd.S_reads' HO_3.out).2.2 | (with_reducible refine Kd.C_alloc ?_ _) | (with_reducible refine Kd.C_drewN ?_ _) | (with_reducible refine Kd.C_drew ?_))); (case side2 => exact (Kd.S_reads' HO_3.out).2.1); rintro e w' ⟨rfl, ⟨nd, rfl⟩⟩; refine ⟨_, rfl, ?_⟩; have p512 : 0 ≤ (t497 : Int) := of_decide_eq_true (by first | (with_reducible assumption) | assumption); have q512 : t497 < (t492.length : Int) := of_decide_eq_true (by first | (with_reducible assumption) | assumption); obtain ⟨ad512, A512_0, c512_0, e512, hx512_0, hl512_0, hi512_0⟩ := at_L1 (Kd.S_reads' HO_3.out).2.2 t497 p512 q512; cases e512; obtain ⟨ce512, hce512, hMe512, hcc512⟩ := Kd.S_get HO_3.out [] t497 p512 (by first | exact q512 | exact of_decide_eq_true (by first | (with_reducible assumption) | assumption) | (have e_ := (Kd.S_reads' HO_3.out).1; omega)); obtain ⟨ve512_0, rfl, ge512_0⟩ := hMe512; have hv512_0 := hcc512 0 _ rfl; rw [Nat.add_zero, show ((Kd.slice 3 (Kd.int .i64))).sz = 1 from rfl, Nat.mul_one] at hv512_0; replace hv512_0 := Option.some.inj (hv512_0.symm.trans hx512_0); rw [hv512_0] at ge512_0; have HL512_0 := Aside0.mk (show Kd.R (Kd.int .i64) 3 _ _ _ _ (rd_L1 t492 t497) from ge512_0); clear hv512_0 ge512_0; clear hcc512 hce512; have HR512_0 := Aside0.mk hi512_0; have HC512_0 := Aside0.mk hl512_0; clear hi512_0 hl512_0; replace p512 := eq_true p512; replace q512 := eq_true q512; have p513 : 0 ≤ (t493 : Int) := of_decide_eq_true (by first | (with_reducible assumption) | assumption); have q513 : t493 < ((rd_L1 t492 t497).length : Int) := of_decide_eq_true (by first | (with_reducible assumption) | assumption); obtain ⟨ad513, e513, hx513_0⟩ := Kd.at_int (by repeat (first | (with_reducible exact HR512_0.out) | (with_reducible refine Kd.C_alloc ?_ _) | (with_reducible refine Kd.C_drewN ?_ _) | (with_reducible refine Kd.C_drew ?_) | exact HR512_0.out)) t493 p513 q513; cases e513; replace p513 := eq_true p513; replace q513 := eq_true q513; have p514 : 0 ≤ (t497 : Int) := of_decide_eq_true (by first | (with_reducible assumption) | assumption); have q514 : t497 < (t492.length : Int) := of_decide_eq_true (by first | (with_reducible assumption) | assumption); obtain ⟨ad514, A514_0, c514_0, e514, hx514_0, hl514_0, hi514_0⟩ := at_L1 (Kd.S_reads' HO_3.out).2.2 t497 p514 q514; obtain rfl : ad512 = ad514 := (by injection e514); obtain ⟨ce514, hce514, hMe514, hcc514⟩ := Kd.S_get HO_3.out [] t497 p514 (by first | exact q514 | exact of_decide_eq_true (by first | (with_reducible assumption) | assumption) | (have e_ := (Kd.S_reads' HO_3.out).1; omega)); obtain ⟨ve514_0, rfl, ge514_0⟩ := hMe514; have hv514_0 := hcc514 0 _ rfl; rw [Nat.add_zero, show ((Kd.slice 3 (Kd.int .i64))).sz = 1 from rfl, Nat.mul_one] at hv514_0; replace hv514_0 := Option.some.inj (hv514_0.symm.trans hx514_0); rw [hv514_0] at ge514_0; have HL514_0 := Aside0.mk (show Kd.R (Kd.int .i64) 3 _ _ _ _ (rd_L1 t492 t497) from ge514_0); clear hv514_0 ge514_0; clear hcc514 hce514; have HR514_0 := Aside0.mk hi514_0; have HC514_0 := Aside0.mk hl514_0; clear hi514_0 hl514_0; replace p514 := eq_true p514; replace q514 := eq_true q514; have ea_ := Option.some.inj (hx512_0.symm.trans hx514_0); injection ea_ with ea_ en_ ec_; subst ea_; subst ec_; clear en_; have p515 : 0 ≤ (t494 : Int) := of_decide_eq_true (by first | (with_reducible assumption) | assumption); have q515 : t494 < ((rd_L1 t492 t497).length : Int) := of_decide_eq_true (by first | (with_reducible assumption) | assumption); obtain ⟨ad515, e515, hx515_0⟩ := Kd.at_int (by repeat (first | (with_reducible exact HR514_0.out) | (with_reducible refine Kd.C_alloc ?_ _) | (with_reducible refine Kd.C_drewN ?_ _) | (with_reducible refine Kd.C_drew ?_) | exact HR514_0.out)) t494 p515 q515; cases e515; replace p515 := eq_true p515; replace q515 := eq_true q515))
                    go_ret
                    exact ⟨by first | rfl | (simp [errW_none, errW_some] <;> rfl) | (simp [*, errW_none, errW_some] <;> rfl), by repeat (first | (with_reducible first | exact HB.out | apply below_alloc | apply pw_below_drewN | apply below_drew1) | exact HB.out)⟩
                  ·
                   rw [if_neg c34] at H
                   have c34b0 : (t508 == t497) = false := beq_eq_false_iff_ne.mpr c34
                   have c34b1 : (t508 != t497) = true := bne_iff_ne.mpr c34
                   obtain rfl := Option.some.inj H
                   go_wp2_with (first | ((with_reducible refine gate_callee (f := 29) rfl ?_); refine goesL_ (some 91) rfl rfl Try.func29 (by kernel_rfl) rfl #[.slice Ao8 t492.length co8, .int .i64 t494, .int .i64 t493] rfl (by (try simp only [List.map_toArray, List.map_cons, List.map_nil]); first | done | rfl | (simp only [List.length_drop, List.length_take]; rfl)) ?_; (with_reducible refine (impl_MeetOf.calls k2 _ _ t492 t494 t493 t508 true _ ?side1 ?side2 A23.out).mono ?_); (case side1 => repeat (first | exact (Kd.S_reads' HO_3.out).2.2 | (with_reducible refine Kd.C_alloc ?_ _) | (with_reducible refine Kd.C_drewN ?_ _) | (with_reducible refine Kd.C_drew ?_))); (case side2 => exact (Kd.S_reads' HO_3.out).2.1); rintro e w' ⟨rfl, ⟨nd, rfl⟩⟩; refine ⟨_, rfl, ?_⟩) | ((with_reducible refine gate_callee (f := 29) rfl ?_); refine goesL_ (some 98) rfl rfl Try.func29 (by kernel_rfl) rfl #[.slice Ao8 t492.length co8, .int .i64 t493, .int .i64 t493] rfl (by (try simp only [List.map_toArray, List.map_cons, List.map_nil]); first | done | rfl | (simp only [List.length_drop, List.length_take]; rfl)) ?_; (with_reducible refine (impl_MeetOf.calls k2 _ _ t492 t493 t493 t510 t511 _ ?side1 ?side2 A24.out).mono ?_); (case side1 => repeat (first | exact (Kd.S_reads' HO_3.out).2.2 | (with_reducible refine Kd.C_alloc ?_ _) | (with_reducible refine Kd.C_drewN ?_ _) | (with_reducible refine Kd.C_drew ?_))); (case side2 => exact (Kd.S_reads' HO_3.out).2.1); rintro e w' ⟨rfl, ⟨nd, rfl⟩⟩; refine ⟨_, rfl, ?_⟩; have p512 : 0 ≤ (t497 : Int) := of_decide_eq_true (by first | (with_reducible assumption) | assumption); have q512 : t497 < (t492.length : Int) := of_decide_eq_true (by first | (with_reducible assumption) | assumption); obtain ⟨ad512, A512_0, c512_0, e512, hx512_0, hl512_0, hi512_0⟩ := at_L1 (Kd.S_reads' HO_3.out).2.2 t497 p512 q512; cases e512; obtain ⟨ce512, hce512, hMe512, hcc512⟩ := Kd.S_get HO_3.out [] t497 p512 (by first | exact q512 | exact of_decide_eq_true (by first | (with_reducible assumption) | assumption) | (have e_ := (Kd.S_reads' HO_3.out).1; omega)); obtain ⟨ve512_0, rfl, ge512_0⟩ := hMe512; have hv512_0 := hcc512 0 _ rfl; rw [Nat.add_zero, show ((Kd.slice 3 (Kd.int .i64))).sz = 1 from rfl, Nat.mul_one] at hv512_0; replace hv512_0 := Option.some.inj (hv512_0.symm.trans hx512_0); rw [hv512_0] at ge512_0; have HL512_0 := Aside0.mk (show Kd.R (Kd.int .i64) 3 _ _ _ _ (rd_L1 t492 t497) from ge512_0); clear hv512_0 ge512_0; clear hcc512 hce512; have HR512_0 := Aside0.mk hi512_0; have HC512_0 := Aside0.mk hl512_0; clear hi512_0 hl512_0; replace p512 := eq_true p512; replace q512 := eq_true q512; have p513 : 0 ≤ (t493 : Int) := of_decide_eq_true (by first | (with_reducible assumption) | assumption); have q513 : t493 < ((rd_L1 t492 t497).length : Int) := of_decide_eq_true (by first | (with_reducible assumption) | assumption); obtain ⟨ad513, e513, hx513_0⟩ := Kd.at_int (by repeat (first | (with_reducible exact HR512_0.out) | (with_reducible refine Kd.C_alloc ?_ _) | (with_reducible refine Kd.C_drewN ?_ _) | (with_reducible refine Kd.C_drew ?_) | exact HR512_0.out)) t493 p513 q513; cases e513; replace p513 := eq_true p513; replace q513 := eq_true q513; have p514 : 0 ≤ (t497 : Int) := of_decide_eq_true (by first | (with_reducible assumption) | assumption); have q514 : t497 < (t492.length : Int) := of_decide_eq_true (by first | (with_reducible assumption) | assumption); obtain ⟨ad514, A514_0, c514_0, e514, hx514_0, hl514_0, hi514_0⟩ := at_L1 (Kd.S_reads' HO_3.out).2.2 t497 p514 q514; obtain rfl : ad512 = ad514 := (by injection e514); obtain ⟨ce514, hce514, hMe514, hcc514⟩ := Kd.S_get HO_3.out [] t497 p514 (by first | exact q514 | exact of_decide_eq_true (by first | (with_reducible assumption) | assumption) | (have e_ := (Kd.S_reads' HO_3.out).1; omega)); obtain ⟨ve514_0, rfl, ge514_0⟩ := hMe514; have hv514_0 := hcc514 0 _ rfl; rw [Nat.add_zero, show ((Kd.slice 3 (Kd.int .i64))).sz = 1 from rfl, Nat.mul_one] at hv514_0; replace hv514_0 := Option.some.inj (hv514_0.symm.trans hx514_0); rw [hv514_0] at ge514_0; have HL514_0 := Aside0.mk (show Kd.R (Kd.int .i64) 3 _ _ _ _ (rd_L1 t492 t497) from ge514_0); clear hv514_0 ge514_0; clear hcc514 hce514; have HR514_0 := Aside0.mk hi514_0; have HC514_0 := Aside0.mk hl514_0; clear hi514_0 hl514_0; replace p514 := eq_true p514; replace q514 := eq_true q514; have ea_ := Option.some.inj (hx512_0.symm.trans hx514_0); injection ea_ with ea_ en_ ec_; subst ea_; subst ec_; clear en_; have p515 : 0 ≤ (t494 : Int) := of_decide_eq_true (by first | (with_reducible assumption) | assumption); have q515 : t494 < ((rd_L1 t492 t497).length : Int) := of_decide_eq_true (by first | (with_reducible assumption) | assumption); obtain ⟨ad515, e515, hx515_0⟩ := Kd.at_int (by repeat (first | (with_reducible exact HR514_0.out) | (with_reducible refine Kd.C_alloc ?_ _) | (with_reducible refine Kd.C_drewN ?_ _) | (with_reducible refine Kd.C_drew ?_) | exact HR514_0.out)) t494 p515 q515; cases e515; replace p515 := eq_true p515; replace q515 := eq_true q515))
                   go_ret
                   exact ⟨by first | rfl | (simp [errW_none, errW_some] <;> rfl) | (simp [*, errW_none, errW_some] <;> rfl), by repeat (first | (with_reducible first | exact HB.out | apply below_alloc | apply pw_below_drewN | apply below_drew1) | exact HB.out)⟩
                 ·
                  replace c33 := Bool.eq_false_iff.mpr c33
                  subst c33
                  have H1 : (some false) = some r := by rw [if_neg (show ¬ (false = true) by decide)] at H; exact H
                  clear H
                  have H := H1
                  clear H1
                  obtain rfl := Option.some.inj H
                  go_wp2_with (first | ((with_reducible refine gate_callee (f := 29) rfl ?_); refine goesL_ (some 91) rfl rfl Try.func29 (by kernel_rfl) rfl #[.slice Ao8 t492.length co8, .int .i64 t494, .int .i64 t493] rfl (by (try simp only [List.map_toArray, List.map_cons, List.map_nil]); first | done | rfl | (simp only [List.length_drop, List.length_take]; rfl)) ?_; (with_reducible refine (impl_MeetOf.calls k2 _ _ t492 t494 t493 t508 false _ ?side1 ?side2 A23.out).mono ?_); (case side1 => repeat (first | exact (Kd.S_reads' HO_3.out).2.2 | (with_reducible refine Kd.C_alloc ?_ _) | (with_reducible refine Kd.C_drewN ?_ _) | (with_reducible refine Kd.C_drew ?_))); (case side2 => exact (Kd.S_reads' HO_3.out).2.1); rintro e w' ⟨rfl, ⟨nd, rfl⟩⟩; refine ⟨_, rfl, ?_⟩) | ((with_reducible refine gate_callee (f := 29) rfl ?_); refine goesL_ (some 98) rfl rfl Try.func29 (by kernel_rfl) rfl #[.slice Ao8 t492.length co8, .int .i64 t493, .int .i64 t493] rfl (by (try simp only [List.map_toArray, List.map_cons, List.map_nil]); first | done | rfl | (simp only [List.length_drop, List.length_take]; rfl)) ?_; (with_reducible refine (impl_MeetOf.calls k2 _ _ t492 t493 t493 t510 t511 _ ?side1 ?side2 A24.out).mono ?_); (case side1 => repeat (first | exact (Kd.S_reads' HO_3.out).2.2 | (with_reducible refine Kd.C_alloc ?_ _) | (with_reducible refine Kd.C_drewN ?_ _) | (with_reducible refine Kd.C_drew ?_))); (case side2 => exact (Kd.S_reads' HO_3.out).2.1); rintro e w' ⟨rfl, ⟨nd, rfl⟩⟩; refine ⟨_, rfl, ?_⟩; have p512 : 0 ≤ (t497 : Int) := of_decide_eq_true (by first | (with_reducible assumption) | assumption); have q512 : t497 < (t492.length : Int) := of_decide_eq_true (by first | (with_reducible assumption) | assumption); obtain ⟨ad512, A512_0, c512_0, e512, hx512_0, hl512_0, hi512_0⟩ := at_L1 (Kd.S_reads' HO_3.out).2.2 t497 p512 q512; cases e512; obtain ⟨ce512, hce512, hMe512, hcc512⟩ := Kd.S_get HO_3.out [] t497 p512 (by first | exact q512 | exact of_decide_eq_true (by first | (with_reducible assumption) | assumption) | (have e_ := (Kd.S_reads' HO_3.out).1; omega)); obtain ⟨ve512_0, rfl, ge512_0⟩ := hMe512; have hv512_0 := hcc512 0 _ rfl; rw [Nat.add_zero, show ((Kd.slice 3 (Kd.int .i64))).sz = 1 from rfl, Nat.mul_one] at hv512_0; replace hv512_0 := Option.some.inj (hv512_0.symm.trans hx512_0); rw [hv512_0] at ge512_0; have HL512_0 := Aside0.mk (show Kd.R (Kd.int .i64) 3 _ _ _ _ (rd_L1 t492 t497) from ge512_0); clear hv512_0 ge512_0; clear hcc512 hce512; have HR512_0 := Aside0.mk hi512_0; have HC512_0 := Aside0.mk hl512_0; clear hi512_0 hl512_0; replace p512 := eq_true p512; replace q512 := eq_true q512; have p513 : 0 ≤ (t493 : Int) := of_decide_eq_true (by first | (with_reducible assumption) | assumption); have q513 : t493 < ((rd_L1 t492 t497).length : Int) := of_decide_eq_true (by first | (with_reducible assumption) | assumption); obtain ⟨ad513, e513, hx513_0⟩ := Kd.at_int (by repeat (first | (with_reducible exact HR512_0.out) | (with_reducible refine Kd.C_alloc ?_ _) | (with_reducible refine Kd.C_drewN ?_ _) | (with_reducible refine Kd.C_drew ?_) | exact HR512_0.out)) t493 p513 q513; cases e513; replace p513 := eq_true p513; replace q513 := eq_true q513; have p514 : 0 ≤ (t497 : Int) := of_decide_eq_true (by first | (with_reducible assumption) | assumption); have q514 : t497 < (t492.length : Int) := of_decide_eq_true (by first | (with_reducible assumption) | assumption); obtain ⟨ad514, A514_0, c514_0, e514, hx514_0, hl514_0, hi514_0⟩ := at_L1 (Kd.S_reads' HO_3.out).2.2 t497 p514 q514; obtain rfl : ad512 = ad514 := (by injection e514); obtain ⟨ce514, hce514, hMe514, hcc514⟩ := Kd.S_get HO_3.out [] t497 p514 (by first | exact q514 | exact of_decide_eq_true (by first | (with_reducible assumption) | assumption) | (have e_ := (Kd.S_reads' HO_3.out).1; omega)); obtain ⟨ve514_0, rfl, ge514_0⟩ := hMe514; have hv514_0 := hcc514 0 _ rfl; rw [Nat.add_zero, show ((Kd.slice 3 (Kd.int .i64))).sz = 1 from rfl, Nat.mul_one] at hv514_0; replace hv514_0 := Option.some.inj (hv514_0.symm.trans hx514_0); rw [hv514_0] at ge514_0; have HL514_0 := Aside0.mk (show Kd.R (Kd.int .i64) 3 _ _ _ _ (rd_L1 t492 t497) from ge514_0); clear hv514_0 ge514_0; clear hcc514 hce514; have HR514_0 := Aside0.mk hi514_0; have HC514_0 := Aside0.mk hl514_0; clear hi514_0 hl514_0; replace p514 := eq_true p514; replace q514 := eq_true q514; have ea_ := Option.some.inj (hx512_0.symm.trans hx514_0); injection ea_ with ea_ en_ ec_; subst ea_; subst ec_; clear en_; have p515 : 0 ≤ (t494 : Int) := of_decide_eq_true (by first | (with_reducible assumption) | assumption); have q515 : t494 < ((rd_L1 t492 t497).length : Int) := of_decide_eq_true (by first | (with_reducible assumption) | assumption); obtain ⟨ad515, e515, hx515_0⟩ := Kd.at_int (by repeat (first | (with_reducible exact HR514_0.out) | (with_reducible refine Kd.C_alloc ?_ _) | (with_reducible refine Kd.C_drewN ?_ _) | (with_reducible refine Kd.C_drew ?_) | exact HR514_0.out)) t494 p515 q515; cases e515; replace p515 := eq_true p515; replace q515 := eq_true q515))
                  go_ret
                  exact ⟨by first | rfl | (simp [errW_none, errW_some] <;> rfl) | (simp [*, errW_none, errW_some] <;> rfl), by repeat (first | (with_reducible first | exact HB.out | apply below_alloc | apply pw_below_drewN | apply below_drew1) | exact HB.out)⟩
                ·
                 rw [if_neg c32] at H
                 have c32b0 : ((rd (rd_L1 t492 t497) t494) == 1) = false := beq_eq_false_iff_ne.mpr c32
                 have c32b1 : ((rd (rd_L1 t492 t497) t494) != 1) = true := bne_iff_ne.mpr c32
                 obtain rfl := Option.some.inj H
                 go_wp2_with (first | ((with_reducible refine gate_callee (f := 29) rfl ?_); refine goesL_ (some 91) rfl rfl Try.func29 (by kernel_rfl) rfl #[.slice Ao8 t492.length co8, .int .i64 t494, .int .i64 t493] rfl (by (try simp only [List.map_toArray, List.map_cons, List.map_nil]); first | done | rfl | (simp only [List.length_drop, List.length_take]; rfl)) ?_; (with_reducible refine (impl_MeetOf.calls k2 _ _ t492 t494 t493 t508 t509 _ ?side1 ?side2 A23.out).mono ?_); (case side1 => repeat (first | exact (Kd.S_reads' HO_3.out).2.2 | (with_reducible refine Kd.C_alloc ?_ _) | (with_reducible refine Kd.C_drewN ?_ _) | (with_reducible refine Kd.C_drew ?_))); (case side2 => exact (Kd.S_reads' HO_3.out).2.1); rintro e w' ⟨rfl, ⟨nd, rfl⟩⟩; refine ⟨_, rfl, ?_⟩) | ((with_reducible refine gate_callee (f := 29) rfl ?_); refine goesL_ (some 98) rfl rfl Try.func29 (by kernel_rfl) rfl #[.slice Ao8 t492.length co8, .int .i64 t493, .int .i64 t493] rfl (by (try simp only [List.map_toArray, List.map_cons, List.map_nil]); first | done | rfl | (simp only [List.length_drop, List.length_take]; rfl)) ?_; (with_reducible refine (impl_MeetOf.calls k2 _ _ t492 t493 t493 t510 t511 _ ?side1 ?side2 A24.out).mono ?_); (case side1 => repeat (first | exact (Kd.S_reads' HO_3.out).2.2 | (with_reducible refine Kd.C_alloc ?_ _) | (with_reducible refine Kd.C_drewN ?_ _) | (with_reducible refine Kd.C_drew ?_))); (case side2 => exact (Kd.S_reads' HO_3.out).2.1); rintro e w' ⟨rfl, ⟨nd, rfl⟩⟩; refine ⟨_, rfl, ?_⟩; have p512 : 0 ≤ (t497 : Int) := of_decide_eq_true (by first | (with_reducible assumption) | assumption); have q512 : t497 < (t492.length : Int) := of_decide_eq_true (by first | (with_reducible assumption) | assumption); obtain ⟨ad512, A512_0, c512_0, e512, hx512_0, hl512_0, hi512_0⟩ := at_L1 (Kd.S_reads' HO_3.out).2.2 t497 p512 q512; cases e512; obtain ⟨ce512, hce512, hMe512, hcc512⟩ := Kd.S_get HO_3.out [] t497 p512 (by first | exact q512 | exact of_decide_eq_true (by first | (with_reducible assumption) | assumption) | (have e_ := (Kd.S_reads' HO_3.out).1; omega)); obtain ⟨ve512_0, rfl, ge512_0⟩ := hMe512; have hv512_0 := hcc512 0 _ rfl; rw [Nat.add_zero, show ((Kd.slice 3 (Kd.int .i64))).sz = 1 from rfl, Nat.mul_one] at hv512_0; replace hv512_0 := Option.some.inj (hv512_0.symm.trans hx512_0); rw [hv512_0] at ge512_0; have HL512_0 := Aside0.mk (show Kd.R (Kd.int .i64) 3 _ _ _ _ (rd_L1 t492 t497) from ge512_0); clear hv512_0 ge512_0; clear hcc512 hce512; have HR512_0 := Aside0.mk hi512_0; have HC512_0 := Aside0.mk hl512_0; clear hi512_0 hl512_0; replace p512 := eq_true p512; replace q512 := eq_true q512; have p513 : 0 ≤ (t493 : Int) := of_decide_eq_true (by first | (with_reducible assumption) | assumption); have q513 : t493 < ((rd_L1 t492 t497).length : Int) := of_decide_eq_true (by first | (with_reducible assumption) | assumption); obtain ⟨ad513, e513, hx513_0⟩ := Kd.at_int (by repeat (first | (with_reducible exact HR512_0.out) | (with_reducible refine Kd.C_alloc ?_ _) | (with_reducible refine Kd.C_drewN ?_ _) | (with_reducible refine Kd.C_drew ?_) | exact HR512_0.out)) t493 p513 q513; cases e513; replace p513 := eq_true p513; replace q513 := eq_true q513; have p514 : 0 ≤ (t497 : Int) := of_decide_eq_true (by first | (with_reducible assumption) | assumption); have q514 : t497 < (t492.length : Int) := of_decide_eq_true (by first | (with_reducible assumption) | assumption); obtain ⟨ad514, A514_0, c514_0, e514, hx514_0, hl514_0, hi514_0⟩ := at_L1 (Kd.S_reads' HO_3.out).2.2 t497 p514 q514; obtain rfl : ad512 = ad514 := (by injection e514); obtain ⟨ce514, hce514, hMe514, hcc514⟩ := Kd.S_get HO_3.out [] t497 p514 (by first | exact q514 | exact of_decide_eq_true (by first | (with_reducible assumption) | assumption) | (have e_ := (Kd.S_reads' HO_3.out).1; omega)); obtain ⟨ve514_0, rfl, ge514_0⟩ := hMe514; have hv514_0 := hcc514 0 _ rfl; rw [Nat.add_zero, show ((Kd.slice 3 (Kd.int .i64))).sz = 1 from rfl, Nat.mul_one] at hv514_0; replace hv514_0 := Option.some.inj (hv514_0.symm.trans hx514_0); rw [hv514_0] at ge514_0; have HL514_0 := Aside0.mk (show Kd.R (Kd.int .i64) 3 _ _ _ _ (rd_L1 t492 t497) from ge514_0); clear hv514_0 ge514_0; clear hcc514 hce514; have HR514_0 := Aside0.mk hi514_0; have HC514_0 := Aside0.mk hl514_0; clear hi514_0 hl514_0; replace p514 := eq_true p514; replace q514 := eq_true q514; have ea_ := Option.some.inj (hx512_0.symm.trans hx514_0); injection ea_ with ea_ en_ ec_; subst ea_; subst ec_; clear en_; have p515 : 0 ≤ (t494 : Int) := of_decide_eq_true (by first | (with_reducible assumption) | assumption); have q515 : t494 < ((rd_L1 t492 t497).length : Int) := of_decide_eq_true (by first | (with_reducible assumption) | assumption); obtain ⟨ad515, e515, hx515_0⟩ := Kd.at_int (by repeat (first | (with_reducible exact HR514_0.out) | (with_reducible refine Kd.C_alloc ?_ _) | (with_reducible refine Kd.C_drewN ?_ _) | (with_reducible refine Kd.C_drew ?_) | exact HR514_0.out)) t494 p515 q515; cases e515; replace p515 := eq_true p515; replace q515 := eq_true q515))
                 go_ret
                 exact ⟨by first | rfl | (simp [errW_none, errW_some] <;> rfl) | (simp [*, errW_none, errW_some] <;> rfl), by repeat (first | (with_reducible first | exact HB.out | apply below_alloc | apply pw_below_drewN | apply below_drew1) | exact HB.out)⟩
               ·
                rw [if_neg c31] at H
                exact absurd H (by simp)
              ·
               rw [if_neg c30] at H
               exact absurd H (by simp)
             ·
              rw [if_neg c29] at H
              have c29b0 : ((rd (rd_L1 t492 t497) t493) == 1) = false := beq_eq_false_iff_ne.mpr c29
              have c29b1 : ((rd (rd_L1 t492 t497) t493) != 1) = true := bne_iff_ne.mpr c29
              obtain rfl := Option.some.inj H
              go_wp2_with (first | ((with_reducible refine gate_callee (f := 29) rfl ?_); refine goesL_ (some 91) rfl rfl Try.func29 (by kernel_rfl) rfl #[.slice Ao8 t492.length co8, .int .i64 t494, .int .i64 t493] rfl (by (try simp only [List.map_toArray, List.map_cons, List.map_nil]); first | done | rfl | (simp only [List.length_drop, List.length_take]; rfl)) ?_; (with_reducible refine (impl_MeetOf.calls k2 _ _ t492 t494 t493 t508 t509 _ ?side1 ?side2 A23.out).mono ?_); (case side1 => repeat (first | exact (Kd.S_reads' HO_3.out).2.2 | (with_reducible refine Kd.C_alloc ?_ _) | (with_reducible refine Kd.C_drewN ?_ _) | (with_reducible refine Kd.C_drew ?_))); (case side2 => exact (Kd.S_reads' HO_3.out).2.1); rintro e w' ⟨rfl, ⟨nd, rfl⟩⟩; refine ⟨_, rfl, ?_⟩) | ((with_reducible refine gate_callee (f := 29) rfl ?_); refine goesL_ (some 98) rfl rfl Try.func29 (by kernel_rfl) rfl #[.slice Ao8 t492.length co8, .int .i64 t493, .int .i64 t493] rfl (by (try simp only [List.map_toArray, List.map_cons, List.map_nil]); first | done | rfl | (simp only [List.length_drop, List.length_take]; rfl)) ?_; (with_reducible refine (impl_MeetOf.calls k2 _ _ t492 t493 t493 t510 t511 _ ?side1 ?side2 A24.out).mono ?_); (case side1 => repeat (first | exact (Kd.S_reads' HO_3.out).2.2 | (with_reducible refine Kd.C_alloc ?_ _) | (with_reducible refine Kd.C_drewN ?_ _) | (with_reducible refine Kd.C_drew ?_))); (case side2 => exact (Kd.S_reads' HO_3.out).2.1); rintro e w' ⟨rfl, ⟨nd, rfl⟩⟩; refine ⟨_, rfl, ?_⟩; have p512 : 0 ≤ (t497 : Int) := of_decide_eq_true (by first | (with_reducible assumption) | assumption); have q512 : t497 < (t492.length : Int) := of_decide_eq_true (by first | (with_reducible assumption) | assumption); obtain ⟨ad512, A512_0, c512_0, e512, hx512_0, hl512_0, hi512_0⟩ := at_L1 (Kd.S_reads' HO_3.out).2.2 t497 p512 q512; cases e512; obtain ⟨ce512, hce512, hMe512, hcc512⟩ := Kd.S_get HO_3.out [] t497 p512 (by first | exact q512 | exact of_decide_eq_true (by first | (with_reducible assumption) | assumption) | (have e_ := (Kd.S_reads' HO_3.out).1; omega)); obtain ⟨ve512_0, rfl, ge512_0⟩ := hMe512; have hv512_0 := hcc512 0 _ rfl; rw [Nat.add_zero, show ((Kd.slice 3 (Kd.int .i64))).sz = 1 from rfl, Nat.mul_one] at hv512_0; replace hv512_0 := Option.some.inj (hv512_0.symm.trans hx512_0); rw [hv512_0] at ge512_0; have HL512_0 := Aside0.mk (show Kd.R (Kd.int .i64) 3 _ _ _ _ (rd_L1 t492 t497) from ge512_0); clear hv512_0 ge512_0; clear hcc512 hce512; have HR512_0 := Aside0.mk hi512_0; have HC512_0 := Aside0.mk hl512_0; clear hi512_0 hl512_0; replace p512 := eq_true p512; replace q512 := eq_true q512; have p513 : 0 ≤ (t493 : Int) := of_decide_eq_true (by first | (with_reducible assumption) | assumption); have q513 : t493 < ((rd_L1 t492 t497).length : Int) := of_decide_eq_true (by first | (with_reducible assumption) | assumption); obtain ⟨ad513, e513, hx513_0⟩ := Kd.at_int (by repeat (first | (with_reducible exact HR512_0.out) | (with_reducible refine Kd.C_alloc ?_ _) | (with_reducible refine Kd.C_drewN ?_ _) | (with_reducible refine Kd.C_drew ?_) | exact HR512_0.out)) t493 p513 q513; cases e513; replace p513 := eq_true p513; replace q513 := eq_true q513))
              go_ret
              exact ⟨by first | rfl | (simp [errW_none, errW_some] <;> rfl) | (simp [*, errW_none, errW_some] <;> rfl), by repeat (first | (with_reducible first | exact HB.out | apply below_alloc | apply pw_below_drewN | apply below_drew1) | exact HB.out)⟩
            ·
             rw [if_neg c28] at H
             exact absurd H (by simp)
           ·
            rw [if_neg c27] at H
            exact absurd H (by simp)
          ·
           rw [if_neg c26] at H
           exact absurd H (by simp)
         ·
          rw [if_neg c25] at H
          exact absurd H (by simp)
     ·
      replace c11 := Bool.eq_false_iff.mpr c11
      subst c11
      have H1 : (if t497 = (-1) then ((laws_alive.f kj5).bind fun t501 => (some t501)) else (some false)) = some r := by rw [if_neg (show ¬ (false = true) by decide)] at H; exact H
      clear H
      have H := H1
      clear H1
      by_cases c36 : t497 = (-1)
      ·
       rw [if_pos c36] at H
       have c36b0 : (t497 == (-1)) = true := beq_iff_eq.mpr c36
       have c36b1 : (t497 != (-1)) = false := bne_eq_false_iff_eq.mpr c36
       clear c36
       replace H := Option.bind_eq_some_iff.mp H
       obtain ⟨t501, A370, H⟩ := H
       replace H : (some t501) = some r := H
       have A37 := Aside0.mk A370
       clear A370
       obtain rfl := Option.some.inj H
       go_wp2_with (first | (go_at_call 27; (with_reducible refine (laws_alive.calls kj5  t501 _ A37.out).mono ?_); rintro e w38 ⟨rfl, hb⟩; have n0_ := Aside0.mk (Kd.S_below (by (with_reducible repeat (first | apply Kd.S_alloc | apply Kd.S_drewN | apply Kd.S_drew)); exact HO_3.out) hb); have n1_ := Aside0.mk (below_step (by repeat (first | (with_reducible first | exact HB.out | apply below_alloc | apply pw_below_drewN | apply below_drew1) | exact HB.out)) hb); clear HO_3; clear HB; have HO_3 := n0_; have HB := n1_; clear n0_ n1_; (try clear hb); (try clear hb2); (try clear hk); (try clear hi)))
       go_ret
       exact ⟨by first | rfl | (simp [errW_none, errW_some] <;> rfl) | (simp [*, errW_none, errW_some] <;> rfl), by repeat (first | (with_reducible first | exact HB.out | apply below_alloc | apply pw_below_drewN | apply below_drew1) | exact HB.out)⟩
      ·
       rw [if_neg c36] at H
       have c36b0 : (t497 == (-1)) = false := beq_eq_false_iff_ne.mpr c36
       have c36b1 : (t497 != (-1)) = true := bne_iff_ne.mpr c36
       obtain rfl := Option.some.inj H
       go_wp2
       go_ret
       exact ⟨by first | rfl | (simp [errW_none, errW_some] <;> rfl) | (simp [*, errW_none, errW_some] <;> rfl), by repeat (first | (with_reducible first | exact HB.out | apply below_alloc | apply pw_below_drewN | apply below_drew1) | exact HB.out)⟩

theorem laws_FnMeetOf.walk (P : laws_FnMeetOf.Pure) (a0 : Option Addr) (len0 cap0 : Nat) (z0 : List Int) (w : World) (w0 : (a0 = none ∧ len0 = 0 ∧ cap0 = 0 ∧ z0 = []) ∨ ∃ x, a0 = some x ∧ len0 ≤ cap0 ∧ cap0 ≤ maxLen ∧ z0.length = cap0 ∧ (∀ i, i < z0.length → w.cell? (x.add i) = some (.int .u8 (z0.getD i 0))) ∧ ∀ n ∈ z0, (Lit.int .u8 n).wf = true) (y0 : len0 * 1 ≤ 140737488351232) :
  Calls Try.prog 11 #[.slice a0 len0 cap0] w fun e w' => e = .returned (.bool true) ∧ Below w.heap.size w w' := by
 obtain ⟨l0, rfl, hr0, hm0, hw0, hc0⟩ := ReadsInt.ofRowC w0
 obtain ⟨k, h⟩ := P l0 hm0 y0 hw0
 refine (laws_FnMeetOf.calls k _ _ l0 true w (Kd.C_of_reads (d := (0 : Int)) (h1 := fun _ => rfl) hr0) hc0 h).mono ?_
 rintro e w' ⟨rfl, hd⟩
 exact ⟨rfl, hd⟩

end Go.Proofs.Ytilgbnbeonlbnaa.P
