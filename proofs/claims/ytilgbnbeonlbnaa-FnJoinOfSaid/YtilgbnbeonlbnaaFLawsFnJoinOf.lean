-- written by gen.py (a program of this session) out of the kit's print of this seat's translation
import Derived.Test.YtilgbnbeonlbnaaI
import Derived.Test.YtilgbnbeonlbnaaD
import Derived.Test.YtilgbnbeonlbnaaFImplJoinOf
import Derived.Test.YtilgbnbeonlbnaaFImplMeetOf
import Derived.Test.YtilgbnbeonlbnaaFImplTurnedOf
import Derived.Test.YtilgbnbeonlbnaaFLawsAlive
import Derived.Test.YtilgbnbeonlbnaaFSpecDrawJoinOf
import Derived.Test.YtilgbnbeonlbnaaFSpecJoinOf
namespace Go.Proofs.Ytilgbnbeonlbnaa.P
open Go.RowKit Go.Proofs.YtilgbnbeonlbnaaW.PrintWords Go.Proofs.YtilgbnbeonlbnaaW.PrintLast Go.Proofs.YtilgbnbeonlbnaaW.PrintMore
attribute [local go_sem] max2_int min2_int max_two min_two max_three min_three max_four min_four
set_option linter.unusedVariables false
set_option linter.unusedSimpArgs false
set_option maxHeartbeats 8000000 in
set_option maxRecDepth 100000 in
theorem laws_FnJoinOf.calls (k : Nat) (A0 : Option Addr) (c0 : Nat) (l0 : List Int) (r : Bool) (w : World) (hr0 : Kd.C (Kd.int .u8) w A0 l0.length l0) (hc0 : l0.length ≤ c0) (h : laws_FnJoinOf.f k l0 = some r) :
  Calls Try.prog 15 #[.slice A0 l0.length c0] w fun e w' => e = .returned (.bool r) ∧ Below w.heap.size w w' := by
 have HR0 := Aside0.mk hr0
 have HC0 := Aside0.mk hc0
 clear hr0 hc0
 have HB := Aside0.mk (Below.refl w.heap.size w)
 have H : (if (l0.length : Int) > 1048576 then (some true) else ((spec_DrawJoinOf.f k l0).bind fun bt605 => ((impl_JoinOf.f k bt605.1 bt605.2.1 bt605.2.2).bind fun bt610 => ((spec_JoinOf.f k bt605.1 bt605.2.1 bt605.2.2).bind fun bt612 => (if bt610.1 = bt612.1 then (laws_FnJoinOf.j0 k bt605.1 bt605.2.1 bt605.2.2 bt610.1 bt610.2 (bt610.2 != bt612.2)) else (laws_FnJoinOf.j0 k bt605.1 bt605.2.1 bt605.2.2 bt610.1 bt610.2 true)))))) = some r := h
 clear h
 by_cases c2 : (l0.length : Int) > 1048576
 ·
  rw [if_pos c2] at H
  have c2b0 : decide (1048576 < (l0.length : Int)) = true := decide_eq_true c2
  have c2b1 : decide (1048576 < l0.length) = true := decide_eq_true (by omega)
  clear c2
  obtain rfl := Option.some.inj H
  go_enter Try.func15, Try.ntmps15
  go_wp2
  go_ret
  exact ⟨by first | rfl | (simp [errW_none, errW_some] <;> rfl) | (simp [*, errW_none, errW_some] <;> rfl), by repeat (first | (with_reducible first | exact HB.out | apply below_alloc | apply pw_below_drewN | apply below_drew1) | exact HB.out)⟩
 ·
  rw [if_neg c2] at H
  have c2b0 : decide (1048576 < (l0.length : Int)) = false := decide_eq_false c2
  have c2b1 : decide (1048576 < l0.length) = false := decide_eq_false (by omega)
  clear c2
  replace H := Option.bind_eq_some_iff.mp H
  obtain ⟨⟨t605, t606, t607⟩, A30, H⟩ := H
  replace H : ((impl_JoinOf.f k t605 t606 t607).bind fun bt610 => ((spec_JoinOf.f k t605 t606 t607).bind fun bt612 => (if bt610.1 = bt612.1 then (laws_FnJoinOf.j0 k t605 t606 t607 bt610.1 bt610.2 (bt610.2 != bt612.2)) else (laws_FnJoinOf.j0 k t605 t606 t607 bt610.1 bt610.2 true)))) = some r := H
  have A3 := Aside0.mk A30
  clear A30
  replace H := Option.bind_eq_some_iff.mp H
  obtain ⟨⟨t610, t611⟩, A40, H⟩ := H
  replace H : ((spec_JoinOf.f k t605 t606 t607).bind fun bt612 => (if t610 = bt612.1 then (laws_FnJoinOf.j0 k t605 t606 t607 t610 t611 (t611 != bt612.2)) else (laws_FnJoinOf.j0 k t605 t606 t607 t610 t611 true))) = some r := H
  have A4 := Aside0.mk A40
  clear A40
  replace H := Option.bind_eq_some_iff.mp H
  obtain ⟨⟨t612, t613⟩, A50, H⟩ := H
  replace H : (if t610 = t612 then (laws_FnJoinOf.j0 k t605 t606 t607 t610 t611 (t611 != t613)) else (laws_FnJoinOf.j0 k t605 t606 t607 t610 t611 true)) = some r := H
  have A5 := Aside0.mk A50
  clear A50
  have HC6 := Aside0.mk H
  clear H
  go_enter Try.func15, Try.ntmps15
  go_upto_region 6 with (first | ((with_reducible refine gate_callee (f := 46) rfl ?_); refine goesL_ (some 17) rfl rfl Try.func46 (by kernel_rfl) rfl #[.slice A0 l0.length c0] rfl (by (try simp only [List.map_toArray, List.map_cons, List.map_nil]); first | done | rfl | (simp only [List.length_drop, List.length_take]; rfl)) ?_; (with_reducible refine (spec_DrawJoinOf.calls k _ _ l0 t605 t606 t607 _ ?side1 ?side2 A3.out).mono ?_); (case side1 => repeat (first | exact HR0.out | (with_reducible refine Kd.C_alloc ?_ _) | (with_reducible refine Kd.C_drewN ?_ _) | (with_reducible refine Kd.C_drew ?_))); (case side2 => exact HC0.out); rintro e w7 ⟨v608, rfl, ho0, hb⟩; refine ⟨_, rfl, ?_⟩; have n0_ := Aside0.mk (Kd.S_lower ho0 (below_size (by repeat (first | (with_reducible first | exact HB.out | apply below_alloc | apply pw_below_drewN | apply below_drew1) | exact HB.out)))); have n1_ := Aside0.mk (below_step (by repeat (first | (with_reducible first | exact HB.out | apply below_alloc | apply pw_below_drewN | apply below_drew1) | exact HB.out)) hb); clear HB; have HO609 := n0_; have HB := n1_; clear n0_ n1_; (try clear hb); (try clear hb2); (try clear hk); (try clear hi); (try clear ho0); obtain ⟨Ao8, co8, eo8⟩ := Kd.S_slice HO609.out; subst eo8) | ((with_reducible refine gate_callee (f := 34) rfl ?_); refine goesL_ (some 25) rfl rfl Try.func34 (by kernel_rfl) rfl #[.slice Ao8 t605.length co8, .int .i64 t606, .int .i64 t607] rfl (by (try simp only [List.map_toArray, List.map_cons, List.map_nil]); first | done | rfl | (simp only [List.length_drop, List.length_take]; rfl)) ?_; (with_reducible refine (impl_JoinOf.calls k _ _ t605 t606 t607 t610 t611 _ ?side1 ?side2 A4.out).mono ?_); (case side1 => repeat (first | exact (Kd.S_reads' HO609.out).2.2 | (with_reducible refine Kd.C_alloc ?_ _) | (with_reducible refine Kd.C_drewN ?_ _) | (with_reducible refine Kd.C_drew ?_))); (case side2 => exact (Kd.S_reads' HO609.out).2.1); rintro e w9 ⟨rfl, hb⟩; refine ⟨_, rfl, ?_⟩; have n0_ := Aside0.mk (Kd.S_below (by (with_reducible repeat (first | apply Kd.S_alloc | apply Kd.S_drewN | apply Kd.S_drew)); exact HO609.out) hb); have n1_ := Aside0.mk (below_step (by repeat (first | (with_reducible first | exact HB.out | apply below_alloc | apply pw_below_drewN | apply below_drew1) | exact HB.out)) hb); clear HO609; clear HB; have HO609 := n0_; have HB := n1_; clear n0_ n1_; (try clear hb); (try clear hb2); (try clear hk); (try clear hi)) | ((with_reducible refine gate_callee (f := 33) rfl ?_); refine goesL_ (some 32) rfl rfl Try.func33 (by kernel_rfl) rfl #[.slice Ao8 t605.length co8, .int .i64 t606, .int .i64 t607] rfl (by (try simp only [List.map_toArray, List.map_cons, List.map_nil]); first | done | rfl | (simp only [List.length_drop, List.length_take]; rfl)) ?_; (with_reducible refine (spec_JoinOf.calls k _ _ t605 t606 t607 t612 t613 _ ?side1 ?side2 A5.out).mono ?_); (case side1 => repeat (first | exact (Kd.S_reads' HO609.out).2.2 | (with_reducible refine Kd.C_alloc ?_ _) | (with_reducible refine Kd.C_drewN ?_ _) | (with_reducible refine Kd.C_drew ?_))); (case side2 => exact (Kd.S_reads' HO609.out).2.1); rintro e w' ⟨rfl, ⟨nd, rfl⟩⟩; refine ⟨_, rfl, ?_⟩))
  (try simp only [Act.put, List.setIfInBounds_toArray, List.set_cons_zero, List.set_cons_succ])
  go_cut [42] (fun v42 wc => ∃ (kq : Nat) (x42_5 : Bool), v42 = .bool x42_5 ∧ Aside0 (laws_FnJoinOf.j0 kq t605 t606 t607 t610 t611 x42_5 = some r) ∧ Aside0 (kq ≤ k) ∧ Aside0 (Kd.S (Kd.slice 3 (Kd.int .i64)) 32 wc w.heap.size (fun _ => True) (.slice Ao8 t605.length co8) t605) ∧ Aside0 (Below w.heap.size w wc))
  case first =>
   have H := HC6.out
   clear HC6
   by_cases c10 : t610 = t612
   ·
    rw [if_pos c10] at H
    have c10b0 : (t610 == t612) = true := beq_iff_eq.mpr c10
    have c10b1 : (t610 != t612) = false := bne_eq_false_iff_eq.mpr c10
    clear c10
    (first | rw [c10b0] | (simp only [i64_w, i32_w]; rw [c10b0]) | skip)
    have H' := Aside0.mk H
    clear H
    go_wp2
    go_meet
    case rel => exact ⟨_, ((t611 != t613)), (by first | rfl | (simp; done) | (simp [*]; done)), H', ⟨by first | omega | exact Nat.le_refl _⟩, ⟨by (with_reducible repeat (first | apply Kd.S_alloc | apply Kd.S_drewN | apply Kd.S_drew)); exact HO609.out⟩, ⟨by repeat (first | (with_reducible first | exact HB.out | apply below_alloc | apply pw_below_drewN | apply below_drew1) | exact HB.out)⟩⟩
   ·
    rw [if_neg c10] at H
    have c10b0 : (t610 == t612) = false := beq_eq_false_iff_ne.mpr c10
    have c10b1 : (t610 != t612) = true := bne_iff_ne.mpr c10
    (first | rw [c10b0] | (simp only [i64_w, i32_w]; rw [c10b0]) | skip)
    have H' := Aside0.mk H
    clear H
    go_wp2
    go_meet
    case rel => exact ⟨_, (true), (by first | rfl | (simp; done) | (simp [*]; done)), H', ⟨by first | omega | exact Nat.le_refl _⟩, ⟨by (with_reducible repeat (first | apply Kd.S_alloc | apply Kd.S_drewN | apply Kd.S_drew)); exact HO609.out⟩, ⟨by repeat (first | (with_reducible first | exact HB.out | apply below_alloc | apply pw_below_drewN | apply below_drew1) | exact HB.out)⟩⟩
  case rest =>
   clear HC6
   try clear c1
   try clear c2
   try clear c2b0
   try clear c2b1
   try clear p2
   try clear c3
   try clear c4
   try clear c10
   try clear c10b0
   try clear c10b1
   obtain ⟨kq, x42_5, rfl, HA, HJ5, HO_3, HB⟩ := hcut
   cases kq with
   | zero => exact absurd HA.out (by simp [laws_FnJoinOf.j0])
   | succ kj5 =>
    have H := HA.out
    clear HA
    simp only [laws_FnJoinOf.j0] at H
    by_cases c11 : x42_5 = true
    ·
     subst c11
     have H1 : (some false) = some r := by rw [if_pos rfl] at H; exact H
     clear H
     have H := H1
     clear H1
     obtain rfl := Option.some.inj H
     go_wp2
     go_ret
     exact ⟨by first | rfl | (simp [errW_none, errW_some] <;> rfl) | (simp [*, errW_none, errW_some] <;> rfl), by repeat (first | (with_reducible first | exact HB.out | apply below_alloc | apply pw_below_drewN | apply below_drew1) | exact HB.out)⟩
    ·
     replace c11 := Bool.eq_false_iff.mpr c11
     subst c11
     have H1 : ((impl_TurnedOf.f kj5 t605).bind fun t614 => ((impl_MeetOf.f kj5 t614 t606 t607).bind fun bt617 => (if bt617.1 = t610 then (laws_FnJoinOf.j1 kj5 t605 t606 t607 t610 t611 (bt617.2 != t611)) else (laws_FnJoinOf.j1 kj5 t605 t606 t607 t610 t611 true)))) = some r := by rw [if_neg (show ¬ (false = true) by decide)] at H; exact H
     clear H
     have H := H1
     clear H1
     replace H := Option.bind_eq_some_iff.mp H
     obtain ⟨t614, A120, H⟩ := H
     replace H : ((impl_MeetOf.f kj5 t614 t606 t607).bind fun bt617 => (if bt617.1 = t610 then (laws_FnJoinOf.j1 kj5 t605 t606 t607 t610 t611 (bt617.2 != t611)) else (laws_FnJoinOf.j1 kj5 t605 t606 t607 t610 t611 true))) = some r := H
     have A12 := Aside0.mk A120
     clear A120
     replace H := Option.bind_eq_some_iff.mp H
     obtain ⟨⟨t617, t618⟩, A130, H⟩ := H
     replace H : (if t617 = t610 then (laws_FnJoinOf.j1 kj5 t605 t606 t607 t610 t611 (t618 != t611)) else (laws_FnJoinOf.j1 kj5 t605 t606 t607 t610 t611 true)) = some r := H
     have A13 := Aside0.mk A130
     clear A130
     have HC14 := Aside0.mk H
     clear H
     go_upto_region 9 with (first | ((with_reducible refine gate_callee (f := 26) rfl ?_); refine goesL_ (some 45) rfl rfl Try.func26 (by kernel_rfl) rfl #[.slice Ao8 t605.length co8] rfl (by (try simp only [List.map_toArray, List.map_cons, List.map_nil]); first | done | rfl | (simp only [List.length_drop, List.length_take]; rfl)) ?_; (with_reducible refine (impl_TurnedOf.calls kj5 _ _ t605 t614 _ ?side1 ?side2 A12.out).mono ?_); (case side1 => repeat (first | exact (Kd.S_reads' HO_3.out).2.2 | (with_reducible refine Kd.C_alloc ?_ _) | (with_reducible refine Kd.C_drewN ?_ _) | (with_reducible refine Kd.C_drew ?_))); (case side2 => exact (Kd.S_reads' HO_3.out).2.1); rintro e w15 ⟨v615, rfl, ho0, hb⟩; refine ⟨_, rfl, ?_⟩; have n0_ := Aside0.mk (Kd.S_elder' (by (with_reducible repeat (first | apply Kd.S_alloc | apply Kd.S_drewN | apply Kd.S_drew)); exact HO_3.out) (Kd.S_base ho0) hb); have n1_ := Aside0.mk (Kd.S_lower (Kd.S_new' ho0 (Kd.S_lt (by (with_reducible repeat (first | apply Kd.S_alloc | apply Kd.S_drewN | apply Kd.S_drew)); exact HO_3.out))) (below_size (by repeat (first | (with_reducible first | exact HB.out | apply below_alloc | apply pw_below_drewN | apply below_drew1) | exact HB.out)))); have n2_ := Aside0.mk (below_step (by repeat (first | (with_reducible first | exact HB.out | apply below_alloc | apply pw_below_drewN | apply below_drew1) | exact HB.out)) hb); clear HO_3; clear HB; have HO_3 := n0_; have HO616 := n1_; have HB := n2_; clear n0_ n1_ n2_; (try clear hb); (try clear hb2); (try clear hk); (try clear hi); (try clear ho0); obtain ⟨Ao16, co16, eo16⟩ := Kd.S_slice HO616.out; subst eo16) | ((with_reducible refine gate_callee (f := 29) rfl ?_); refine goesL_ (some 48) rfl rfl Try.func29 (by kernel_rfl) rfl #[.slice Ao16 t614.length co16, .int .i64 t606, .int .i64 t607] rfl (by (try simp only [List.map_toArray, List.map_cons, List.map_nil]); first | done | rfl | (simp only [List.length_drop, List.length_take]; rfl)) ?_; (with_reducible refine (impl_MeetOf.calls kj5 _ _ t614 t606 t607 t617 t618 _ ?side1 ?side2 A13.out).mono ?_); (case side1 => repeat (first | exact (Kd.S_reads' HO616.out).2.2 | (with_reducible refine Kd.C_alloc ?_ _) | (with_reducible refine Kd.C_drewN ?_ _) | (with_reducible refine Kd.C_drew ?_))); (case side2 => exact (Kd.S_reads' HO616.out).2.1); rintro e w' ⟨rfl, ⟨nd, rfl⟩⟩; refine ⟨_, rfl, ?_⟩))
     (try simp only [Act.put, List.setIfInBounds_toArray, List.set_cons_zero, List.set_cons_succ])
     go_cut [58] (fun v58 wc => ∃ (kq : Nat) (x58_13 : Bool), v58 = .bool x58_13 ∧ Aside0 (laws_FnJoinOf.j1 kq t605 t606 t607 t610 t611 x58_13 = some r) ∧ Aside0 (kq ≤ kj5) ∧ Aside0 (Kd.S (Kd.slice 3 (Kd.int .i64)) 32 wc w.heap.size (fun _ => True) (.slice Ao8 t605.length co8) t605) ∧ Aside0 (Below w.heap.size w wc))
     case first =>
      have H := HC14.out
      clear HC14
      by_cases c17 : t617 = t610
      ·
       rw [if_pos c17] at H
       have c17b0 : (t617 == t610) = true := beq_iff_eq.mpr c17
       have c17b1 : (t617 != t610) = false := bne_eq_false_iff_eq.mpr c17
       clear c17
       (first | rw [c17b0] | (simp only [i64_w, i32_w]; rw [c17b0]) | skip)
       have H' := Aside0.mk H
       clear H
       go_wp2
       go_meet
       case rel => exact ⟨_, ((t618 != t611)), (by first | rfl | (simp; done) | (simp [*]; done)), H', ⟨by have := HJ5.out; first | omega | exact Nat.le_refl _⟩, ⟨by (with_reducible repeat (first | apply Kd.S_alloc | apply Kd.S_drewN | apply Kd.S_drew)); exact Kd.S_mono HO_3.out (fun _ hk => trivial)⟩, ⟨by repeat (first | (with_reducible first | exact HB.out | apply below_alloc | apply pw_below_drewN | apply below_drew1) | exact HB.out)⟩⟩
      ·
       rw [if_neg c17] at H
       have c17b0 : (t617 == t610) = false := beq_eq_false_iff_ne.mpr c17
       have c17b1 : (t617 != t610) = true := bne_iff_ne.mpr c17
       (first | rw [c17b0] | (simp only [i64_w, i32_w]; rw [c17b0]) | skip)
       have H' := Aside0.mk H
       clear H
       go_wp2
       go_meet
       case rel => exact ⟨_, (true), (by first | rfl | (simp; done) | (simp [*]; done)), H', ⟨by have := HJ5.out; first | omega | exact Nat.le_refl _⟩, ⟨by (with_reducible repeat (first | apply Kd.S_alloc | apply Kd.S_drewN | apply Kd.S_drew)); exact Kd.S_mono HO_3.out (fun _ hk => trivial)⟩, ⟨by repeat (first | (with_reducible first | exact HB.out | apply below_alloc | apply pw_below_drewN | apply below_drew1) | exact HB.out)⟩⟩
     case rest =>
      clear HC14
      try clear c1
      try clear c2
      try clear c2b0
      try clear c2b1
      try clear p2
      try clear c3
      try clear c4
      try clear c10
      try clear c10b0
      try clear c10b1
      try clear c11
      try clear c15
      try clear c17
      try clear c17b0
      try clear c17b1
      try clear p2
      obtain ⟨kq, x58_13, rfl, HA, HJ13, HO_3, HB⟩ := hcut
      cases kq with
      | zero => exact absurd HA.out (by simp [laws_FnJoinOf.j1])
      | succ kj13 =>
       have H := HA.out
       clear HA
       simp only [laws_FnJoinOf.j1] at H
       by_cases c18 : x58_13 = true
       ·
        subst c18
        have H1 : (some false) = some r := by rw [if_pos rfl] at H; exact H
        clear H
        have H := H1
        clear H1
        obtain rfl := Option.some.inj H
        go_wp2
        go_ret
        exact ⟨by first | rfl | (simp [errW_none, errW_some] <;> rfl) | (simp [*, errW_none, errW_some] <;> rfl), by repeat (first | (with_reducible first | exact HB.out | apply below_alloc | apply pw_below_drewN | apply below_drew1) | exact HB.out)⟩
       ·
        replace c18 := Bool.eq_false_iff.mpr c18
        subst c18
        have H1 : (if t611 = true then (if 0 ≤ t606 then (if t606 < (t605.length : Int) then (if 0 ≤ t610 then (if t610 < ((rd_L1 t605 t606).length : Int) then (if (rd (rd_L1 t605 t606) t610) = 1 then (if 0 ≤ t607 then (if t607 < (t605.length : Int) then (if t610 < ((rd_L1 t605 t607).length : Int) then (if (rd (rd_L1 t605 t607) t610) = 1 then (if t607 < ((rd_L1 t605 t606).length : Int) then (if (rd (rd_L1 t605 t606) t607) = 0 then (some true) else (some (t610 == t607))) else (none)) else (some false)) else (none)) else (none)) else (none)) else (some false)) else (none)) else (none)) else (none)) else (none)) else (if t610 = (-1) then ((laws_alive.f kj13).bind fun t625 => (some t625)) else (some false))) = some r := by rw [if_neg (show ¬ (false = true) by decide)] at H; exact H
        clear H
        have H := H1
        clear H1
        by_cases c19 : t611 = true
        ·
         subst c19
         have H1 : (if 0 ≤ t606 then (if t606 < (t605.length : Int) then (if 0 ≤ t610 then (if t610 < ((rd_L1 t605 t606).length : Int) then (if (rd (rd_L1 t605 t606) t610) = 1 then (if 0 ≤ t607 then (if t607 < (t605.length : Int) then (if t610 < ((rd_L1 t605 t607).length : Int) then (if (rd (rd_L1 t605 t607) t610) = 1 then (if t607 < ((rd_L1 t605 t606).length : Int) then (if (rd (rd_L1 t605 t606) t607) = 0 then (some true) else (some (t610 == t607))) else (none)) else (some false)) else (none)) else (none)) else (none)) else (some false)) else (none)) else (none)) else (none)) else (none)) = some r := by rw [if_pos rfl] at H; exact H
         clear H
         have H := H1
         clear H1
         by_cases c20 : 0 ≤ t606
         ·
          rw [if_pos c20] at H
          have c20b0 : decide (0 ≤ t606) = true := decide_eq_true c20
          clear c20
          by_cases c21 : t606 < (t605.length : Int)
          ·
           rw [if_pos c21] at H
           have c21b0 : decide (t606 < (t605.length : Int)) = true := decide_eq_true c21
           clear c21
           by_cases c22 : 0 ≤ t610
           ·
            rw [if_pos c22] at H
            have c22b0 : decide (0 ≤ t610) = true := decide_eq_true c22
            clear c22
            by_cases c23 : t610 < ((rd_L1 t605 t606).length : Int)
            ·
             rw [if_pos c23] at H
             have c23b0 : decide (t610 < ((rd_L1 t605 t606).length : Int)) = true := decide_eq_true c23
             clear c23
             by_cases c24 : (rd (rd_L1 t605 t606) t610) = 1
             ·
              rw [if_pos c24] at H
              have c24b0 : ((rd (rd_L1 t605 t606) t610) == 1) = true := beq_iff_eq.mpr c24
              have c24b1 : ((rd (rd_L1 t605 t606) t610) != 1) = false := bne_eq_false_iff_eq.mpr c24
              clear c24
              by_cases c25 : 0 ≤ t607
              ·
               rw [if_pos c25] at H
               have c25b0 : decide (0 ≤ t607) = true := decide_eq_true c25
               clear c25
               by_cases c26 : t607 < (t605.length : Int)
               ·
                rw [if_pos c26] at H
                have c26b0 : decide (t607 < (t605.length : Int)) = true := decide_eq_true c26
                clear c26
                by_cases c27 : t610 < ((rd_L1 t605 t607).length : Int)
                ·
                 rw [if_pos c27] at H
                 have c27b0 : decide (t610 < ((rd_L1 t605 t607).length : Int)) = true := decide_eq_true c27
                 clear c27
                 by_cases c28 : (rd (rd_L1 t605 t607) t610) = 1
                 ·
                  rw [if_pos c28] at H
                  have c28b0 : ((rd (rd_L1 t605 t607) t610) == 1) = true := beq_iff_eq.mpr c28
                  have c28b1 : ((rd (rd_L1 t605 t607) t610) != 1) = false := bne_eq_false_iff_eq.mpr c28
                  clear c28
                  by_cases c29 : t607 < ((rd_L1 t605 t606).length : Int)
                  ·
                   rw [if_pos c29] at H
                   have c29b0 : decide (t607 < ((rd_L1 t605 t606).length : Int)) = true := decide_eq_true c29
                   clear c29
                   by_cases c30 : (rd (rd_L1 t605 t606) t607) = 0
                   ·
                    rw [if_pos c30] at H
                    have c30b0 : ((rd (rd_L1 t605 t606) t607) == 0) = true := beq_iff_eq.mpr c30
                    have c30b1 : ((rd (rd_L1 t605 t606) t607) != 0) = false := bne_eq_false_iff_eq.mpr c30
                    clear c30
                    obtain rfl := Option.some.inj H
                    have p619 : 0 ≤ (t606 : Int) := of_decide_eq_true (by first | (with_reducible assumption) | assumption)
                    have q619 : t606 < (t605.length : Int) := of_decide_eq_true (by first | (with_reducible assumption) | assumption)
                    obtain ⟨ad619, A619_0, c619_0, e619, hx619_0, hl619_0, hi619_0⟩ := at_L1 (Kd.S_reads' HO_3.out).2.2 t606 p619 q619
                    cases e619
                    obtain ⟨ce619, hce619, hMe619, hcc619⟩ := Kd.S_get HO_3.out [] t606 p619 (by first | exact q619 | exact of_decide_eq_true (by first | (with_reducible assumption) | assumption) | (have e_ := (Kd.S_reads' HO_3.out).1; omega))
                    obtain ⟨ve619_0, rfl, ge619_0⟩ := hMe619
                    have hv619_0 := hcc619 0 _ rfl
                    rw [Nat.add_zero, show ((Kd.slice 3 (Kd.int .i64))).sz = 1 from rfl, Nat.mul_one] at hv619_0
                    replace hv619_0 := Option.some.inj (hv619_0.symm.trans hx619_0)
                    rw [hv619_0] at ge619_0
                    have HL619_0 := Aside0.mk (show Kd.R (Kd.int .i64) 3 _ _ _ _ (rd_L1 t605 t606) from ge619_0)
                    clear hv619_0 ge619_0
                    clear hcc619 hce619
                    have HR619_0 := Aside0.mk hi619_0
                    have HC619_0 := Aside0.mk hl619_0
                    clear hi619_0 hl619_0
                    replace p619 := eq_true p619
                    replace q619 := eq_true q619
                    have p620 : 0 ≤ (t610 : Int) := of_decide_eq_true (by first | (with_reducible assumption) | assumption)
                    have q620 : t610 < ((rd_L1 t605 t606).length : Int) := of_decide_eq_true (by first | (with_reducible assumption) | assumption)
                    obtain ⟨ad620, e620, hx620_0⟩ := Kd.at_int (by repeat (first | (with_reducible exact HR619_0.out) | (with_reducible refine Kd.C_alloc ?_ _) | (with_reducible refine Kd.C_drewN ?_ _) | (with_reducible refine Kd.C_drew ?_) | exact HR619_0.out)) t610 p620 q620
                    cases e620
                    replace p620 := eq_true p620
                    replace q620 := eq_true q620
                    have p621 : 0 ≤ (t607 : Int) := of_decide_eq_true (by first | (with_reducible assumption) | assumption)
                    have q621 : t607 < (t605.length : Int) := of_decide_eq_true (by first | (with_reducible assumption) | assumption)
                    obtain ⟨ad621, A621_0, c621_0, e621, hx621_0, hl621_0, hi621_0⟩ := at_L1 (Kd.S_reads' HO_3.out).2.2 t607 p621 q621
                    obtain rfl : ad619 = ad621 := (by injection e621)
                    obtain ⟨ce621, hce621, hMe621, hcc621⟩ := Kd.S_get HO_3.out [] t607 p621 (by first | exact q621 | exact of_decide_eq_true (by first | (with_reducible assumption) | assumption) | (have e_ := (Kd.S_reads' HO_3.out).1; omega))
                    obtain ⟨ve621_0, rfl, ge621_0⟩ := hMe621
                    have hv621_0 := hcc621 0 _ rfl
                    rw [Nat.add_zero, show ((Kd.slice 3 (Kd.int .i64))).sz = 1 from rfl, Nat.mul_one] at hv621_0
                    replace hv621_0 := Option.some.inj (hv621_0.symm.trans hx621_0)
                    rw [hv621_0] at ge621_0
                    have HL621_0 := Aside0.mk (show Kd.R (Kd.int .i64) 3 _ _ _ _ (rd_L1 t605 t607) from ge621_0)
                    clear hv621_0 ge621_0
                    clear hcc621 hce621
                    have HR621_0 := Aside0.mk hi621_0
                    have HC621_0 := Aside0.mk hl621_0
                    clear hi621_0 hl621_0
                    replace p621 := eq_true p621
                    replace q621 := eq_true q621
                    have p622 : 0 ≤ (t610 : Int) := of_decide_eq_true (by first | (with_reducible assumption) | assumption)
                    have q622 : t610 < ((rd_L1 t605 t607).length : Int) := of_decide_eq_true (by first | (with_reducible assumption) | assumption)
                    obtain ⟨ad622, e622, hx622_0⟩ := Kd.at_int (by repeat (first | (with_reducible exact HR621_0.out) | (with_reducible refine Kd.C_alloc ?_ _) | (with_reducible refine Kd.C_drewN ?_ _) | (with_reducible refine Kd.C_drew ?_) | exact HR621_0.out)) t610 p622 q622
                    cases e622
                    replace p622 := eq_true p622
                    replace q622 := eq_true q622
                    have p623 : 0 ≤ (t606 : Int) := of_decide_eq_true (by first | (with_reducible assumption) | assumption)
                    have q623 : t606 < (t605.length : Int) := of_decide_eq_true (by first | (with_reducible assumption) | assumption)
                    obtain ⟨ad623, A623_0, c623_0, e623, hx623_0, hl623_0, hi623_0⟩ := at_L1 (Kd.S_reads' HO_3.out).2.2 t606 p623 q623
                    obtain rfl : ad619 = ad623 := (by injection e623)
                    obtain ⟨ce623, hce623, hMe623, hcc623⟩ := Kd.S_get HO_3.out [] t606 p623 (by first | exact q623 | exact of_decide_eq_true (by first | (with_reducible assumption) | assumption) | (have e_ := (Kd.S_reads' HO_3.out).1; omega))
                    obtain ⟨ve623_0, rfl, ge623_0⟩ := hMe623
                    have hv623_0 := hcc623 0 _ rfl
                    rw [Nat.add_zero, show ((Kd.slice 3 (Kd.int .i64))).sz = 1 from rfl, Nat.mul_one] at hv623_0
                    replace hv623_0 := Option.some.inj (hv623_0.symm.trans hx623_0)
                    rw [hv623_0] at ge623_0
                    have HL623_0 := Aside0.mk (show Kd.R (Kd.int .i64) 3 _ _ _ _ (rd_L1 t605 t606) from ge623_0)
                    clear hv623_0 ge623_0
                    clear hcc623 hce623
                    have HR623_0 := Aside0.mk hi623_0
                    have HC623_0 := Aside0.mk hl623_0
                    clear hi623_0 hl623_0
                    replace p623 := eq_true p623
                    replace q623 := eq_true q623
                    have ea_ := Option.some.inj (hx619_0.symm.trans hx623_0)
                    injection ea_ with ea_ en_ ec_
                    subst ea_
                    subst ec_
                    clear en_
                    have p624 : 0 ≤ (t607 : Int) := of_decide_eq_true (by first | (with_reducible assumption) | assumption)
                    have q624 : t607 < ((rd_L1 t605 t606).length : Int) := of_decide_eq_true (by first | (with_reducible assumption) | assumption)
                    obtain ⟨ad624, e624, hx624_0⟩ := Kd.at_int (by repeat (first | (with_reducible exact HR623_0.out) | (with_reducible refine Kd.C_alloc ?_ _) | (with_reducible refine Kd.C_drewN ?_ _) | (with_reducible refine Kd.C_drew ?_) | exact HR623_0.out)) t607 p624 q624
                    cases e624
                    replace p624 := eq_true p624
                    replace q624 := eq_true q624
                    go_wp2
                    go_ret
                    exact ⟨by first | rfl | (simp [errW_none, errW_some] <;> rfl) | (simp [*, errW_none, errW_some] <;> rfl), by repeat (first | (with_reducible first | exact HB.out | apply below_alloc | apply pw_below_drewN | apply below_drew1) | exact HB.out)⟩
                   ·
                    rw [if_neg c30] at H
                    have c30b0 : ((rd (rd_L1 t605 t606) t607) == 0) = false := beq_eq_false_iff_ne.mpr c30
                    have c30b1 : ((rd (rd_L1 t605 t606) t607) != 0) = true := bne_iff_ne.mpr c30
                    obtain rfl := Option.some.inj H
                    have p619 : 0 ≤ (t606 : Int) := of_decide_eq_true (by first | (with_reducible assumption) | assumption)
                    have q619 : t606 < (t605.length : Int) := of_decide_eq_true (by first | (with_reducible assumption) | assumption)
                    obtain ⟨ad619, A619_0, c619_0, e619, hx619_0, hl619_0, hi619_0⟩ := at_L1 (Kd.S_reads' HO_3.out).2.2 t606 p619 q619
                    cases e619
                    obtain ⟨ce619, hce619, hMe619, hcc619⟩ := Kd.S_get HO_3.out [] t606 p619 (by first | exact q619 | exact of_decide_eq_true (by first | (with_reducible assumption) | assumption) | (have e_ := (Kd.S_reads' HO_3.out).1; omega))
                    obtain ⟨ve619_0, rfl, ge619_0⟩ := hMe619
                    have hv619_0 := hcc619 0 _ rfl
                    rw [Nat.add_zero, show ((Kd.slice 3 (Kd.int .i64))).sz = 1 from rfl, Nat.mul_one] at hv619_0
                    replace hv619_0 := Option.some.inj (hv619_0.symm.trans hx619_0)
                    rw [hv619_0] at ge619_0
                    have HL619_0 := Aside0.mk (show Kd.R (Kd.int .i64) 3 _ _ _ _ (rd_L1 t605 t606) from ge619_0)
                    clear hv619_0 ge619_0
                    clear hcc619 hce619
                    have HR619_0 := Aside0.mk hi619_0
                    have HC619_0 := Aside0.mk hl619_0
                    clear hi619_0 hl619_0
                    replace p619 := eq_true p619
                    replace q619 := eq_true q619
                    have p620 : 0 ≤ (t610 : Int) := of_decide_eq_true (by first | (with_reducible assumption) | assumption)
                    have q620 : t610 < ((rd_L1 t605 t606).length : Int) := of_decide_eq_true (by first | (with_reducible assumption) | assumption)
                    obtain ⟨ad620, e620, hx620_0⟩ := Kd.at_int (by repeat (first | (with_reducible exact HR619_0.out) | (with_reducible refine Kd.C_alloc ?_ _) | (with_reducible refine Kd.C_drewN ?_ _) | (with_reducible refine Kd.C_drew ?_) | exact HR619_0.out)) t610 p620 q620
                    cases e620
                    replace p620 := eq_true p620
                    replace q620 := eq_true q620
                    have p621 : 0 ≤ (t607 : Int) := of_decide_eq_true (by first | (with_reducible assumption) | assumption)
                    have q621 : t607 < (t605.length : Int) := of_decide_eq_true (by first | (with_reducible assumption) | assumption)
                    obtain ⟨ad621, A621_0, c621_0, e621, hx621_0, hl621_0, hi621_0⟩ := at_L1 (Kd.S_reads' HO_3.out).2.2 t607 p621 q621
                    obtain rfl : ad619 = ad621 := (by injection e621)
                    obtain ⟨ce621, hce621, hMe621, hcc621⟩ := Kd.S_get HO_3.out [] t607 p621 (by first | exact q621 | exact of_decide_eq_true (by first | (with_reducible assumption) | assumption) | (have e_ := (Kd.S_reads' HO_3.out).1; omega))
                    obtain ⟨ve621_0, rfl, ge621_0⟩ := hMe621
                    have hv621_0 := hcc621 0 _ rfl
                    rw [Nat.add_zero, show ((Kd.slice 3 (Kd.int .i64))).sz = 1 from rfl, Nat.mul_one] at hv621_0
                    replace hv621_0 := Option.some.inj (hv621_0.symm.trans hx621_0)
                    rw [hv621_0] at ge621_0
                    have HL621_0 := Aside0.mk (show Kd.R (Kd.int .i64) 3 _ _ _ _ (rd_L1 t605 t607) from ge621_0)
                    clear hv621_0 ge621_0
                    clear hcc621 hce621
                    have HR621_0 := Aside0.mk hi621_0
                    have HC621_0 := Aside0.mk hl621_0
                    clear hi621_0 hl621_0
                    replace p621 := eq_true p621
                    replace q621 := eq_true q621
                    have p622 : 0 ≤ (t610 : Int) := of_decide_eq_true (by first | (with_reducible assumption) | assumption)
                    have q622 : t610 < ((rd_L1 t605 t607).length : Int) := of_decide_eq_true (by first | (with_reducible assumption) | assumption)
                    obtain ⟨ad622, e622, hx622_0⟩ := Kd.at_int (by repeat (first | (with_reducible exact HR621_0.out) | (with_reducible refine Kd.C_alloc ?_ _) | (with_reducible refine Kd.C_drewN ?_ _) | (with_reducible refine Kd.C_drew ?_) | exact HR621_0.out)) t610 p622 q622
                    cases e622
                    replace p622 := eq_true p622
                    replace q622 := eq_true q622
                    have p623 : 0 ≤ (t606 : Int) := of_decide_eq_true (by first | (with_reducible assumption) | assumption)
                    have q623 : t606 < (t605.length : Int) := of_decide_eq_true (by first | (with_reducible assumption) | assumption)
                    obtain ⟨ad623, A623_0, c623_0, e623, hx623_0, hl623_0, hi623_0⟩ := at_L1 (Kd.S_reads' HO_3.out).2.2 t606 p623 q623
                    obtain rfl : ad619 = ad623 := (by injection e623)
                    obtain ⟨ce623, hce623, hMe623, hcc623⟩ := Kd.S_get HO_3.out [] t606 p623 (by first | exact q623 | exact of_decide_eq_true (by first | (with_reducible assumption) | assumption) | (have e_ := (Kd.S_reads' HO_3.out).1; omega))
                    obtain ⟨ve623_0, rfl, ge623_0⟩ := hMe623
                    have hv623_0 := hcc623 0 _ rfl
                    rw [Nat.add_zero, show ((Kd.slice 3 (Kd.int .i64))).sz = 1 from rfl, Nat.mul_one] at hv623_0
                    replace hv623_0 := Option.some.inj (hv623_0.symm.trans hx623_0)
                    rw [hv623_0] at ge623_0
                    have HL623_0 := Aside0.mk (show Kd.R (Kd.int .i64) 3 _ _ _ _ (rd_L1 t605 t606) from ge623_0)
                    clear hv623_0 ge623_0
                    clear hcc623 hce623
                    have HR623_0 := Aside0.mk hi623_0
                    have HC623_0 := Aside0.mk hl623_0
                    clear hi623_0 hl623_0
                    replace p623 := eq_true p623
                    replace q623 := eq_true q623
                    have ea_ := Option.some.inj (hx619_0.symm.trans hx623_0)
                    injection ea_ with ea_ en_ ec_
                    subst ea_
                    subst ec_
                    clear en_
                    have p624 : 0 ≤ (t607 : Int) := of_decide_eq_true (by first | (with_reducible assumption) | assumption)
                    have q624 : t607 < ((rd_L1 t605 t606).length : Int) := of_decide_eq_true (by first | (with_reducible assumption) | assumption)
                    obtain ⟨ad624, e624, hx624_0⟩ := Kd.at_int (by repeat (first | (with_reducible exact HR623_0.out) | (with_reducible refine Kd.C_alloc ?_ _) | (with_reducible refine Kd.C_drewN ?_ _) | (with_reducible refine Kd.C_drew ?_) | exact HR623_0.out)) t607 p624 q624
                    cases e624
                    replace p624 := eq_true p624
                    replace q624 := eq_true q624
                    go_wp2
                    go_ret
                    exact ⟨by first | rfl | (simp [errW_none, errW_some] <;> rfl) | (simp [*, errW_none, errW_some] <;> rfl), by repeat (first | (with_reducible first | exact HB.out | apply below_alloc | apply pw_below_drewN | apply below_drew1) | exact HB.out)⟩
                  ·
                   rw [if_neg c29] at H
                   exact absurd H (by simp)
                 ·
                  rw [if_neg c28] at H
                  have c28b0 : ((rd (rd_L1 t605 t607) t610) == 1) = false := beq_eq_false_iff_ne.mpr c28
                  have c28b1 : ((rd (rd_L1 t605 t607) t610) != 1) = true := bne_iff_ne.mpr c28
                  obtain rfl := Option.some.inj H
                  have p619 : 0 ≤ (t606 : Int) := of_decide_eq_true (by first | (with_reducible assumption) | assumption)
                  have q619 : t606 < (t605.length : Int) := of_decide_eq_true (by first | (with_reducible assumption) | assumption)
                  obtain ⟨ad619, A619_0, c619_0, e619, hx619_0, hl619_0, hi619_0⟩ := at_L1 (Kd.S_reads' HO_3.out).2.2 t606 p619 q619
                  cases e619
                  obtain ⟨ce619, hce619, hMe619, hcc619⟩ := Kd.S_get HO_3.out [] t606 p619 (by first | exact q619 | exact of_decide_eq_true (by first | (with_reducible assumption) | assumption) | (have e_ := (Kd.S_reads' HO_3.out).1; omega))
                  obtain ⟨ve619_0, rfl, ge619_0⟩ := hMe619
                  have hv619_0 := hcc619 0 _ rfl
                  rw [Nat.add_zero, show ((Kd.slice 3 (Kd.int .i64))).sz = 1 from rfl, Nat.mul_one] at hv619_0
                  replace hv619_0 := Option.some.inj (hv619_0.symm.trans hx619_0)
                  rw [hv619_0] at ge619_0
                  have HL619_0 := Aside0.mk (show Kd.R (Kd.int .i64) 3 _ _ _ _ (rd_L1 t605 t606) from ge619_0)
                  clear hv619_0 ge619_0
                  clear hcc619 hce619
                  have HR619_0 := Aside0.mk hi619_0
                  have HC619_0 := Aside0.mk hl619_0
                  clear hi619_0 hl619_0
                  replace p619 := eq_true p619
                  replace q619 := eq_true q619
                  have p620 : 0 ≤ (t610 : Int) := of_decide_eq_true (by first | (with_reducible assumption) | assumption)
                  have q620 : t610 < ((rd_L1 t605 t606).length : Int) := of_decide_eq_true (by first | (with_reducible assumption) | assumption)
                  obtain ⟨ad620, e620, hx620_0⟩ := Kd.at_int (by repeat (first | (with_reducible exact HR619_0.out) | (with_reducible refine Kd.C_alloc ?_ _) | (with_reducible refine Kd.C_drewN ?_ _) | (with_reducible refine Kd.C_drew ?_) | exact HR619_0.out)) t610 p620 q620
                  cases e620
                  replace p620 := eq_true p620
                  replace q620 := eq_true q620
                  have p621 : 0 ≤ (t607 : Int) := of_decide_eq_true (by first | (with_reducible assumption) | assumption)
                  have q621 : t607 < (t605.length : Int) := of_decide_eq_true (by first | (with_reducible assumption) | assumption)
                  obtain ⟨ad621, A621_0, c621_0, e621, hx621_0, hl621_0, hi621_0⟩ := at_L1 (Kd.S_reads' HO_3.out).2.2 t607 p621 q621
                  obtain rfl : ad619 = ad621 := (by injection e621)
                  obtain ⟨ce621, hce621, hMe621, hcc621⟩ := Kd.S_get HO_3.out [] t607 p621 (by first | exact q621 | exact of_decide_eq_true (by first | (with_reducible assumption) | assumption) | (have e_ := (Kd.S_reads' HO_3.out).1; omega))
                  obtain ⟨ve621_0, rfl, ge621_0⟩ := hMe621
                  have hv621_0 := hcc621 0 _ rfl
                  rw [Nat.add_zero, show ((Kd.slice 3 (Kd.int .i64))).sz = 1 from rfl, Nat.mul_one] at hv621_0
                  replace hv621_0 := Option.some.inj (hv621_0.symm.trans hx621_0)
                  rw [hv621_0] at ge621_0
                  have HL621_0 := Aside0.mk (show Kd.R (Kd.int .i64) 3 _ _ _ _ (rd_L1 t605 t607) from ge621_0)
                  clear hv621_0 ge621_0
                  clear hcc621 hce621
                  have HR621_0 := Aside0.mk hi621_0
                  have HC621_0 := Aside0.mk hl621_0
                  clear hi621_0 hl621_0
                  replace p621 := eq_true p621
                  replace q621 := eq_true q621
                  have p622 : 0 ≤ (t610 : Int) := of_decide_eq_true (by first | (with_reducible assumption) | assumption)
                  have q622 : t610 < ((rd_L1 t605 t607).length : Int) := of_decide_eq_true (by first | (with_reducible assumption) | assumption)
                  obtain ⟨ad622, e622, hx622_0⟩ := Kd.at_int (by repeat (first | (with_reducible exact HR621_0.out) | (with_reducible refine Kd.C_alloc ?_ _) | (with_reducible refine Kd.C_drewN ?_ _) | (with_reducible refine Kd.C_drew ?_) | exact HR621_0.out)) t610 p622 q622
                  cases e622
                  replace p622 := eq_true p622
                  replace q622 := eq_true q622
                  go_wp2
                  go_ret
                  exact ⟨by first | rfl | (simp [errW_none, errW_some] <;> rfl) | (simp [*, errW_none, errW_some] <;> rfl), by repeat (first | (with_reducible first | exact HB.out | apply below_alloc | apply pw_below_drewN | apply below_drew1) | exact HB.out)⟩
                ·
                 rw [if_neg c27] at H
                 exact absurd H (by simp)
               ·
                rw [if_neg c26] at H
                exact absurd H (by simp)
              ·
               rw [if_neg c25] at H
               exact absurd H (by simp)
             ·
              rw [if_neg c24] at H
              have c24b0 : ((rd (rd_L1 t605 t606) t610) == 1) = false := beq_eq_false_iff_ne.mpr c24
              have c24b1 : ((rd (rd_L1 t605 t606) t610) != 1) = true := bne_iff_ne.mpr c24
              obtain rfl := Option.some.inj H
              have p619 : 0 ≤ (t606 : Int) := of_decide_eq_true (by first | (with_reducible assumption) | assumption)
              have q619 : t606 < (t605.length : Int) := of_decide_eq_true (by first | (with_reducible assumption) | assumption)
              obtain ⟨ad619, A619_0, c619_0, e619, hx619_0, hl619_0, hi619_0⟩ := at_L1 (Kd.S_reads' HO_3.out).2.2 t606 p619 q619
              cases e619
              obtain ⟨ce619, hce619, hMe619, hcc619⟩ := Kd.S_get HO_3.out [] t606 p619 (by first | exact q619 | exact of_decide_eq_true (by first | (with_reducible assumption) | assumption) | (have e_ := (Kd.S_reads' HO_3.out).1; omega))
              obtain ⟨ve619_0, rfl, ge619_0⟩ := hMe619
              have hv619_0 := hcc619 0 _ rfl
              rw [Nat.add_zero, show ((Kd.slice 3 (Kd.int .i64))).sz = 1 from rfl, Nat.mul_one] at hv619_0
              replace hv619_0 := Option.some.inj (hv619_0.symm.trans hx619_0)
              rw [hv619_0] at ge619_0
              have HL619_0 := Aside0.mk (show Kd.R (Kd.int .i64) 3 _ _ _ _ (rd_L1 t605 t606) from ge619_0)
              clear hv619_0 ge619_0
              clear hcc619 hce619
              have HR619_0 := Aside0.mk hi619_0
              have HC619_0 := Aside0.mk hl619_0
              clear hi619_0 hl619_0
              replace p619 := eq_true p619
              replace q619 := eq_true q619
              have p620 : 0 ≤ (t610 : Int) := of_decide_eq_true (by first | (with_reducible assumption) | assumption)
              have q620 : t610 < ((rd_L1 t605 t606).length : Int) := of_decide_eq_true (by first | (with_reducible assumption) | assumption)
              obtain ⟨ad620, e620, hx620_0⟩ := Kd.at_int (by repeat (first | (with_reducible exact HR619_0.out) | (with_reducible refine Kd.C_alloc ?_ _) | (with_reducible refine Kd.C_drewN ?_ _) | (with_reducible refine Kd.C_drew ?_) | exact HR619_0.out)) t610 p620 q620
              cases e620
              replace p620 := eq_true p620
              replace q620 := eq_true q620
              go_wp2
              go_ret
              exact ⟨by first | rfl | (simp [errW_none, errW_some] <;> rfl) | (simp [*, errW_none, errW_some] <;> rfl), by repeat (first | (with_reducible first | exact HB.out | apply below_alloc | apply pw_below_drewN | apply below_drew1) | exact HB.out)⟩
            ·
             rw [if_neg c23] at H
             exact absurd H (by simp)
           ·
            rw [if_neg c22] at H
            exact absurd H (by simp)
          ·
           rw [if_neg c21] at H
           exact absurd H (by simp)
         ·
          rw [if_neg c20] at H
          exact absurd H (by simp)
        ·
         replace c19 := Bool.eq_false_iff.mpr c19
         subst c19
         have H1 : (if t610 = (-1) then ((laws_alive.f kj13).bind fun t625 => (some t625)) else (some false)) = some r := by rw [if_neg (show ¬ (false = true) by decide)] at H; exact H
         clear H
         have H := H1
         clear H1
         by_cases c31 : t610 = (-1)
         ·
          rw [if_pos c31] at H
          have c31b0 : (t610 == (-1)) = true := beq_iff_eq.mpr c31
          have c31b1 : (t610 != (-1)) = false := bne_eq_false_iff_eq.mpr c31
          clear c31
          replace H := Option.bind_eq_some_iff.mp H
          obtain ⟨t625, A320, H⟩ := H
          replace H : (some t625) = some r := H
          have A32 := Aside0.mk A320
          clear A320
          obtain rfl := Option.some.inj H
          go_wp2_with (first | (go_at_call 27; (with_reducible refine (laws_alive.calls kj13  t625 _ A32.out).mono ?_); rintro e w33 ⟨rfl, hb⟩; have n0_ := Aside0.mk (Kd.S_below (by (with_reducible repeat (first | apply Kd.S_alloc | apply Kd.S_drewN | apply Kd.S_drew)); exact HO_3.out) hb); have n1_ := Aside0.mk (below_step (by repeat (first | (with_reducible first | exact HB.out | apply below_alloc | apply pw_below_drewN | apply below_drew1) | exact HB.out)) hb); clear HO_3; clear HB; have HO_3 := n0_; have HB := n1_; clear n0_ n1_; (try clear hb); (try clear hb2); (try clear hk); (try clear hi)))
          go_ret
          exact ⟨by first | rfl | (simp [errW_none, errW_some] <;> rfl) | (simp [*, errW_none, errW_some] <;> rfl), by repeat (first | (with_reducible first | exact HB.out | apply below_alloc | apply pw_below_drewN | apply below_drew1) | exact HB.out)⟩
         ·
          rw [if_neg c31] at H
          have c31b0 : (t610 == (-1)) = false := beq_eq_false_iff_ne.mpr c31
          have c31b1 : (t610 != (-1)) = true := bne_iff_ne.mpr c31
          obtain rfl := Option.some.inj H
          go_wp2
          go_ret
          exact ⟨by first | rfl | (simp [errW_none, errW_some] <;> rfl) | (simp [*, errW_none, errW_some] <;> rfl), by repeat (first | (with_reducible first | exact HB.out | apply below_alloc | apply pw_below_drewN | apply below_drew1) | exact HB.out)⟩

theorem laws_FnJoinOf.walk (P : laws_FnJoinOf.Pure) (a0 : Option Addr) (len0 cap0 : Nat) (z0 : List Int) (w : World) (w0 : (a0 = none ∧ len0 = 0 ∧ cap0 = 0 ∧ z0 = []) ∨ ∃ x, a0 = some x ∧ len0 ≤ cap0 ∧ cap0 ≤ maxLen ∧ z0.length = cap0 ∧ (∀ i, i < z0.length → w.cell? (x.add i) = some (.int .u8 (z0.getD i 0))) ∧ ∀ n ∈ z0, (Lit.int .u8 n).wf = true) (y0 : len0 * 1 ≤ 140737488351232) :
  Calls Try.prog 15 #[.slice a0 len0 cap0] w fun e w' => e = .returned (.bool true) ∧ Below w.heap.size w w' := by
 obtain ⟨l0, rfl, hr0, hm0, hw0, hc0⟩ := ReadsInt.ofRowC w0
 obtain ⟨k, h⟩ := P l0 hm0 y0 hw0
 refine (laws_FnJoinOf.calls k _ _ l0 true w (Kd.C_of_reads (d := (0 : Int)) (h1 := fun _ => rfl) hr0) hc0 h).mono ?_
 rintro e w' ⟨rfl, hd⟩
 exact ⟨rfl, hd⟩

end Go.Proofs.Ytilgbnbeonlbnaa.P
