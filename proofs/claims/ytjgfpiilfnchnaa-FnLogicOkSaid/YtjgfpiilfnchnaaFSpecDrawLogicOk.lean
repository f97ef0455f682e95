-- written by gen.py (a program of this session) out of the kit's print of this seat's translation
import Derived.Test.YtjgfpiilfnchnaaPk2
import Derived.Test.YtjgfpiilfnchnaaPk8
import Derived.Test.YtjgfpiilfnchnaaPk4
namespace Go.Proofs.Ytjgfpiilfnchnaa.P
open Go.RowKit Go.Proofs.YtjgfpiilfnchnaaW.PrintWords Go.Proofs.YtjgfpiilfnchnaaW.PrintLast Go.Proofs.YtjgfpiilfnchnaaW.PrintMore
attribute [local go_sem] max2_int min2_int max_two min_two max_three min_three max_four min_four
set_option linter.unusedVariables false
set_option linter.unusedSimpArgs false
theorem z3_2 {p : Prop} (h : p := by repeat (first | (with_reducible first | exact HB.out | apply below_alloc | apply pw_below_drewN | apply below_drew1 | refine below_set ?_ (IsS70.ge a2.out) | refine below_set ?_ a5.out) | exact HB.out)) : p := h
theorem z3_1 {p : Prop} (h : p := by repeat (first | (with_reducible first | exact HB.out | apply below_alloc | apply pw_below_drewN | apply below_drew1) | exact HB.out)) : p := h
theorem z3_0 {p : Prop} (h : p := by (with_reducible repeat (first | refine blk_drewN ?_ _ | refine blk_drew ?_ | refine blk_alloc ?_ _)); exact a1.out) : p := h
set_option maxHeartbeats 8000000 in
set_option maxRecDepth 100000 in
theorem spec_DrawLogicOk.calls (k : Nat) (A0 : Option Addr) (c0 : Nat) (l0 : List Int) (r1 : List (List Int)) (r2 : List Int) (w : World) (hr0 : Kd.C (Kd.int .u8) w A0 l0.length l0) (hc0 : l0.length ≤ c0) (h : spec_DrawLogicOk.f k l0 = some (r1, r2)) :
  Calls Try.prog 14 #[.slice A0 l0.length c0] w fun e w' => ∃ v0_ v1_ : Value, e = .returned (.agg #[v0_, v1_]) ∧ Kd.S (Kd.slice 3 (Kd.int .i64)) 24 w' w.heap.size (fun k_ => some k_ ≠ (v1_ : Value).ownBlock) v0_ r1 ∧ Kd.Q (Kd.int .i64) 3 w' w.heap.size (fun _ => True) v1_ r2 ∧ Below w.heap.size w w' := by
 have hu26 := Try.underlying26
 have HR0 := Aside0.mk hr0
 have d5 := Aside0.mk hc0
 clear hr0 hc0
 have HB := Aside0.mk (Below.refl w.heap.size w)
 have H : ((spec_l20Open.f l0).bind fun a8 => ((spec_l20Logic.f k a8.1 a8.2 2).bind fun a9 => (some (a9.1, a9.2.1)))) = some (r1, r2) := h
 clear h
 obtain ⟨⟨b4, b5⟩, A2, H⟩ := bd_ H
 try dsimp only at H
 obtain ⟨⟨a6, a7, b8⟩, A3, H⟩ := bd_ H
 try dsimp only at H
 simp only [Option.some.injEq, Prod.mk.injEq] at H
 obtain ⟨rfl, rfl⟩ := H
 go_enter Try.func14, Try.ntmps14
 go_wp2_with (first | ((with_reducible refine gate_dst (N := 2) rfl ?_); refine bx_ (N := 2) (cs := #[.slice none 0 0, .slice none 0 0]) (t := 26) ?_; intro a0 hg w4 hbox hb; have a1 := Aside0.mk (hbox); have d0 := Aside0.mk ((by rw [hg]; exact (below_size z3_1) : w.heap.size ≤ a0)); have a5 := Aside0.mk ((by rw [hg]; exact (below_size z3_1) : w.heap.size ≤ a0)); replace HB := Aside0.mk (below_step z3_1 hb); clear hb hbox hg) | ((with_reducible refine gate_callee (f := 55) rfl ?_); refine gl_ (some 4) Try.func55 #[.slice A0 l0.length c0] ?_; (with_reducible refine (spec_l20Open.calls _ _ l0 b4 b5 w _ ?side1 HR0.out d5.out A2.out).mono ?_); (case side1 => repeat (first | (with_reducible first | exact HB.out | apply below_alloc | apply pw_below_drewN | apply below_drew1 | refine below_set ?_ a5.out) | exact HB.out)); rintro e w' ⟨g389, rfl, hi, hb, hb2⟩; refine ⟨_, rfl, ?_⟩; replace HB := Aside0.mk (hb); have a2 := Aside0.mk (hi); have a3 := Aside0.mk (IsS70.ne_blk hi (blk_below (g := a0) (o := .cells #[.slice none 0 0, .slice none 0 0] 26 (0, 0)) z3_0 hb2) (by decide)); have a4 := Aside0.mk (Ne.symm (IsS70.ne_blk hi (blk_below (g := a0) (o := .cells #[.slice none 0 0, .slice none 0 0] 26 (0, 0)) z3_0 hb2) (by decide))); replace a1 := Aside0.mk (blk_below (g := a0) (o := .cells #[.slice none 0 0, .slice none 0 0] 26 (0, 0)) z3_0 hb2); (try clear hb); (try clear hb2); (try clear hk); (try clear hi)) | ((with_reducible refine gate_callee (f := 54) rfl ?_); refine gl_ (some 5) Try.func54 #[.pointer (some ⟨g389, 0, none⟩), .int .i64 2] ?_; (with_reducible refine (spec_l20Logic.calls k g389 b4 b5 2 a6 a7 b8 w _ ?side1 ?side2 A3.out).mono ?_); (case side1 => repeat (first | (with_reducible first | exact a2.out | apply IsS70.alloc | apply IsS70.drewN | apply IsS70.drew | apply IsS70.set_1 | refine IsS70.far ?_ a3.out _) | exact a2.out)); (case side2 => repeat (first | (with_reducible first | exact HB.out | apply below_alloc | apply pw_below_drewN | apply below_drew1 | refine below_set ?_ (IsS70.ge a2.out) | refine below_set ?_ a5.out) | exact HB.out)); rintro e w' ⟨d6, d7, rfl, ho0, ho1, hi, hb, hk⟩; refine ⟨_, rfl, ?_⟩; replace a1 := Aside0.mk (KeepBut.blk hk (g' := a0) (o := .cells #[.slice none 0 0, .slice none 0 0] 26 (0, 0)) z3_0 a4.out (by simp)); have b0 := Aside0.mk (Kd.S_lower ho0 (below_size z3_2)); have b1 := Aside0.mk (Kd.Q_lower ho1 (below_size z3_2)); replace HB := Aside0.mk (hb); replace a2 := Aside0.mk (hi); (try clear hb); (try clear hb2); (try clear hk); (try clear hi); (try clear ho0); (try clear ho1); obtain ⟨b6, b7, d8⟩ := Kd.S_slice b0.out; subst d8; have d9 := a4.out; have e0 := a3.out; have d1 := cz20 a1.out; have d2 := cz21 a1.out; have d3 := blk_frozen a1.out 0; have d4 := blk_frozen a1.out 1; obtain ⟨b2, b3, b9, _⟩ := Kd.Q_slice b1.out; subst b9))
 refine bodyPost_ret (results_cell_row rfl _ _ a0 26 #[.slice b6 a6.length b7, .slice b2 a7.length b3] (0, 0) _ rfl (by (with_reducible repeat (first | refine blk_drewN ?_ _ | refine blk_drew ?_ | refine blk_alloc ?_ _)); refine blk_put (cs := #[.slice b6 a6.length b7, .slice none 0 0]) ?_ 1 _ rfl; (with_reducible repeat (first | refine blk_drewN ?_ _ | refine blk_drew ?_ | refine blk_alloc ?_ _)); refine blk_put (cs := #[.slice none 0 0, .slice none 0 0]) ?_ 0 _ rfl; (with_reducible repeat (first | refine blk_drewN ?_ _ | refine blk_drew ?_ | refine blk_alloc ?_ _)); exact a1.out) Try.underlying26 rfl (by kernel_rfl)) rfl ?_
 exact ⟨_, _, by first | rfl | (simp [errW_none, errW_some] <;> rfl) | (simp [*, errW_none, errW_some] <;> rfl), by (with_reducible repeat (first | apply Kd.S_alloc | apply Kd.S_drewN | apply Kd.S_drew)); exact Kd.S_mono (Kd.S_far (p := ⟨a0, 1, none⟩) (Kd.S_far (p := ⟨a0, 0, none⟩) (Kd.S_types b0.out a1.out (by decide)) (fun _ hk => hk.2) (.slice b6 a6.length b7)) (fun _ hk => hk.2) (.slice b2 a7.length b3)) (fun _ hk => hk.1), by (with_reducible repeat (first | apply Kd.Q_alloc | apply Kd.Q_drewN | apply Kd.Q_drew)); exact Kd.Q_mono (Kd.Q_far (p := ⟨a0, 1, none⟩) (Kd.Q_far (p := ⟨a0, 0, none⟩) (Kd.Q_types b1.out a1.out (by decide)) (fun _ hk => hk.2) (.slice b6 a6.length b7)) (fun _ hk => hk.2) (.slice b2 a7.length b3)) (fun _ hk => trivial), by repeat (first | (with_reducible first | exact HB.out | apply below_alloc | apply pw_below_drewN | apply below_drew1 | refine below_set ?_ (IsS70.ge a2.out) | refine below_set ?_ a5.out) | exact HB.out)⟩

end Go.Proofs.Ytjgfpiilfnchnaa.P
