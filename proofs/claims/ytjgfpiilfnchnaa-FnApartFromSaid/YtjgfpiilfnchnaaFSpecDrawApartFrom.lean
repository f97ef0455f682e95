-- written by gen.py (a program of this session) out of the kit's print of this seat's translation
import Derived.Test.YtjgfpiilfnchnaaPk2
import Derived.Test.YtjgfpiilfnchnaaFSpecL20Two
namespace Go.Proofs.Ytjgfpiilfnchnaa.P
open Go.RowKit Go.Proofs.YtjgfpiilfnchnaaW.PrintWords Go.Proofs.YtjgfpiilfnchnaaW.PrintLast Go.Proofs.YtjgfpiilfnchnaaW.PrintMore
attribute [local go_sem] max2_int min2_int max_two min_two max_three min_three max_four min_four
set_option linter.unusedVariables false
set_option linter.unusedSimpArgs false
theorem zr_1 {p : Prop} (h : p := by repeat (first | (with_reducible first | exact HB.out | apply below_alloc | apply pw_below_drewN | apply below_drew1) | exact HB.out)) : p := h
theorem zr_0 {p : Prop} (h : p := by repeat (first | (with_reducible first | exact HB.out | apply below_alloc | apply pw_below_drewN | apply below_drew1 | refine below_set ?_ (IsS70.ge a4.out) | refine below_set ?_ a8.out) | exact HB.out)) : p := h
set_option maxHeartbeats 8000000 in
set_option maxRecDepth 100000 in
theorem spec_DrawApartFrom.calls (k : Nat) (A0 : Option Addr) (c0 : Nat) (l0 : List Int) (r1 : List (List Int)) (r2 : List Int) (r3 : Int) (r4 : Int) (w : World) (hr0 : Kd.C (Kd.int .u8) w A0 l0.length l0) (hc0 : l0.length ≤ c0) (h : spec_DrawApartFrom.f k l0 = some (r1, r2, r3, r4)) :
 Calls Try.prog 51 #[.slice A0 l0.length c0] w fun e w' => ∃ v0_ v1_ : Value, e = .returned (.tuple #[.agg #[v0_, v1_], .int .i64 r3, .int .i64 r4]) ∧ Kd.S (Kd.slice 3 (Kd.int .i64)) 24 w' w.heap.size (fun k_ => some k_ ≠ (v1_ : Value).ownBlock) v0_ r1 ∧ Kd.Q (Kd.int .i64) 3 w' w.heap.size (fun _ => True) v1_ r2 ∧ Below w.heap.size w w' := by
 have hu26 := Try.underlying26
 have HR0 := ak hr0
 have d7 := ak hc0
 clear hr0 hc0
 have HB := ak (Below.refl w.heap.size w)
 have H : ((spec_l20Open.f l0).bind fun a9 => ((spec_l20Two.f k a9.1 a9.2 14).bind fun a5 => (some (a5.1, a5.2.1, a5.2.2.1, a5.2.2.2.1)))) = some (r1, r2, r3, r4) := h
 clear h
 obtain ⟨⟨b4, b5⟩, A2, H⟩ := bd_ H
 try dsimp only at H
 obtain ⟨⟨a6, a7, b8, b9, d0⟩, A3, H⟩ := bd_ H
 try dsimp only at H
 simp only [Option.some.injEq, Prod.mk.injEq] at H
 obtain ⟨rfl, rfl, rfl, rfl⟩ := H
 go_enter Try.func51, Try.ntmps51
 go_wp2_with (first | ((with_reducible refine gate_dst (N := 2) rfl ?_); refine bx_ (N := 2) (cs := #[.slice none 0 0, .slice none 0 0]) (t := 26) ?_; intro a1 hg w4 hbox hb; have a0 := ak (hbox); have d2 := ak ((by rw [hg]; exact (below_size zr_1) : w.heap.size ≤ a1)); have a8 := ak ((by rw [hg]; exact (below_size zr_1) : w.heap.size ≤ a1)); replace HB := ak (below_step zr_1 hb); clear hb hbox hg) | ((with_reducible refine gate_callee (f := 55) rfl ?_); refine gl_ (some 6) Try.func55 #[.slice A0 l0.length c0] ?_; (with_reducible refine (spec_l20Open.calls _ _ l0 b4 b5 w _ (by repeat (first | (with_reducible first | exact HB.out | apply below_alloc | apply pw_below_drewN | apply below_drew1 | refine below_set ?_ a8.out) | exact HB.out)) HR0.out d7.out A2.out).mono ?_); rintro e w' ⟨g972, rfl, hi, hb, hb2⟩; refine ⟨_, rfl, ?_⟩; replace HB := ak (hb); have a4 := ak (hi); have a2 := ak (IsS70.ne_blk hi (blk_below (g := a1) (o := .cells #[.slice none 0 0, .slice none 0 0] 26 (0, 0)) (xb a0.out) hb2) (by decide)); have a3 := ak (Ne.symm (IsS70.ne_blk hi (blk_below (g := a1) (o := .cells #[.slice none 0 0, .slice none 0 0] 26 (0, 0)) (xb a0.out) hb2) (by decide))); replace a0 := ak (blk_below (g := a1) (o := .cells #[.slice none 0 0, .slice none 0 0] 26 (0, 0)) (xb a0.out) hb2); (try clear hb); (try clear hb2); (try clear hk); (try clear hi)) | ((with_reducible refine gate_callee (f := 62) rfl ?_); refine gl_ (some 7) Try.func62 #[.pointer (some ⟨g972, 0, none⟩), .int .i64 14] ?_; (with_reducible refine (spec_l20Two.calls k g972 b4 b5 14 a6 a7 b8 b9 d0 w _ (by repeat (first | (with_reducible first | exact a4.out | apply IsS70.alloc | apply IsS70.drewN | apply IsS70.drew | apply IsS70.set_1 | refine IsS70.far ?_ a2.out _) | exact a4.out)) zr_0 A3.out).mono ?_); rintro e w' ⟨d8, d9, rfl, ho0, ho1, hi, hb, hk⟩; refine ⟨_, rfl, ?_⟩; replace a0 := ak (KeepBut.blk hk (g' := a1) (o := .cells #[.slice none 0 0, .slice none 0 0] 26 (0, 0)) (xb a0.out) a3.out (by simp)); have b0 := ak (Kd.S_lower ho0 (below_size zr_0)); have b1 := ak (Kd.Q_lower ho1 (below_size zr_0)); replace HB := ak (hb); replace a4 := ak (hi); (try clear hb); (try clear hb2); (try clear hk); (try clear hi); (try clear ho0); (try clear ho1); obtain ⟨b6, b7, e0⟩ := Kd.S_slice b0.out; subst e0; have e1 := a3.out; have e2 := a2.out; have d3 := cz20 a0.out; have d4 := cz21 a0.out; have d5 := blk_frozen a0.out 0; have d6 := blk_frozen a0.out 1; obtain ⟨b2, b3, d1, _⟩ := Kd.Q_slice b1.out; subst d1))
 refine bodyPost_ret (results_ctt rfl _ _ a1 26 #[.slice b6 a6.length b7, .slice b2 a7.length b3] (0, 0) _ rfl (by (with_reducible repeat (first | refine blk_drewN ?_ _ | refine blk_drew ?_ | refine blk_alloc ?_ _)); refine blk_put (cs := #[.slice b6 a6.length b7, .slice none 0 0]) ?_ 1 _ rfl; (with_reducible repeat (first | refine blk_drewN ?_ _ | refine blk_drew ?_ | refine blk_alloc ?_ _)); refine blk_put (cs := #[.slice none 0 0, .slice none 0 0]) ?_ 0 _ rfl; (with_reducible repeat (first | refine blk_drewN ?_ _ | refine blk_drew ?_ | refine blk_alloc ?_ _)); exact a0.out) Try.underlying26 rfl (by kernel_rfl)) rfl ?_
 exact ⟨_, _, (by first | rfl | (simp [errW_none, errW_some] <;> rfl) | (simp [*, errW_none, errW_some] <;> rfl)), (by (with_reducible repeat (first | apply Kd.S_alloc | apply Kd.S_drewN | apply Kd.S_drew)); exact Kd.S_mono (Kd.S_far (p := ⟨a1, 1, none⟩) (Kd.S_far (p := ⟨a1, 0, none⟩) (Kd.S_types b0.out a0.out (by decide)) (fun _ hk => hk.2) (.slice b6 a6.length b7)) (fun _ hk => hk.2) (.slice b2 a7.length b3)) (fun _ hk => hk.1)), (by (with_reducible repeat (first | apply Kd.Q_alloc | apply Kd.Q_drewN | apply Kd.Q_drew)); exact Kd.Q_mono (Kd.Q_far (p := ⟨a1, 1, none⟩) (Kd.Q_far (p := ⟨a1, 0, none⟩) (Kd.Q_types b1.out a0.out (by decide)) (fun _ hk => hk.2) (.slice b6 a6.length b7)) (fun _ hk => hk.2) (.slice b2 a7.length b3)) (fun _ hk => trivial)), zr_0⟩

end Go.Proofs.Ytjgfpiilfnchnaa.P
