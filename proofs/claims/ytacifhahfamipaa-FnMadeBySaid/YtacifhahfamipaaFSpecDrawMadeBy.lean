-- written by gen.py (a program of this session) out of the kit's print of this seat's translation
import Derived.Test.YtacifhahfamipaaPk2
import Derived.Test.YtacifhahfamipaaFSpecL20Some
namespace Go.Proofs.Ytacifhahfamipaa.P
open Go.RowKit Go.Proofs.YtacifhahfamipaaW.PrintWords Go.Proofs.YtacifhahfamipaaW.PrintLast Go.Proofs.YtacifhahfamipaaW.PrintMore
attribute [local go_sem] max2_int min2_int max_two min_two max_three min_three max_four min_four
set_option linter.unusedVariables false
set_option linter.unusedSimpArgs false
theorem zw_1 {p : Prop} (h : p := by repeat (first | (with_reducible first | exact HB.out | apply below_alloc | apply pw_below_drewN | apply below_drew1) | exact HB.out)) : p := h
theorem zw_0 {p : Prop} (h : p := by repeat (first | (with_reducible first | exact HB.out | apply below_alloc | apply pw_below_drewN | apply below_drew1 | refine below_set ?_ (IsS80.ge a4.out) | refine below_set ?_ a8.out) | exact HB.out)) : p := h
set_option maxHeartbeats 8000000 in
set_option maxRecDepth 100000 in
theorem spec_DrawMadeBy.calls (k : Nat) (A0 : Option Addr) (c0 : Nat) (l0 : List Int) (r1 : List (List Int)) (r2 : List Int) (r3 : Int) (w : World) (hr0 : Kd.C (Kd.int .u8) w A0 l0.length l0) (hc0 : l0.length ≤ c0) (h : spec_DrawMadeBy.f k l0 = some (r1, r2, r3)) :
 Calls Try.prog 31 #[.slice A0 l0.length c0] w fun e w' => ∃ v0_ v1_ : Value, e = .returned (.tuple #[.agg #[v0_, v1_], .int .i64 r3]) ∧ Kd.S (Kd.slice 3 (Kd.int .i64)) 25 w' w.heap.size (fun k_ => some k_ ≠ (v1_ : Value).ownBlock) v0_ r1 ∧ Kd.Q (Kd.int .i64) 3 w' w.heap.size (fun _ => True) v1_ r2 ∧ Below w.heap.size w w' := by
 have hu27 := Try.underlying27
 have HR0 := ak hr0
 have d6 := ak hc0
 clear hr0 hc0
 have HB := ak (Below.refl w.heap.size w)
 have H : ((spec_l20Open.f l0).bind fun a9 => ((spec_l20Some.f k a9.1 a9.2 12).bind fun a5 => (some (a5.1, a5.2.1, a5.2.2.1)))) = some (r1, r2, r3) := h
 clear h
 obtain ⟨⟨b4, b5⟩, A2, H⟩ := bd_ H
 try dsimp only at H
 obtain ⟨⟨a6, a7, b8, b9⟩, A3, H⟩ := bd_ H
 try dsimp only at H
 simp only [Option.some.injEq, Prod.mk.injEq] at H
 obtain ⟨rfl, rfl, rfl⟩ := H
 go_enter Try.func31, Try.ntmps31
 go_wp2_with (first | ((with_reducible refine gate_dst (N := 2) rfl ?_); refine bx_ (N := 2) (cs := #[.slice none 0 0, .slice none 0 0]) (t := 27) ?_; intro a1 hg w4 hbox hb; have a0 := ak (hbox); have d1 := ak ((by rw [hg]; exact (below_size zw_1) : w.heap.size ≤ a1)); have a8 := ak ((by rw [hg]; exact (below_size zw_1) : w.heap.size ≤ a1)); replace HB := ak (below_step zw_1 hb); clear hb hbox hg) | ((with_reducible refine gate_callee (f := 61) rfl ?_); refine gl_ (some 5) Try.func61 #[.slice A0 l0.length c0] ?_; (with_reducible refine (spec_l20Open.calls _ _ l0 b4 b5 w _ (by repeat (first | (with_reducible first | exact HB.out | apply below_alloc | apply pw_below_drewN | apply below_drew1 | refine below_set ?_ a8.out) | exact HB.out)) HR0.out d6.out A2.out).mono ?_); rintro e w' ⟨g733, rfl, hi, hb, hb2⟩; refine ⟨_, rfl, ?_⟩; replace HB := ak (hb); have a4 := ak (hi); have a2 := ak (IsS80.ne_blk hi (blk_below (g := a1) (o := .cells #[.slice none 0 0, .slice none 0 0] 27 (0, 0)) (xb a0.out) hb2) (by decide)); have a3 := ak (Ne.symm (IsS80.ne_blk hi (blk_below (g := a1) (o := .cells #[.slice none 0 0, .slice none 0 0] 27 (0, 0)) (xb a0.out) hb2) (by decide))); replace a0 := ak (blk_below (g := a1) (o := .cells #[.slice none 0 0, .slice none 0 0] 27 (0, 0)) (xb a0.out) hb2); (try clear hb); (try clear hb2); (try clear hk); (try clear hi)) | ((with_reducible refine gate_callee (f := 82) rfl ?_); refine gl_ (some 6) Try.func82 #[.pointer (some ⟨g733, 0, none⟩), .int .i64 12] ?_; (with_reducible refine (spec_l20Some.calls k g733 b4 b5 12 a6 a7 b8 b9 w _ (by repeat (first | (with_reducible first | exact a4.out | apply IsS80.alloc | apply IsS80.drewN | apply IsS80.drew | apply IsS80.set_1 | refine IsS80.far ?_ a2.out _) | exact a4.out)) zw_0 A3.out).mono ?_); rintro e w' ⟨d7, d8, rfl, ho0, ho1, hi, hb, hk⟩; refine ⟨_, rfl, ?_⟩; replace a0 := ak (KeepBut.blk hk (g' := a1) (o := .cells #[.slice none 0 0, .slice none 0 0] 27 (0, 0)) (xb a0.out) a3.out (by simp)); have b0 := ak (Kd.S_lower ho0 (below_size zw_0)); have b1 := ak (Kd.Q_lower ho1 (below_size zw_0)); replace HB := ak (hb); replace a4 := ak (hi); (try clear hb); (try clear hb2); (try clear hk); (try clear hi); (try clear ho0); (try clear ho1); obtain ⟨b6, b7, d9⟩ := Kd.S_slice b0.out; subst d9; have e0 := a3.out; have e1 := a2.out; have d2 := cz20 a0.out; have d3 := cz21 a0.out; have d4 := blk_frozen a0.out 0; have d5 := blk_frozen a0.out 1; obtain ⟨b2, b3, d0, _⟩ := Kd.Q_slice b1.out; subst d0))
 refine bodyPost_ret (results_ct rfl _ _ a1 27 #[.slice b6 a6.length b7, .slice b2 a7.length b3] (0, 0) _ rfl (by (with_reducible repeat (first | refine blk_drewN ?_ _ | refine blk_drew ?_ | refine blk_alloc ?_ _)); refine blk_put (cs := #[.slice b6 a6.length b7, .slice none 0 0]) ?_ 1 _ rfl; (with_reducible repeat (first | refine blk_drewN ?_ _ | refine blk_drew ?_ | refine blk_alloc ?_ _)); refine blk_put (cs := #[.slice none 0 0, .slice none 0 0]) ?_ 0 _ rfl; (with_reducible repeat (first | refine blk_drewN ?_ _ | refine blk_drew ?_ | refine blk_alloc ?_ _)); exact a0.out) Try.underlying27 rfl (by kernel_rfl)) rfl ?_
 exact ⟨_, _, (by first | rfl | (simp [errW_none, errW_some] <;> rfl) | (simp [*, errW_none, errW_some] <;> rfl)), (by (with_reducible repeat (first | apply Kd.S_alloc | apply Kd.S_drewN | apply Kd.S_drew)); exact Kd.S_mono (Kd.S_far (p := ⟨a1, 1, none⟩) (Kd.S_far (p := ⟨a1, 0, none⟩) (Kd.S_types b0.out a0.out (by decide)) (fun _ hk => hk.2) (.slice b6 a6.length b7)) (fun _ hk => hk.2) (.slice b2 a7.length b3)) (fun _ hk => hk.1)), (by (with_reducible repeat (first | apply Kd.Q_alloc | apply Kd.Q_drewN | apply Kd.Q_drew)); exact Kd.Q_mono (Kd.Q_far (p := ⟨a1, 1, none⟩) (Kd.Q_far (p := ⟨a1, 0, none⟩) (Kd.Q_types b1.out a0.out (by decide)) (fun _ hk => hk.2) (.slice b6 a6.length b7)) (fun _ hk => hk.2) (.slice b2 a7.length b3)) (fun _ hk => trivial)), zw_0⟩

end Go.Proofs.Ytacifhahfamipaa.P
