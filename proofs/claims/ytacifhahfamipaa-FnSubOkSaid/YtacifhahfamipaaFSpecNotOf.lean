-- written by gen.py (a program of this session) out of the kit's print of this seat's translation
import Derived.Test.YtacifhahfamipaaPk2
import Derived.Test.YtacifhahfamipaaFSpecL2Both
namespace Go.Proofs.Ytacifhahfamipaa.P
open Go.RowKit Go.Proofs.YtacifhahfamipaaW.PrintWords Go.Proofs.YtacifhahfamipaaW.PrintLast Go.Proofs.YtacifhahfamipaaW.PrintMore
attribute [local go_sem] max2_int min2_int max_two min_two max_three min_three max_four min_four
set_option linter.unusedVariables false
set_option linter.unusedSimpArgs false
theorem z1q_1 {p : Prop} (h : p := by repeat (first | (with_reducible first | exact HB.out | apply below_alloc | apply pw_below_drewN | apply below_drew1 | refine below_set ?_ a3.out) | exact HB.out)) : p := h
theorem z1q_0 {p : Prop} (h : p := by repeat (first | (with_reducible first | exact HB.out | apply below_alloc | apply pw_below_drewN | apply below_drew1) | exact HB.out)) : p := h
set_option maxHeartbeats 8000000 in
set_option maxRecDepth 100000 in
theorem spec_NotOf.calls (k : Nat) (A0_0 : Option Addr) (c0_0 : Nat) (l0_0 : List (List Int)) (A0_1 : Option Addr) (c0_1 : Nat) (l0_1 : List Int) (a1 : Int) (r : Int) (w : World) (hr0_0 : Kd.C (Kd.slice 3 (Kd.int .i64)) w A0_0 l0_0.length l0_0) (hc0_0 : l0_0.length ≤ c0_0) (hr0_1 : Kd.C (Kd.int .i64) w A0_1 l0_1.length l0_1) (hc0_1 : l0_1.length ≤ c0_1) (h : spec_NotOf.f k l0_0 l0_1 a1 = some r) :
 Calls Try.prog 85 #[.agg #[.slice A0_0 l0_0.length c0_0, .slice A0_1 l0_1.length c0_1], .int .i64 a1] w fun e w' => e = .returned (.int .i64 r) ∧ Below w.heap.size w w' := by
 have hu27 := Try.underlying27
 have HR0_0 := ak hr0_0
 have a4 := ak hc0_0
 clear hr0_0 hc0_0
 have HR0_1 := ak hr0_1
 have a5 := ak hc0_1
 clear hr0_1 hc0_1
 have HB := ak (Below.refl w.heap.size w)
 have H : ((spec_l2Both.f k l0_0 l0_1 a1 a1).bind fun b1 => (if b1 = true then (if 0 ≤ a1 then (if a1 < (l0_1.length : Int) then (some (rd l0_1 a1)) else (none)) else (none)) else (some (-1)))) = some r := h
 clear h
 obtain ⟨b1, A3, H⟩ := bd_ H
 try dsimp only at H
 replace H := ox_ H
 rcases H with ⟨rfl, H⟩ | ⟨rfl, H⟩
 ·
  replace H := od2 H
  obtain ⟨b3, b4, H⟩ := H
  obtain rfl := Option.some.inj H
  go_enter Try.func85, Try.ntmps85
  go_wp2_with (first | ((with_reducible refine gate_dst (N := 2) rfl ?_); refine bx_ (N := 2) (cs := #[.slice A0_0 l0_0.length c0_0, .slice A0_1 l0_1.length c0_1]) (t := 27) ?_; intro a2 hg w7 hbox hb; have a0 := ak (hbox); have b2 := ak ((by rw [hg]; exact (below_size z1q_0) : w.heap.size ≤ a2)); have a3 := ak ((by rw [hg]; exact (below_size z1q_0) : w.heap.size ≤ a2)); replace HB := ak (below_step z1q_0 hb); clear hb hbox hg; have a6 := cz20 a0.out; have a7 := cz21 a0.out; have a8 := blk_frozen a0.out 0; have a9 := blk_frozen a0.out 1) | ((with_reducible refine gate_callee (f := 98) rfl ?_); refine gl_ (some 8) Try.func98 #[.agg #[.slice A0_0 l0_0.length c0_0, .slice A0_1 l0_1.length c0_1], .int .i64 a1, .int .i64 a1] ?_; (with_reducible refine (spec_l2Both.calls k _ _ l0_0 _ _ l0_1 a1 a1 true _ (y3 HR0_0.out HB.out) a4.out (y3 HR0_1.out HB.out) a5.out A3.out).mono ?_); rintro e w' ⟨rfl, hb⟩; refine ⟨_, rfl, ?_⟩; replace a0 := ak (blk_below (g := a2) (o := .cells #[.slice A0_0 l0_0.length c0_0, .slice A0_1 l0_1.length c0_1] 27 (0, 0)) (xb a0.out) hb); replace HB := ak (below_step z1q_1 hb); (try clear hb); (try clear hb2); (try clear hk); (try clear hi); have a6 := cz20 a0.out; have a7 := cz21 a0.out; have a8 := blk_frozen a0.out 0; have a9 := blk_frozen a0.out 1; have b0 : 0 ≤ (a1 : Int) := oa_; have q780 : a1 < (l0_1.length : Int) := oa_; obtain ⟨ad780, e780, hx780_0⟩ := Kd.at_int HR0_1.out a1 b0 q780; cases e780; replace hx780_0 := (HB.out.cell (World.block_lt_of_cell? w _ hx780_0)).trans hx780_0; replace b0 := eq_true b0; replace q780 := eq_true q780))
  go_ret
  exact ⟨(by first | rfl | (simp [errW_none, errW_some] <;> rfl) | (simp [*, errW_none, errW_some] <;> rfl)), z1q_1⟩
 obtain rfl := Option.some.inj H
 go_enter Try.func85, Try.ntmps85
 go_wp2_with (first | ((with_reducible refine gate_dst (N := 2) rfl ?_); refine bx_ (N := 2) (cs := #[.slice A0_0 l0_0.length c0_0, .slice A0_1 l0_1.length c0_1]) (t := 27) ?_; intro a2 hg b5 hbox hb; have a0 := ak (hbox); have b2 := ak ((by rw [hg]; exact (below_size z1q_0) : w.heap.size ≤ a2)); have a3 := ak ((by rw [hg]; exact (below_size z1q_0) : w.heap.size ≤ a2)); replace HB := ak (below_step z1q_0 hb); clear hb hbox hg; have a6 := cz20 a0.out; have a7 := cz21 a0.out; have a8 := blk_frozen a0.out 0; have a9 := blk_frozen a0.out 1) | ((with_reducible refine gate_callee (f := 98) rfl ?_); refine gl_ (some 8) Try.func98 #[.agg #[.slice A0_0 l0_0.length c0_0, .slice A0_1 l0_1.length c0_1], .int .i64 a1, .int .i64 a1] ?_; (with_reducible refine (spec_l2Both.calls k _ _ l0_0 _ _ l0_1 a1 a1 false _ (y3 HR0_0.out HB.out) a4.out (y3 HR0_1.out HB.out) a5.out A3.out).mono ?_); rintro e w' ⟨rfl, hb⟩; refine ⟨_, rfl, ?_⟩; replace a0 := ak (blk_below (g := a2) (o := .cells #[.slice A0_0 l0_0.length c0_0, .slice A0_1 l0_1.length c0_1] 27 (0, 0)) (xb a0.out) hb); replace HB := ak (below_step z1q_1 hb); (try clear hb); (try clear hb2); (try clear hk); (try clear hi)))
 go_ret
 exact ⟨(by first | rfl | (simp [errW_none, errW_some] <;> rfl) | (simp [*, errW_none, errW_some] <;> rfl)), z1q_1⟩

end Go.Proofs.Ytacifhahfamipaa.P
