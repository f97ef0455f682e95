-- written by gen.py (a program of this session) out of the kit's print of this seat's translation
import Derived.Test.YtacifhahfamipaaPk2
import Derived.Test.YtacifhahfamipaaPk3
import Derived.Test.YtacifhahfamipaaPk4
namespace Go.Proofs.Ytacifhahfamipaa.P
open Go.RowKit Go.Proofs.YtacifhahfamipaaW.PrintWords Go.Proofs.YtacifhahfamipaaW.PrintLast Go.Proofs.YtacifhahfamipaaW.PrintMore
attribute [local go_sem] max2_int min2_int max_two min_two max_three min_three max_four min_four
set_option linter.unusedVariables false
set_option linter.unusedSimpArgs false
theorem z1p_1 {p : Prop} (h : p := by repeat (first | (with_reducible first | exact HB.out | apply below_alloc | apply pw_below_drewN | apply below_drew1 | refine below_set ?_ a3.out) | exact HB.out)) : p := h
theorem z1p_0 {p : Prop} (h : p := by repeat (first | (with_reducible first | exact HB.out | apply below_alloc | apply pw_below_drewN | apply below_drew1) | exact HB.out)) : p := h
set_option maxHeartbeats 8000000 in
set_option maxRecDepth 100000 in
theorem spec_NoOf.calls (k : Nat) (A0_0 : Option Addr) (c0_0 : Nat) (l0_0 : List (List Int)) (A0_1 : Option Addr) (c0_1 : Nat) (l0_1 : List Int) (r : Int) (w : World) (hr0_0 : Kd.C (Kd.slice 3 (Kd.int .i64)) w A0_0 l0_0.length l0_0) (hc0_0 : l0_0.length ≤ c0_0) (hr0_1 : Kd.C (Kd.int .i64) w A0_1 l0_1.length l0_1) (hc0_1 : l0_1.length ≤ c0_1) (h : spec_NoOf.f k l0_0 l0_1 = some r) :
 Calls Try.prog 37 #[.agg #[.slice A0_0 l0_0.length c0_0, .slice A0_1 l0_1.length c0_1]] w fun e w' => e = .returned (.int .i64 r) ∧ Below w.heap.size w w' := by
 have hu27 := Try.underlying27
 have HR0_0 := ak hr0_0
 have a2 := ak hc0_0
 clear hr0_0 hc0_0
 have HR0_1 := ak hr0_1
 have a4 := ak hc0_1
 clear hr0_1 hc0_1
 have HB := ak (Below.refl w.heap.size w)
 have H : ((spec_LogicOk.f k l0_0 l0_1).bind fun a9 => (if a9 = true then ((spec_LeastOf.f k l0_0).bind fun b0 => (some b0.1)) else (some (-1)))) = some r := h
 clear h
 obtain ⟨a9, A2, H⟩ := bd_ H
 try dsimp only at H
 replace H := ox_ H
 rcases H with ⟨rfl, H⟩ | ⟨rfl, H⟩
 ·
  obtain ⟨⟨b2, b3⟩, A4, H⟩ := bd_ H
  try dsimp only at H
  obtain rfl := Option.some.inj H
  go_enter Try.func37, Try.ntmps37
  go_wp2_with (first | ((with_reducible refine gate_dst (N := 1) rfl ?_); refine bx_ (N := 1) (cs := #[.slice A0_0 l0_0.length c0_0, .slice A0_1 l0_1.length c0_1]) (t := 27) ?_; intro a1 hg w5 hbox hb; have a0 := ak (hbox); have b1 := ak ((by rw [hg]; exact (below_size z1p_0) : w.heap.size ≤ a1)); have a3 := ak ((by rw [hg]; exact (below_size z1p_0) : w.heap.size ≤ a1)); replace HB := ak (below_step z1p_0 hb); clear hb hbox hg; have a5 := cz20 a0.out; have a6 := cz21 a0.out; have a7 := blk_frozen a0.out 0; have a8 := blk_frozen a0.out 1) | ((with_reducible refine gate_callee (f := 30) rfl ?_); refine gl_ (some 6) Try.func30 #[.agg #[.slice A0_0 l0_0.length c0_0, .slice A0_1 l0_1.length c0_1]] ?_; (with_reducible refine (spec_LogicOk.calls k _ _ l0_0 _ _ l0_1 true _ (y3 HR0_0.out HB.out) a2.out (y3 HR0_1.out HB.out) a4.out A2.out).mono ?_); rintro e w' ⟨rfl, hb⟩; refine ⟨_, rfl, ?_⟩; replace a0 := ak (blk_below (g := a1) (o := .cells #[.slice A0_0 l0_0.length c0_0, .slice A0_1 l0_1.length c0_1] 27 (0, 0)) (xb a0.out) hb); replace HB := ak (below_step z1p_1 hb); (try clear hb); (try clear hb2); (try clear hk); (try clear hi); have a5 := cz20 a0.out; have a6 := cz21 a0.out; have a7 := blk_frozen a0.out 0; have a8 := blk_frozen a0.out 1) | ((with_reducible refine gate_callee (f := 81) rfl ?_); refine gl_ (some 11) Try.func81 #[.slice A0_0 l0_0.length c0_0] ?_; (with_reducible refine (spec_LeastOf.calls k _ _ l0_0 b2 b3 _ (y3 HR0_0.out HB.out) a2.out A4.out).mono ?_); rintro e w' ⟨rfl, ⟨nd, rfl⟩⟩; refine ⟨_, rfl, ?_⟩))
  go_ret
  exact ⟨(by first | rfl | (simp [errW_none, errW_some] <;> rfl) | (simp [*, errW_none, errW_some] <;> rfl)), z1p_1⟩
 obtain rfl := Option.some.inj H
 go_enter Try.func37, Try.ntmps37
 go_wp2_with (first | ((with_reducible refine gate_dst (N := 1) rfl ?_); refine bx_ (N := 1) (cs := #[.slice A0_0 l0_0.length c0_0, .slice A0_1 l0_1.length c0_1]) (t := 27) ?_; intro a1 hg w9 hbox hb; have a0 := ak (hbox); have b1 := ak ((by rw [hg]; exact (below_size z1p_0) : w.heap.size ≤ a1)); have a3 := ak ((by rw [hg]; exact (below_size z1p_0) : w.heap.size ≤ a1)); replace HB := ak (below_step z1p_0 hb); clear hb hbox hg; have a5 := cz20 a0.out; have a6 := cz21 a0.out; have a7 := blk_frozen a0.out 0; have a8 := blk_frozen a0.out 1) | ((with_reducible refine gate_callee (f := 30) rfl ?_); refine gl_ (some 6) Try.func30 #[.agg #[.slice A0_0 l0_0.length c0_0, .slice A0_1 l0_1.length c0_1]] ?_; (with_reducible refine (spec_LogicOk.calls k _ _ l0_0 _ _ l0_1 false _ (y3 HR0_0.out HB.out) a2.out (y3 HR0_1.out HB.out) a4.out A2.out).mono ?_); rintro e w' ⟨rfl, hb⟩; refine ⟨_, rfl, ?_⟩; replace a0 := ak (blk_below (g := a1) (o := .cells #[.slice A0_0 l0_0.length c0_0, .slice A0_1 l0_1.length c0_1] 27 (0, 0)) (xb a0.out) hb); replace HB := ak (below_step z1p_1 hb); (try clear hb); (try clear hb2); (try clear hk); (try clear hi)))
 go_ret
 exact ⟨(by first | rfl | (simp [errW_none, errW_some] <;> rfl) | (simp [*, errW_none, errW_some] <;> rfl)), z1p_1⟩

end Go.Proofs.Ytacifhahfamipaa.P
