-- written by gen.py (a program of this session) out of the kit's print of this seat's translation
import Derived.Test.YtacifhahfamipaaPk2
import Derived.Test.YtacifhahfamipaaPk3
import Derived.Test.YtacifhahfamipaaPk4
namespace Go.Proofs.Ytacifhahfamipaa.P
open Go.RowKit Go.Proofs.YtacifhahfamipaaW.PrintWords Go.Proofs.YtacifhahfamipaaW.PrintLast Go.Proofs.YtacifhahfamipaaW.PrintMore
attribute [local go_sem] max2_int min2_int max_two min_two max_three min_three max_four min_four
set_option linter.unusedVariables false
set_option linter.unusedSimpArgs false
theorem z1i_2 {p : Prop} (h : p := by first | rfl | (simp [errW_none, errW_some] <;> rfl) | (simp [*, errW_none, errW_some] <;> rfl)) : p := h
theorem z1i_1 {p : Prop} (h : p := by repeat (first | (with_reducible first | exact HB.out | apply below_alloc | apply pw_below_drewN | apply below_drew1 | refine below_set ?_ a8.out) | exact HB.out)) : p := h
theorem z1i_0 {p : Prop} (h : p := by repeat (first | (with_reducible first | exact HB.out | apply below_alloc | apply pw_below_drewN | apply below_drew1) | exact HB.out)) : p := h
set_option maxHeartbeats 8000000 in
set_option maxRecDepth 100000 in
theorem spec_l2Both.calls (k : Nat) (A0_0 : Option Addr) (c0_0 : Nat) (l0_0 : List (List Int)) (A0_1 : Option Addr) (c0_1 : Nat) (l0_1 : List Int) (a1 : Int) (a2 : Int) (r : Bool) (w : World) (hr0_0 : Kd.C (Kd.slice 3 (Kd.int .i64)) w A0_0 l0_0.length l0_0) (hc0_0 : l0_0.length ≤ c0_0) (hr0_1 : Kd.C (Kd.int .i64) w A0_1 l0_1.length l0_1) (hc0_1 : l0_1.length ≤ c0_1) (h : spec_l2Both.f k l0_0 l0_1 a1 a2 = some r) :
 Calls Try.prog 98 #[.agg #[.slice A0_0 l0_0.length c0_0, .slice A0_1 l0_1.length c0_1], .int .i64 a1, .int .i64 a2] w fun e w' => e = .returned (.bool r) ∧ Below w.heap.size w w' := by
 have hu27 := Try.underlying27
 have HR0_0 := ak hr0_0
 have a9 := ak hc0_0
 clear hr0_0 hc0_0
 have HR0_1 := ak hr0_1
 have b0 := ak hc0_1
 clear hr0_1 hc0_1
 have HB := ak (Below.refl w.heap.size w)
 have H : ((spec_LogicOk.f k l0_0 l0_1).bind fun b3 => (if b3 = true then ((spec_l1In.f a1 0 (wrap64 ((l0_1.length : Int) - 1))).bind fun b4 => (if b4 = true then ((spec_l1In.f a2 0 (wrap64 ((l0_1.length : Int) - 1))).bind fun b2 => (some b2)) else (some false))) else (some false))) = some r := h
 clear h
 obtain ⟨b3, A4, H⟩ := bd_ H
 try dsimp only at H
 replace H := ox_ H
 rcases H with ⟨rfl, H⟩ | ⟨rfl, H⟩
 ·
  obtain ⟨b4, A6, H⟩ := bd_ H
  try dsimp only at H
  replace H := ox_ H
  rcases H with ⟨rfl, H⟩ | ⟨rfl, H⟩
  ·
   obtain ⟨b2, A8, H⟩ := bd_ H
   try dsimp only at H
   obtain rfl := Option.some.inj H
   go_enter Try.func98, Try.ntmps98
   go_wp2_with (first | ((with_reducible refine gate_dst (N := 3) rfl ?_); (try (refine gate_guard (by rfl) ?_; dsimp only)); refine box_event ?hg (N := 3) ?hd (cs := #[.slice A0_0 l0_0.length c0_0, .slice A0_1 l0_1.length c0_1]) (t := 27) ?hr ?_; (case hd => rfl); (case hg => rfl); (case hr => first | (go_simp; done) | (go_simp; rfl)); intro a3 hg w9 hbox hb; have a0 := ak (hbox); have b1 := ak ((by rw [hg]; exact (below_size z1i_0) : w.heap.size ≤ a3)); have a8 := ak ((by rw [hg]; exact (below_size z1i_0) : w.heap.size ≤ a3)); replace HB := ak (below_step z1i_0 hb); clear hb hbox hg; have a4 := cz20 a0.out; have a5 := cz21 a0.out; have a6 := blk_frozen a0.out 0; have a7 := blk_frozen a0.out 1) | ((with_reducible refine gate_callee (f := 30) rfl ?_); refine gl_ (some 8) Try.func30 #[.agg #[.slice A0_0 l0_0.length c0_0, .slice A0_1 l0_1.length c0_1]] ?_; (with_reducible refine (spec_LogicOk.calls k _ _ l0_0 _ _ l0_1 true _ (y3 HR0_0.out HB.out) a9.out (y3 HR0_1.out HB.out) b0.out A4.out).mono ?_); rintro e w' ⟨rfl, hb⟩; refine ⟨_, rfl, ?_⟩; replace a0 := ak (blk_below (g := a3) (o := .cells #[.slice A0_0 l0_0.length c0_0, .slice A0_1 l0_1.length c0_1] 27 (0, 0)) (xb a0.out) hb); replace HB := ak (below_step z1i_1 hb); (try clear hb); (try clear hb2); (try clear hk); (try clear hi); have a4 := cz20 a0.out; have a5 := cz21 a0.out; have a6 := blk_frozen a0.out 0; have a7 := blk_frozen a0.out 1) | (go_at_call 72; (with_reducible refine (spec_l1In.calls a1 0 (wrap64 ((l0_1.length : Int) - 1)) true _ A6.out).mono ?_); rintro e w' ⟨rfl, ⟨nd, rfl⟩⟩) | (go_at_call 72; (with_reducible refine (spec_l1In.calls a2 0 (wrap64 ((l0_1.length : Int) - 1)) b2 _ A8.out).mono ?_); rintro e w' ⟨rfl, ⟨nd, rfl⟩⟩))
   go_ret
   exact ⟨z1i_2, z1i_1⟩
  obtain rfl := Option.some.inj H
  go_enter Try.func98, Try.ntmps98
  go_wp2_with (first | ((with_reducible refine gate_dst (N := 3) rfl ?_); (try (refine gate_guard (by rfl) ?_; dsimp only)); refine box_event ?hg (N := 3) ?hd (cs := #[.slice A0_0 l0_0.length c0_0, .slice A0_1 l0_1.length c0_1]) (t := 27) ?hr ?_; (case hd => rfl); (case hg => rfl); (case hr => first | (go_simp; done) | (go_simp; rfl)); intro a3 hg b5 hbox hb; have a0 := ak (hbox); have b1 := ak ((by rw [hg]; exact (below_size z1i_0) : w.heap.size ≤ a3)); have a8 := ak ((by rw [hg]; exact (below_size z1i_0) : w.heap.size ≤ a3)); replace HB := ak (below_step z1i_0 hb); clear hb hbox hg; have a4 := cz20 a0.out; have a5 := cz21 a0.out; have a6 := blk_frozen a0.out 0; have a7 := blk_frozen a0.out 1) | ((with_reducible refine gate_callee (f := 30) rfl ?_); refine gl_ (some 8) Try.func30 #[.agg #[.slice A0_0 l0_0.length c0_0, .slice A0_1 l0_1.length c0_1]] ?_; (with_reducible refine (spec_LogicOk.calls k _ _ l0_0 _ _ l0_1 true _ (y3 HR0_0.out HB.out) a9.out (y3 HR0_1.out HB.out) b0.out A4.out).mono ?_); rintro e w' ⟨rfl, hb⟩; refine ⟨_, rfl, ?_⟩; replace a0 := ak (blk_below (g := a3) (o := .cells #[.slice A0_0 l0_0.length c0_0, .slice A0_1 l0_1.length c0_1] 27 (0, 0)) (xb a0.out) hb); replace HB := ak (below_step z1i_1 hb); (try clear hb); (try clear hb2); (try clear hk); (try clear hi); have a4 := cz20 a0.out; have a5 := cz21 a0.out; have a6 := blk_frozen a0.out 0; have a7 := blk_frozen a0.out 1) | (go_at_call 72; (with_reducible refine (spec_l1In.calls a1 0 (wrap64 ((l0_1.length : Int) - 1)) false _ A6.out).mono ?_); rintro e w' ⟨rfl, ⟨nd, rfl⟩⟩))
  go_ret
  exact ⟨z1i_2, z1i_1⟩
 obtain rfl := Option.some.inj H
 go_enter Try.func98, Try.ntmps98
 go_wp2_with (first | ((with_reducible refine gate_dst (N := 3) rfl ?_); (try (refine gate_guard (by rfl) ?_; dsimp only)); refine box_event ?hg (N := 3) ?hd (cs := #[.slice A0_0 l0_0.length c0_0, .slice A0_1 l0_1.length c0_1]) (t := 27) ?hr ?_; (case hd => rfl); (case hg => rfl); (case hr => first | (go_simp; done) | (go_simp; rfl)); intro a3 hg b6 hbox hb; have a0 := ak (hbox); have b1 := ak ((by rw [hg]; exact (below_size z1i_0) : w.heap.size ≤ a3)); have a8 := ak ((by rw [hg]; exact (below_size z1i_0) : w.heap.size ≤ a3)); replace HB := ak (below_step z1i_0 hb); clear hb hbox hg; have a4 := cz20 a0.out; have a5 := cz21 a0.out; have a6 := blk_frozen a0.out 0; have a7 := blk_frozen a0.out 1) | ((with_reducible refine gate_callee (f := 30) rfl ?_); refine gl_ (some 8) Try.func30 #[.agg #[.slice A0_0 l0_0.length c0_0, .slice A0_1 l0_1.length c0_1]] ?_; (with_reducible refine (spec_LogicOk.calls k _ _ l0_0 _ _ l0_1 false _ (y3 HR0_0.out HB.out) a9.out (y3 HR0_1.out HB.out) b0.out A4.out).mono ?_); rintro e w' ⟨rfl, hb⟩; refine ⟨_, rfl, ?_⟩; replace a0 := ak (blk_below (g := a3) (o := .cells #[.slice A0_0 l0_0.length c0_0, .slice A0_1 l0_1.length c0_1] 27 (0, 0)) (xb a0.out) hb); replace HB := ak (below_step z1i_1 hb); (try clear hb); (try clear hb2); (try clear hk); (try clear hi)))
 go_ret
 exact ⟨z1i_2, z1i_1⟩

end Go.Proofs.Ytacifhahfamipaa.P
