-- written by gen.py (a program of this session) out of the kit's print of this seat's translation
import Derived.Test.YtjgfpiilfnchnaaPk2
import Derived.Test.YtjgfpiilfnchnaaPk3
import Derived.Test.YtjgfpiilfnchnaaFSpecL2Both
namespace Go.Proofs.Ytjgfpiilfnchnaa.P
open Go.RowKit Go.Proofs.YtjgfpiilfnchnaaW.PrintWords Go.Proofs.YtjgfpiilfnchnaaW.PrintLast Go.Proofs.YtjgfpiilfnchnaaW.PrintMore
attribute [local go_sem] max2_int min2_int max_two min_two max_three min_three max_four min_four
set_option linter.unusedVariables false
set_option linter.unusedSimpArgs false
theorem zm_1 {p : Prop} (h : p := by repeat (first | (with_reducible first | exact HB.out | apply below_alloc | apply pw_below_drewN | apply below_drew1 | refine below_set ?_ a5.out) | exact HB.out)) : p := h
theorem zm_0 {p : Prop} (h : p := by repeat (first | (with_reducible first | exact HB.out | apply below_alloc | apply pw_below_drewN | apply below_drew1) | exact HB.out)) : p := h
set_option maxHeartbeats 8000000 in
set_option maxRecDepth 100000 in
theorem spec_AndOf.calls (k : Nat) (A0_0 : Option Addr) (c0_0 : Nat) (l0_0 : List (List Int)) (A0_1 : Option Addr) (c0_1 : Nat) (l0_1 : List Int) (a1 : Int) (a2 : Int) (r : Int) (w : World) (hr0_0 : Kd.C (Kd.slice 3 (Kd.int .i64)) w A0_0 l0_0.length l0_0) (hc0_0 : l0_0.length ≤ c0_0) (hr0_1 : Kd.C (Kd.int .i64) w A0_1 l0_1.length l0_1) (hc0_1 : l0_1.length ≤ c0_1) (h : spec_AndOf.f k l0_0 l0_1 a1 a2 = some r) :
 Calls Try.prog 28 #[.agg #[.slice A0_0 l0_0.length c0_0, .slice A0_1 l0_1.length c0_1], .int .i64 a1, .int .i64 a2] w fun e w' => e = .returned (.int .i64 r) ∧ Below w.heap.size w w' := by
 have hu26 := Try.underlying26
 have HR0_0 := ak hr0_0
 have a4 := ak hc0_0
 clear hr0_0 hc0_0
 have HR0_1 := ak hr0_1
 have a6 := ak hc0_1
 clear hr0_1 hc0_1
 have HB := ak (Below.refl w.heap.size w)
 have H : ((spec_l2Both.f k l0_0 l0_1 a1 a2).bind fun b2 => (if b2 = true then ((spec_l1Meet.f k l0_0 a1 a2).bind fun b1 => (some b1)) else (some (-1)))) = some r := h
 clear h
 obtain ⟨b2, A4, H⟩ := bd_ H
 try dsimp only at H
 replace H := ox_ H
 rcases H with ⟨rfl, H⟩ | ⟨rfl, H⟩
 ·
  obtain ⟨b1, A6, H⟩ := bd_ H
  try dsimp only at H
  obtain rfl := Option.some.inj H
  go_enter Try.func28, Try.ntmps28
  go_wp2_with (first | ((with_reducible refine gate_dst (N := 3) rfl ?_); refine bx_ (N := 3) (cs := #[.slice A0_0 l0_0.length c0_0, .slice A0_1 l0_1.length c0_1]) (t := 26) ?_; intro a3 hg w7 hbox hb; have a0 := ak (hbox); have b3 := ak ((by rw [hg]; exact (below_size zm_0) : w.heap.size ≤ a3)); have a5 := ak ((by rw [hg]; exact (below_size zm_0) : w.heap.size ≤ a3)); replace HB := ak (below_step zm_0 hb); clear hb hbox hg; have a7 := cz20 a0.out; have a8 := cz21 a0.out; have a9 := blk_frozen a0.out 0; have b0 := blk_frozen a0.out 1) | ((with_reducible refine gate_callee (f := 64) rfl ?_); refine gl_ (some 10) Try.func64 #[.agg #[.slice A0_0 l0_0.length c0_0, .slice A0_1 l0_1.length c0_1], .int .i64 a1, .int .i64 a2] ?_; (with_reducible refine (spec_l2Both.calls k _ _ l0_0 _ _ l0_1 a1 a2 true _ (y3 HR0_0.out HB.out) a4.out (y3 HR0_1.out HB.out) a6.out A4.out).mono ?_); rintro e w' ⟨rfl, hb⟩; refine ⟨_, rfl, ?_⟩; replace a0 := ak (blk_below (g := a3) (o := .cells #[.slice A0_0 l0_0.length c0_0, .slice A0_1 l0_1.length c0_1] 26 (0, 0)) (xb a0.out) hb); replace HB := ak (below_step zm_1 hb); (try clear hb); (try clear hb2); (try clear hk); (try clear hi); have a7 := cz20 a0.out; have a8 := cz21 a0.out; have a9 := blk_frozen a0.out 0; have b0 := blk_frozen a0.out 1) | ((with_reducible refine gate_callee (f := 60) rfl ?_); refine gl_ (some 16) Try.func60 #[.slice A0_0 l0_0.length c0_0, .int .i64 a1, .int .i64 a2] ?_; (with_reducible refine (spec_l1Meet.calls k _ _ l0_0 a1 a2 b1 _ (y3 HR0_0.out HB.out) a4.out A6.out).mono ?_); rintro e w' ⟨rfl, ⟨nd, rfl⟩⟩; refine ⟨_, rfl, ?_⟩))
  go_ret
  exact ⟨(by first | rfl | (simp [errW_none, errW_some] <;> rfl) | (simp [*, errW_none, errW_some] <;> rfl)), zm_1⟩
 obtain rfl := Option.some.inj H
 go_enter Try.func28, Try.ntmps28
 go_wp2_with (first | ((with_reducible refine gate_dst (N := 3) rfl ?_); refine bx_ (N := 3) (cs := #[.slice A0_0 l0_0.length c0_0, .slice A0_1 l0_1.length c0_1]) (t := 26) ?_; intro a3 hg b4 hbox hb; have a0 := ak (hbox); have b3 := ak ((by rw [hg]; exact (below_size zm_0) : w.heap.size ≤ a3)); have a5 := ak ((by rw [hg]; exact (below_size zm_0) : w.heap.size ≤ a3)); replace HB := ak (below_step zm_0 hb); clear hb hbox hg; have a7 := cz20 a0.out; have a8 := cz21 a0.out; have a9 := blk_frozen a0.out 0; have b0 := blk_frozen a0.out 1) | ((with_reducible refine gate_callee (f := 64) rfl ?_); refine gl_ (some 10) Try.func64 #[.agg #[.slice A0_0 l0_0.length c0_0, .slice A0_1 l0_1.length c0_1], .int .i64 a1, .int .i64 a2] ?_; (with_reducible refine (spec_l2Both.calls k _ _ l0_0 _ _ l0_1 a1 a2 false _ (y3 HR0_0.out HB.out) a4.out (y3 HR0_1.out HB.out) a6.out A4.out).mono ?_); rintro e w' ⟨rfl, hb⟩; refine ⟨_, rfl, ?_⟩; replace a0 := ak (blk_below (g := a3) (o := .cells #[.slice A0_0 l0_0.length c0_0, .slice A0_1 l0_1.length c0_1] 26 (0, 0)) (xb a0.out) hb); replace HB := ak (below_step zm_1 hb); (try clear hb); (try clear hb2); (try clear hk); (try clear hi)))
 go_ret
 exact ⟨(by first | rfl | (simp [errW_none, errW_some] <;> rfl) | (simp [*, errW_none, errW_some] <;> rfl)), zm_1⟩

end Go.Proofs.Ytjgfpiilfnchnaa.P
