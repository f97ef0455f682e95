-- written by gen.py (a program of this session) out of the kit's print of this seat's translation
import Derived.Test.YtjgfpiilfnchnaaPk2
import Derived.Test.YtjgfpiilfnchnaaPk7
import Derived.Test.YtjgfpiilfnchnaaPk3
namespace Go.Proofs.Ytjgfpiilfnchnaa.P
open Go.RowKit Go.Proofs.YtjgfpiilfnchnaaW.PrintWords Go.Proofs.YtjgfpiilfnchnaaW.PrintLast Go.Proofs.YtjgfpiilfnchnaaW.PrintMore
attribute [local go_sem] max2_int min2_int max_two min_two max_three min_three max_four min_four
set_option linter.unusedVariables false
set_option linter.unusedSimpArgs false
def spec_l20Two.T3 : Bool × List (List Nat × List Nat) := (true, [([], []), ([], []), ([], []), ([1, 2], [1, 2]), ([], []), ([4, 3], [4]), ([5], [5]), ([6], [6]), ([3, 7], [3, 7]), ([], []), ([], []), ([9, 10, 5], [9, 10]), ([], []), ([12, 11], [12]), ([13], [13]), ([14], [14]), ([11, 15], [11, 15]), ([0, 13, 0], [0]), ([8, 17, 0, 1, 2, 3, 4, 5, 6, 7, 8, 17], [8]), ([16, 18, 0, 1, 2, 3, 4, 5, 6, 7, 8, 9, 10, 11, 12, 13, 14, 15, 16, 17, 18], [16])])
def spec_l20Two.B3 : List Nat := [0, 0, 0, 6, 0, 30, 62, 126, 254, 0, 0, 1598, 0, 7742, 15934, 32318, 65086, 15935, 147455, 524287]
theorem spec_l20Two.tab3 : rtab .any (opsOf Try.f62 3) = spec_l20Two.T3 := by kernel_rfl
theorem spec_l20Two.bits3 : waitsOk spec_l20Two.T3.2 spec_l20Two.B3 = true := by kernel_rfl
theorem z1f_7 {p : Prop} (h : p := by (try simp only [List.map_toArray, List.map_cons, List.map_nil]); first | done | (simp only [hji4]; rfl) | rfl | (simp only [List.length_drop, List.length_take]; rfl)) : p := h
theorem z1f_6 {p : Prop} (h : p := by repeat (first | (with_reducible first | exact a7.out | apply IsS70.alloc | apply IsS70.drewN | apply IsS70.drew | apply IsS70.set_1 | refine IsS70.far ?_ a3.out _) | exact a7.out)) : p := h
theorem z1f_5 {p : Prop} (h : p := by repeat (first | (with_reducible first | exact HB.out | apply below_alloc | apply pw_below_drewN | apply below_drew1 | refine below_set ?_ (IsS70.ge a7.out) | refine below_set ?_ d0.out) | exact HB.out)) : p := h
theorem z1f_4 {p : Prop} (h : p := by repeat (first | (with_reducible first | exact a7.out | apply IsS70.alloc | apply IsS70.drewN | apply IsS70.drew | apply IsS70.set_1 | refine IsS70.far ?_ a3.out _ | refine IsS70.far ?_ a6.out _) | exact a7.out)) : p := h
theorem z1f_3 {p : Prop} (h : p := by repeat (first | (with_reducible first | exact HB.out | apply below_alloc | apply pw_below_drewN | apply below_drew1 | refine below_set ?_ (IsS70.ge a7.out) | refine below_set ?_ d0.out | refine below_set ?_ d1.out) | exact HB.out)) : p := h
theorem z1f_2 {p : Prop} (h : p := by repeat (first | (with_reducible first | exact HK.out | apply KeepBut.set_ | apply keep_drewN | apply keep_drew | apply keep_alloc) | exact HK.out)) : p := h
theorem z1f_1 {p : Prop} (h : p := by repeat (first | (with_reducible first | exact HK.out | apply KeepBut.set_ | apply keep_drewN | apply keep_drew | apply keep_alloc | refine keep_far ?_ e1.out _) | exact HK.out)) : p := h
theorem z1f_0 {p : Prop} (h : p := by repeat (first | (with_reducible first | exact HK.out | apply KeepBut.set_ | apply keep_drewN | apply keep_drew | apply keep_alloc | refine keep_far ?_ e1.out _ | refine keep_far ?_ e3.out _) | exact HK.out)) : p := h
set_option maxHeartbeats 8000000 in
set_option maxRecDepth 100000 in
theorem spec_l20Two.calls (k : Nat) (g : Nat) (s0_0 : List Int) (s0_1 : Int) (a1 : Int) (r1 : List (List Int)) (r2 : List Int) (r3 : Int) (r4 : Int) (r5 : Int) (w0 w : World) (hI : IsS70 w0 w g s0_0 s0_1) (hB : Below w0.heap.size w0 w) (h : spec_l20Two.f k s0_0 s0_1 a1 = some (r1, r2, r3, r4, r5)) :
 Calls Try.prog 62 #[.pointer (some ⟨g, 0, none⟩), .int .i64 a1] w fun e w' => ∃ v0_ v1_ : Value, e = .returned (.tuple #[.agg #[v0_, v1_], .int .i64 r3, .int .i64 r4]) ∧ Kd.S (Kd.slice 3 (Kd.int .i64)) 24 w' w.heap.size (fun k_ => some k_ ≠ (v1_ : Value).ownBlock) v0_ r1 ∧ Kd.Q (Kd.int .i64) 3 w' w.heap.size (fun _ => True) v1_ r2 ∧ IsS70 w0 w' g s0_0 r5 ∧ Below w0.heap.size w0 w' ∧ KeepBut w w' g none := by
 have hu26 := Try.underlying26
 have a7 := ak hI
 have HK := ak (KeepBut.refl w g none)
 have HL := ak hB.size
 clear hI
 have HW0 := ak hB.size
 have HB := ak hB
 clear hB
 have H : ((spec_l20Logic.f k s0_0 s0_1 a1).bind fun d2 => ((spec_l20Rd_pick.f k s0_0 d2.2.2 (mx (d2.2.1.length : Int) 1)).bind fun d3 => ((spec_l20Rd_pick.f k s0_0 d3.2 40).bind fun d4 => ((spec_l20Rd_pick.f k s0_0 d4.2 (mx (d2.2.1.length : Int) 1)).bind fun d5 => ((spec_l20Rd_pick.f k s0_0 d5.2 40).bind fun d6 => (some (d2.1, d2.2.1, wrap64 (d3.1 + (wrap64 ((wrap64 (Int.tdiv d4.1 39)) * 12))), wrap64 (d5.1 - (wrap64 ((wrap64 (Int.tdiv d6.1 39)) * 12))), d6.2))))))) = some (r1, r2, r3, r4, r5) := h
 clear h
 obtain ⟨⟨b2, b0, d7⟩, A3, H⟩ := bd_ H
 try dsimp only at H
 obtain ⟨ji4, hji4⟩ : ∃ j_ : Int, (mx (b0.length : Int) 1) = j_ := ⟨_, rfl⟩
 replace H : ((spec_l20Rd_pick.f k s0_0 d7 (ji4)).bind fun d3 => ((spec_l20Rd_pick.f k s0_0 d3.2 40).bind fun d4 => ((spec_l20Rd_pick.f k s0_0 d4.2 (ji4)).bind fun d5 => ((spec_l20Rd_pick.f k s0_0 d5.2 40).bind fun d6 => (some (b2, b0, wrap64 (d3.1 + (wrap64 ((wrap64 (Int.tdiv d4.1 39)) * 12))), wrap64 (d5.1 - (wrap64 ((wrap64 (Int.tdiv d6.1 39)) * 12))), d6.2)))))) = some (r1, r2, r3, r4, r5) := by first | (rw [hji4] at H; exact H) | (simp only [hji4] at H ⊢; exact H)
 (try rw [hji4] at A3)
 (try (have hji4l : 1 ≤ ji4 := by (rw [← hji4]; unfold mx; (repeat' split) <;> omega)))
 (try (have hji4m : 0 ≤ ji4 := by omega))
 have hji4_ : (if (b0.length : Int) < 1 then 1 else (b0.length : Int)) = ji4 := hji4
 obtain ⟨⟨e4, d8⟩, A5, H⟩ := bd_ H
 try dsimp only at H
 obtain ⟨⟨e5, d9⟩, A6, H⟩ := bd_ H
 try dsimp only at H
 obtain ⟨⟨e6, e0⟩, A7, H⟩ := bd_ H
 try dsimp only at H
 obtain ⟨⟨e7, e8⟩, A8, H⟩ := bd_ H
 try dsimp only at H
 simp only [Option.some.injEq, Prod.mk.injEq] at H
 obtain ⟨rfl, rfl, rfl, rfl, rfl⟩ := H
 go_enter Try.func62, Try.ntmps62
 try go_wp2_with (first | ((with_reducible refine gate_dst (N := 4) rfl ?_); refine bx_ (N := 4) (cs := #[.slice none 0 0, .slice none 0 0]) (t := 26) ?_; intro a5 hg w9 hbox hb; replace HB := ak (below_step (by repeat (first | (with_reducible first | exact HB.out | apply below_alloc | apply pw_below_drewN | apply below_drew1 | refine below_set ?_ (IsS70.ge a7.out)) | exact HB.out)) hb); have a4 := ak (hbox); have e1 := ak ((by rw [hg]; exact (keep_size (w := w) (g := g) (row := none) z1f_2) : w.heap.size ≤ a5)); have d0 := ak ((Nat.le_trans HW0.out (by rw [hg]; exact (keep_size (w := w) (g := g) (row := none) z1f_2) : w.heap.size ≤ a5) : w0.heap.size ≤ a5)); replace HK := ak (KeepBut.trans z1f_2 (KeepBut.of_below hb g none) (.inl rfl)); have a3 := ak ((by rw [hg]; exact Nat.ne_of_lt (IsS70.lt (show IsS70 w0 _ g s0_0 s0_1 from by repeat (first | (with_reducible first | exact a7.out | apply IsS70.alloc | apply IsS70.drewN | apply IsS70.drew | apply IsS70.set_1) | exact a7.out))) : g ≠ a5)); have b8 := ak ((by rw [hg]; exact Nat.ne_of_gt (IsS70.lt (show IsS70 w0 _ g s0_0 s0_1 from by repeat (first | (with_reducible first | exact a7.out | apply IsS70.alloc | apply IsS70.drewN | apply IsS70.drew | apply IsS70.set_1) | exact a7.out))) : a5 ≠ g)); replace a7 := ak (IsS70.below (by repeat (first | (with_reducible first | exact a7.out | apply IsS70.alloc | apply IsS70.drewN | apply IsS70.drew | apply IsS70.set_1) | exact a7.out)) hb); clear hb hbox hg) | ((with_reducible refine gate_callee (f := 54) rfl ?_); refine gl_ (some 11) Try.func54 #[.pointer (some ⟨g, 0, none⟩), .int .i64 a1] ?_; (with_reducible refine (spec_l20Logic.calls k g s0_0 s0_1 a1 b2 b0 d7 w0 _ z1f_6 z1f_5 A3.out).mono ?_); rintro e w' ⟨f9, g0, rfl, ho0, ho1, hi, hb, hk⟩; refine ⟨_, rfl, ?_⟩; replace a4 := ak (KeepBut.blk hk (g' := a5) (o := .cells #[.slice none 0 0, .slice none 0 0] 26 (0, 0)) (xb a4.out) b8.out (by simp)); have a8 := ak (Kd.S_lower ho0 (keep_size (w := w) (g := g) (row := none) z1f_1)); have a9 := ak (Kd.Q_lower ho1 (keep_size (w := w) (g := g) (row := none) z1f_1)); replace HK := ak (KeepBut.trans z1f_1 hk (.inl rfl)); replace HB := ak (hb); replace a7 := ak (hi); (try clear hb); (try clear hb2); (try clear hk); (try clear hi); (try clear ho0); (try clear ho1)) | ((with_reducible refine gate_dst (N := 7) rfl ?_); refine bx_ (N := 7) (cs := #[.slice none 0 0, .slice none 0 0]) (t := 26) ?_; intro a0 hg e2 hbox hb; replace a8 := ak (Kd.S_below (xS a8.out) hb); replace a9 := ak (Kd.Q_below (xQ a9.out) hb); replace HB := ak (below_step z1f_5 hb); have a2 := ak (hbox); have e3 := ak ((by rw [hg]; exact (keep_size (w := w) (g := g) (row := none) z1f_1) : w.heap.size ≤ a0)); have d1 := ak ((Nat.le_trans HW0.out (by rw [hg]; exact (keep_size (w := w) (g := g) (row := none) z1f_1) : w.heap.size ≤ a0) : w0.heap.size ≤ a0)); replace HK := ak (KeepBut.trans z1f_1 (KeepBut.of_below hb g none) (.inl rfl)); have b7 := ak ((by rw [hg]; exact Nat.ne_of_lt (blk_lt (g := a5) (o := .cells #[.slice none 0 0, .slice none 0 0] 26 (0, 0)) (xb a4.out)) : a5 ≠ a0)); have b1 := ak ((by rw [hg]; exact Nat.ne_of_gt (blk_lt (g := a5) (o := .cells #[.slice none 0 0, .slice none 0 0] 26 (0, 0)) (xb a4.out)) : a0 ≠ a5)); replace a4 := ak (blk_below (g := a5) (o := .cells #[.slice none 0 0, .slice none 0 0] 26 (0, 0)) (xb a4.out) hb); have a6 := ak ((by rw [hg]; exact Nat.ne_of_lt (IsS70.lt (show IsS70 w0 _ g s0_0 d7 from by repeat (first | (with_reducible first | exact a7.out | apply IsS70.alloc | apply IsS70.drewN | apply IsS70.drew | apply IsS70.set_1 | refine IsS70.far ?_ a3.out _) | exact a7.out))) : g ≠ a0)); have b9 := ak ((by rw [hg]; exact Nat.ne_of_gt (IsS70.lt (show IsS70 w0 _ g s0_0 d7 from by repeat (first | (with_reducible first | exact a7.out | apply IsS70.alloc | apply IsS70.drewN | apply IsS70.drew | apply IsS70.set_1 | refine IsS70.far ?_ a3.out _) | exact a7.out))) : a0 ≠ g)); replace a7 := ak (IsS70.below z1f_6 hb); clear hb hbox hg; obtain ⟨b3, b4, e9⟩ := Kd.S_slice a8.out; subst e9; have f1 := b1.out; have f2 := b7.out; have f3 := b9.out; have f4 := a6.out; have f5 := cz20 a2.out; have f6 := cz21 a2.out; have f7 := blk_frozen a2.out 0; have f8 := blk_frozen a2.out 1; obtain ⟨b5, b6, f0, _⟩ := Kd.Q_slice a9.out; subst f0))
 have n0_ : Aside0 (Kd.S (Kd.slice 3 (Kd.int .i64)) 24 ((e2.setCell ⟨a0, 0, none⟩ (.slice b3 b2.length b4)).setCell ⟨a0, 1, none⟩ (.slice b5 b0.length b6)) w.heap.size (fun k_ => some k_ ≠ (.slice b5 b0.length b6 : Value).ownBlock) (.slice b3 b2.length b4) b2) := ⟨(by (with_reducible repeat (first | apply Kd.S_alloc | apply Kd.S_drewN | apply Kd.S_drew)); exact Kd.S_mono (Kd.S_far (p := ⟨a0, 1, none⟩) (Kd.S_far (p := ⟨a0, 0, none⟩) (Kd.S_types a8.out a2.out (by decide)) (fun _ hk => hk.2) (.slice b3 b2.length b4)) (fun _ hk => hk.2) (.slice b5 b0.length b6)) (fun _ hk => hk.1))⟩
 have n1_ : Aside0 (Kd.Q (Kd.int .i64) 3 ((e2.setCell ⟨a0, 0, none⟩ (.slice b3 b2.length b4)).setCell ⟨a0, 1, none⟩ (.slice b5 b0.length b6)) w.heap.size (fun _ => True) (.slice b5 b0.length b6) b0) := ⟨(by (with_reducible repeat (first | apply Kd.Q_alloc | apply Kd.Q_drewN | apply Kd.Q_drew)); exact Kd.Q_mono (Kd.Q_far (p := ⟨a0, 1, none⟩) (Kd.Q_far (p := ⟨a0, 0, none⟩) (Kd.Q_types a9.out a2.out (by decide)) (fun _ hk => hk.2) (.slice b3 b2.length b4)) (fun _ hk => hk.2) (.slice b5 b0.length b6)) (fun _ hk => trivial))⟩
 have n2_ : Aside0 (((e2.setCell ⟨a0, 0, none⟩ (.slice b3 b2.length b4)).setCell ⟨a0, 1, none⟩ (.slice b5 b0.length b6)).heap[a5]? = some (.cells #[.slice none 0 0, .slice none 0 0] 26 (0, 0))) := ⟨(by (with_reducible repeat (first | refine blk_drewN ?_ _ | refine blk_drew ?_ | refine blk_alloc ?_ _)); refine blk_far ?_ b7.out _; (with_reducible repeat (first | refine blk_drewN ?_ _ | refine blk_drew ?_ | refine blk_alloc ?_ _)); refine blk_far ?_ b7.out _; (with_reducible repeat (first | refine blk_drewN ?_ _ | refine blk_drew ?_ | refine blk_alloc ?_ _)); exact a4.out)⟩
 have n3_ : Aside0 (((e2.setCell ⟨a0, 0, none⟩ (.slice b3 b2.length b4)).setCell ⟨a0, 1, none⟩ (.slice b5 b0.length b6)).heap[a0]? = some (.cells #[.slice b3 b2.length b4, .slice b5 b0.length b6] 26 (0, 0))) := ⟨(by (with_reducible repeat (first | refine blk_drewN ?_ _ | refine blk_drew ?_ | refine blk_alloc ?_ _)); refine blk_put (cs := #[.slice b3 b2.length b4, .slice none 0 0]) ?_ 1 _ rfl; (with_reducible repeat (first | refine blk_drewN ?_ _ | refine blk_drew ?_ | refine blk_alloc ?_ _)); refine blk_put (cs := #[.slice none 0 0, .slice none 0 0]) ?_ 0 _ rfl; (with_reducible repeat (first | refine blk_drewN ?_ _ | refine blk_drew ?_ | refine blk_alloc ?_ _)); exact a2.out)⟩
 have n4_ : Aside0 (IsS70 w0 ((e2.setCell ⟨a0, 0, none⟩ (.slice b3 b2.length b4)).setCell ⟨a0, 1, none⟩ (.slice b5 b0.length b6)) g s0_0 d7) := ⟨z1f_4⟩
 have n5_ : Aside0 (KeepBut w ((e2.setCell ⟨a0, 0, none⟩ (.slice b3 b2.length b4)).setCell ⟨a0, 1, none⟩ (.slice b5 b0.length b6)) g none) := ⟨z1f_0⟩
 have n6_ : Aside0 (Below w0.heap.size w0 ((e2.setCell ⟨a0, 0, none⟩ (.slice b3 b2.length b4)).setCell ⟨a0, 1, none⟩ (.slice b5 b0.length b6))) := ⟨z1f_3⟩
 (try clear a8)
 (try clear a9)
 (try clear a4)
 (try clear a2)
 (try clear a7)
 (try clear HK)
 (try clear HB)
 generalize ((e2.setCell ⟨a0, 0, none⟩ (.slice b3 b2.length b4)).setCell ⟨a0, 1, none⟩ (.slice b5 b0.length b6)) = g1 at n0_ n1_ n2_ n3_ n4_ n5_ n6_ ⊢
 have a8 := n0_
 have a9 := n1_
 have a4 := n2_
 have a2 := n3_
 have a7 := n4_
 have HK := n5_
 have HB := n6_
 clear n0_ n1_ n2_ n3_ n4_ n5_ n6_
 replace a8 := ak (Kd.S_drew a8.out)
 replace a9 := ak (Kd.Q_drew a9.out)
 replace a4 := ak (blk_drew a4.out)
 replace a2 := ak (blk_drew a2.out)
 replace a7 := ak (IsS70.drew a7.out)
 replace HK := ak (keep_drew HK.out)
 replace HB := ak (below_drew1 HB.out)
 refine start_ (n := 20) (S := fun w' => w'.cell? ⟨a0, 0, none⟩ = some (.slice b3 b2.length b4) ∧ w'.cell? ⟨a0, 1, none⟩ = some (.slice b5 b0.length b6)) (ds := []) (bA 20 0) (by kernel_rfl) rfl rfl ⟨(blk_cell a2.out 0).trans rfl, (blk_cell a2.out 1).trans rfl⟩ (fun hHeld => ?_); refine with_tabW spec_l20Two.tab3 spec_l20Two.bits3 (fun HT_ HW_ => ?_)
 generalize g1.drew = g2 at a8 a9 a4 a2 a7 HK HB hHeld ⊢
 refine pu_ (i := 1) (N := some 17) (bA 20 2) ?_
 refine pu_ (i := 2) (N := some 18) (bA 20 6) ?_
 refine pu_ (i := 4) (N := some 20) (bA 20 22) ?_
 refine pu_ (i := 9) (N := some 25) (bA 20 534) ?_
 refine pu_ (i := 10) (N := some 26) (bA 20 1558) ?_
 refine pu_ (i := 12) (N := some 28) (bA 20 5654) ?_
 refine tk_ (i := 0) (N := some 16) (bA 20 5655) ?_
 refine one_ (i := 3) (N := some 19) (bA 20 5663) rfl rfl (one_of HT_.out (by kernel_rfl)) (by decide) (fun K hK => ?_)
 refine goes_ Try.func76 (by kernel_rfl) rfl #[.pointer (some ⟨g, 0, none⟩), .int .i64 ji4] (by rfl) rfl rfl z1f_7 ?_
 with_reducible refine (spec_l20Rd_pick.calls k g s0_0 d7 ji4 e4 d8 w0 _ ?side1 ?side2 A5.out).mono ?_
 (case side1 => repeat (first | (with_reducible first | exact a7.out | apply IsS70.alloc | apply IsS70.drewN | apply IsS70.drew | apply IsS70.set_1 | refine IsS70.far ?_ a3.out _ | refine IsS70.far ?_ a6.out _) | exact a7.out))
 (case side2 => repeat (first | (with_reducible first | exact HB.out | apply below_alloc | apply pw_below_drewN | apply below_drew1 | refine below_set ?_ (IsS70.ge a7.out) | refine below_set ?_ d0.out | refine below_set ?_ d1.out) | exact HB.out))
 rintro e w' ⟨rfl, hi, hb, hk⟩
 refine ⟨_, rfl, ?_⟩
 replace a4 := ak (KeepBut.blk hk (g' := a5) (o := .cells #[.slice none 0 0, .slice none 0 0] 26 (0, 0)) (xb a4.out) b8.out (by simp))
 replace a8 := ak (Kd.S_mono (Kd.S_keep (IsS70.apartS (show IsS70 w0 _ g s0_0 d7 from by repeat (first | (with_reducible first | exact a7.out | apply IsS70.alloc | apply IsS70.drewN | apply IsS70.drew | apply IsS70.set_1 | refine IsS70.far ?_ a3.out _ | refine IsS70.far ?_ a6.out _) | exact a7.out)) (xS a8.out) (by decide)) hk (fun _ h => h.2)) (fun _ h => h.1))
 replace a9 := ak (Kd.Q_mono (Kd.Q_keep (IsS70.apartQ (show IsS70 w0 _ g s0_0 d7 from by repeat (first | (with_reducible first | exact a7.out | apply IsS70.alloc | apply IsS70.drewN | apply IsS70.drew | apply IsS70.set_1 | refine IsS70.far ?_ a3.out _ | refine IsS70.far ?_ a6.out _) | exact a7.out)) (xQ a9.out) (by decide)) hk (fun _ h => h.2)) (fun _ h => h.1))
 replace a2 := ak (KeepBut.blk hk (g' := a0) (o := .cells #[.slice b3 b2.length b4, .slice b5 b0.length b6] 26 (0, 0)) (xb a2.out) b9.out (by simp))
 replace HK := ak (KeepBut.trans z1f_0 hk (.inl rfl))
 replace HB := ak (hb)
 replace a7 := ak (hi)
 (try clear hb)
 (try clear hb2)
 (try clear hk)
 (try clear hi)
 refine hK.out _ _ ⟨(blk_cell a2.out 0).trans rfl, (blk_cell a2.out 1).trans rfl⟩ (fun hHeld => ?_)
 clear hK K
 refine no_ (N := some 19) ?_
 refine one_ (i := 5) (N := some 21) (bA 20 5695) rfl rfl (one_of HT_.out (by kernel_rfl)) (by decide) (fun K hK => ?_)
 refine ge_ Try.func76 #[.pointer (some ⟨g, 0, none⟩), .int .i64 40] ?_
 with_reducible refine (spec_l20Rd_pick.calls k g s0_0 d8 40 e5 d9 w0 _ ?side1 ?side2 A6.out).mono ?_
 (case side1 => repeat (first | (with_reducible first | exact a7.out | apply IsS70.alloc | apply IsS70.drewN | apply IsS70.drew | apply IsS70.set_1 | refine IsS70.far ?_ a3.out _ | refine IsS70.far ?_ a6.out _) | exact a7.out))
 (case side2 => repeat (first | (with_reducible first | exact HB.out | apply below_alloc | apply pw_below_drewN | apply below_drew1 | refine below_set ?_ (IsS70.ge a7.out) | refine below_set ?_ d0.out | refine below_set ?_ d1.out) | exact HB.out))
 rintro e w' ⟨rfl, hi, hb, hk⟩
 refine ⟨_, rfl, ?_⟩
 replace a4 := ak (KeepBut.blk hk (g' := a5) (o := .cells #[.slice none 0 0, .slice none 0 0] 26 (0, 0)) (xb a4.out) b8.out (by simp))
 replace a8 := ak (Kd.S_mono (Kd.S_keep (IsS70.apartS (show IsS70 w0 _ g s0_0 d8 from by repeat (first | (with_reducible first | exact a7.out | apply IsS70.alloc | apply IsS70.drewN | apply IsS70.drew | apply IsS70.set_1 | refine IsS70.far ?_ a3.out _ | refine IsS70.far ?_ a6.out _) | exact a7.out)) (xS a8.out) (by decide)) hk (fun _ h => h.2)) (fun _ h => h.1))
 replace a9 := ak (Kd.Q_mono (Kd.Q_keep (IsS70.apartQ (show IsS70 w0 _ g s0_0 d8 from by repeat (first | (with_reducible first | exact a7.out | apply IsS70.alloc | apply IsS70.drewN | apply IsS70.drew | apply IsS70.set_1 | refine IsS70.far ?_ a3.out _ | refine IsS70.far ?_ a6.out _) | exact a7.out)) (xQ a9.out) (by decide)) hk (fun _ h => h.2)) (fun _ h => h.1))
 replace a2 := ak (KeepBut.blk hk (g' := a0) (o := .cells #[.slice b3 b2.length b4, .slice b5 b0.length b6] 26 (0, 0)) (xb a2.out) b9.out (by simp))
 replace HK := ak (KeepBut.trans z1f_0 hk (.inl rfl))
 replace HB := ak (hb)
 replace a7 := ak (hi)
 (try clear hb)
 (try clear hb2)
 (try clear hk)
 (try clear hi)
 refine hK.out _ _ ⟨(blk_cell a2.out 0).trans rfl, (blk_cell a2.out 1).trans rfl⟩ (fun hHeld => ?_)
 clear hK K
 refine no_ (N := some 21) ?_
 refine pu_ (i := 6) (N := some 22) (bA 20 5759) ?_
 refine pu_ (i := 7) (N := some 23) (bA 20 5887) ?_
 refine pu_ (i := 8) (N := some 24) (bA 20 6143) ?_
 refine one_ (i := 11) (N := some 27) (bA 20 8191) rfl rfl (one_of HT_.out (by kernel_rfl)) (by decide) (fun K hK => ?_)
 refine goes_ Try.func76 (by kernel_rfl) rfl #[.pointer (some ⟨g, 0, none⟩), .int .i64 ji4] (by rfl) rfl rfl z1f_7 ?_
 with_reducible refine (spec_l20Rd_pick.calls k g s0_0 d9 ji4 e6 e0 w0 _ ?side1 ?side2 A7.out).mono ?_
 (case side1 => repeat (first | (with_reducible first | exact a7.out | apply IsS70.alloc | apply IsS70.drewN | apply IsS70.drew | apply IsS70.set_1 | refine IsS70.far ?_ a3.out _ | refine IsS70.far ?_ a6.out _) | exact a7.out))
 (case side2 => repeat (first | (with_reducible first | exact HB.out | apply below_alloc | apply pw_below_drewN | apply below_drew1 | refine below_set ?_ (IsS70.ge a7.out) | refine below_set ?_ d0.out | refine below_set ?_ d1.out) | exact HB.out))
 rintro e w' ⟨rfl, hi, hb, hk⟩
 refine ⟨_, rfl, ?_⟩
 replace a4 := ak (KeepBut.blk hk (g' := a5) (o := .cells #[.slice none 0 0, .slice none 0 0] 26 (0, 0)) (xb a4.out) b8.out (by simp))
 replace a8 := ak (Kd.S_mono (Kd.S_keep (IsS70.apartS (show IsS70 w0 _ g s0_0 d9 from by repeat (first | (with_reducible first | exact a7.out | apply IsS70.alloc | apply IsS70.drewN | apply IsS70.drew | apply IsS70.set_1 | refine IsS70.far ?_ a3.out _ | refine IsS70.far ?_ a6.out _) | exact a7.out)) (xS a8.out) (by decide)) hk (fun _ h => h.2)) (fun _ h => h.1))
 replace a9 := ak (Kd.Q_mono (Kd.Q_keep (IsS70.apartQ (show IsS70 w0 _ g s0_0 d9 from by repeat (first | (with_reducible first | exact a7.out | apply IsS70.alloc | apply IsS70.drewN | apply IsS70.drew | apply IsS70.set_1 | refine IsS70.far ?_ a3.out _ | refine IsS70.far ?_ a6.out _) | exact a7.out)) (xQ a9.out) (by decide)) hk (fun _ h => h.2)) (fun _ h => h.1))
 replace a2 := ak (KeepBut.blk hk (g' := a0) (o := .cells #[.slice b3 b2.length b4, .slice b5 b0.length b6] 26 (0, 0)) (xb a2.out) b9.out (by simp))
 replace HK := ak (KeepBut.trans z1f_0 hk (.inl rfl))
 replace HB := ak (hb)
 replace a7 := ak (hi)
 (try clear hb)
 (try clear hb2)
 (try clear hk)
 (try clear hi)
 refine hK.out _ _ ⟨(blk_cell a2.out 0).trans rfl, (blk_cell a2.out 1).trans rfl⟩ (fun hHeld => ?_)
 clear hK K
 refine no_ (N := some 27) ?_
 refine one_ (i := 13) (N := some 29) (bA 20 16383) rfl rfl (one_of HT_.out (by kernel_rfl)) (by decide) (fun K hK => ?_)
 refine ge_ Try.func76 #[.pointer (some ⟨g, 0, none⟩), .int .i64 40] ?_
 with_reducible refine (spec_l20Rd_pick.calls k g s0_0 e0 40 e7 e8 w0 _ ?side1 ?side2 A8.out).mono ?_
 (case side1 => repeat (first | (with_reducible first | exact a7.out | apply IsS70.alloc | apply IsS70.drewN | apply IsS70.drew | apply IsS70.set_1 | refine IsS70.far ?_ a3.out _ | refine IsS70.far ?_ a6.out _) | exact a7.out))
 (case side2 => repeat (first | (with_reducible first | exact HB.out | apply below_alloc | apply pw_below_drewN | apply below_drew1 | refine below_set ?_ (IsS70.ge a7.out) | refine below_set ?_ d0.out | refine below_set ?_ d1.out) | exact HB.out))
 rintro e w' ⟨rfl, hi, hb, hk⟩
 refine ⟨_, rfl, ?_⟩
 replace a4 := ak (KeepBut.blk hk (g' := a5) (o := .cells #[.slice none 0 0, .slice none 0 0] 26 (0, 0)) (xb a4.out) b8.out (by simp))
 replace a8 := ak (Kd.S_mono (Kd.S_keep (IsS70.apartS (show IsS70 w0 _ g s0_0 e0 from by repeat (first | (with_reducible first | exact a7.out | apply IsS70.alloc | apply IsS70.drewN | apply IsS70.drew | apply IsS70.set_1 | refine IsS70.far ?_ a3.out _ | refine IsS70.far ?_ a6.out _) | exact a7.out)) (xS a8.out) (by decide)) hk (fun _ h => h.2)) (fun _ h => h.1))
 replace a9 := ak (Kd.Q_mono (Kd.Q_keep (IsS70.apartQ (show IsS70 w0 _ g s0_0 e0 from by repeat (first | (with_reducible first | exact a7.out | apply IsS70.alloc | apply IsS70.drewN | apply IsS70.drew | apply IsS70.set_1 | refine IsS70.far ?_ a3.out _ | refine IsS70.far ?_ a6.out _) | exact a7.out)) (xQ a9.out) (by decide)) hk (fun _ h => h.2)) (fun _ h => h.1))
 replace a2 := ak (KeepBut.blk hk (g' := a0) (o := .cells #[.slice b3 b2.length b4, .slice b5 b0.length b6] 26 (0, 0)) (xb a2.out) b9.out (by simp))
 replace HK := ak (KeepBut.trans z1f_0 hk (.inl rfl))
 replace HB := ak (hb)
 replace a7 := ak (hi)
 (try clear hb)
 (try clear hb2)
 (try clear hk)
 (try clear hi)
 refine hK.out _ _ ⟨(blk_cell a2.out 0).trans rfl, (blk_cell a2.out 1).trans rfl⟩ (fun hHeld => ?_)
 clear hK K
 refine no_ (N := some 29) ?_
 refine pu_ (i := 14) (N := some 30) (bA 20 32767) ?_
 refine pu_ (i := 15) (N := some 31) (bA 20 65535) ?_
 refine pu_ (i := 16) (N := some 32) (bA 20 131071) ?_
 refine one_ (i := 17) (N := none) (bA 20 262143) rfl rfl (one_of HT_.out (by kernel_rfl)) (by decide) (fun K hK => ?_)
 have hs23 : _ := cz20 a4.out
 have hfs23 := blk_frozen a4.out 0
 have hns23_1 := b1.out
 have hms23_1 := b7.out
 have hs24 : _ := cz21 a4.out
 have hfs24 := blk_frozen a4.out 1
 have hns24_1 := b1.out
 have hms24_1 := b7.out
 refine skip_ (w1 := ?_) (by rfl) rfl ?_ ?_
 rotate_left
 ·
  go_simp
  rfl
 refine hK.out _ _ ⟨((cell_far (p := ⟨a5, _, none⟩) b1.out _).trans (((cell_far (p := ⟨a5, _, none⟩) b1.out _).trans (hHeld.1)))), ((cell_far (p := ⟨a5, _, none⟩) b1.out _).trans (((cell_far (p := ⟨a5, _, none⟩) b1.out _).trans (hHeld.2))))⟩ (fun hHeld => ?_)
 clear hK K
 refine pu_ (i := 18) (N := some 5) (bA 20 524287) ?_
 refine pu_ (i := 19) (N := some 6) (bA 20 1048575) ?_
 refine done_ (done_of HT_.out (by kernel_rfl)) ?_
 try go_wp2
 refine bodyPost_ret (results_ctt rfl _ _ a5 26 #[.slice b3 b2.length b4, .slice b5 b0.length b6] (0, 0) _ rfl (by (with_reducible repeat (first | refine blk_drewN ?_ _ | refine blk_drew ?_ | refine blk_alloc ?_ _)); refine blk_put (cs := #[.slice b3 b2.length b4, .slice none 0 0]) ?_ 1 _ rfl; (with_reducible repeat (first | refine blk_drewN ?_ _ | refine blk_drew ?_ | refine blk_alloc ?_ _)); refine blk_put (cs := #[.slice none 0 0, .slice none 0 0]) ?_ 0 _ rfl; (with_reducible repeat (first | refine blk_drewN ?_ _ | refine blk_drew ?_ | refine blk_alloc ?_ _)); exact a4.out) Try.underlying26 rfl (by kernel_rfl)) rfl ?_
 exact ⟨_, _, (by first | rfl | (simp [errW_none, errW_some] <;> rfl) | (simp only [← hji4]; first | rfl | (simp [errW_none, errW_some] <;> rfl)) | (simp [*, errW_none, errW_some] <;> rfl)), (by (with_reducible repeat (first | apply Kd.S_alloc | apply Kd.S_drewN | apply Kd.S_drew)); exact Kd.S_mono (Kd.S_far (p := ⟨a5, 1, none⟩) (Kd.S_far (p := ⟨a5, 0, none⟩) (Kd.S_types a8.out a4.out (by decide)) (fun _ hk => hk.2) (.slice b3 b2.length b4)) (fun _ hk => hk.2) (.slice b5 b0.length b6)) (fun _ hk => hk.1)), (by (with_reducible repeat (first | apply Kd.Q_alloc | apply Kd.Q_drewN | apply Kd.Q_drew)); exact Kd.Q_mono (Kd.Q_far (p := ⟨a5, 1, none⟩) (Kd.Q_far (p := ⟨a5, 0, none⟩) (Kd.Q_types a9.out a4.out (by decide)) (fun _ hk => hk.2) (.slice b3 b2.length b4)) (fun _ hk => hk.2) (.slice b5 b0.length b6)) (fun _ hk => trivial)), z1f_4, z1f_3, z1f_0⟩

end Go.Proofs.Ytjgfpiilfnchnaa.P
