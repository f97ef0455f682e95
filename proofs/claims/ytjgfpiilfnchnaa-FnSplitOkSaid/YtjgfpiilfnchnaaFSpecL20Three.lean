-- written by gen.py (a program of this session) out of the kit's print of this seat's translation
import Derived.Test.YtjgfpiilfnchnaaPk2
import Derived.Test.YtjgfpiilfnchnaaPk3
import Derived.Test.YtjgfpiilfnchnaaFSpecL20Two
namespace Go.Proofs.Ytjgfpiilfnchnaa.P
open Go.RowKit Go.Proofs.YtjgfpiilfnchnaaW.PrintWords Go.Proofs.YtjgfpiilfnchnaaW.PrintLast Go.Proofs.YtjgfpiilfnchnaaW.PrintMore
attribute [local go_sem] max2_int min2_int max_two min_two max_three min_three max_four min_four
set_option linter.unusedVariables false
set_option linter.unusedSimpArgs false
def spec_l20Three.T2 : Bool × List (List Nat × List Nat) := (true, [([], []), ([], []), ([], []), ([], []), ([], []), ([4], [4]), ([5], [5]), ([6], [6]), ([3, 7], [3, 7]), ([0, 8, 0], [0]), ([1, 9, 0, 1, 9], [1]), ([2, 10, 0, 1, 2, 9, 10], [2]), ([8, 11, 0, 1, 2, 3, 4, 5, 6, 7, 8, 9, 10, 11], [8])])
def spec_l20Three.B2 : List Nat := [0, 0, 0, 0, 0, 16, 48, 112, 248, 505, 1019, 2047, 4095]
theorem spec_l20Three.tab2 : rtab .any (opsOf Try.f74 2) = spec_l20Three.T2 := by kernel_rfl
theorem spec_l20Three.bits2 : waitsOk spec_l20Three.T2.2 spec_l20Three.B2 = true := by kernel_rfl
theorem z1e_6 {p : Prop} (h : p := by repeat (first | (with_reducible first | exact b4.out | apply IsS70.alloc | apply IsS70.drewN | apply IsS70.drew | apply IsS70.set_1 | refine IsS70.far ?_ a9.out _) | exact b4.out)) : p := h
theorem z1e_5 {p : Prop} (h : p := by repeat (first | (with_reducible first | exact HB.out | apply below_alloc | apply pw_below_drewN | apply below_drew1 | refine below_set ?_ (IsS70.ge b4.out) | refine below_set ?_ d3.out) | exact HB.out)) : p := h
theorem z1e_4 {p : Prop} (h : p := by repeat (first | (with_reducible first | exact b4.out | apply IsS70.alloc | apply IsS70.drewN | apply IsS70.drew | apply IsS70.set_1 | refine IsS70.far ?_ a9.out _ | refine IsS70.far ?_ b5.out _) | exact b4.out)) : p := h
theorem z1e_3 {p : Prop} (h : p := by repeat (first | (with_reducible first | exact HB.out | apply below_alloc | apply pw_below_drewN | apply below_drew1 | refine below_set ?_ (IsS70.ge b4.out) | refine below_set ?_ d3.out | refine below_set ?_ d4.out) | exact HB.out)) : p := h
theorem z1e_2 {p : Prop} (h : p := by repeat (first | (with_reducible first | exact HK.out | apply KeepBut.set_ | apply keep_drewN | apply keep_drew | apply keep_alloc) | exact HK.out)) : p := h
theorem z1e_1 {p : Prop} (h : p := by repeat (first | (with_reducible first | exact HK.out | apply KeepBut.set_ | apply keep_drewN | apply keep_drew | apply keep_alloc | refine keep_far ?_ d5.out _ | refine keep_far ?_ d6.out _) | exact HK.out)) : p := h
theorem z1e_0 {p : Prop} (h : p := by repeat (first | (with_reducible first | exact HK.out | apply KeepBut.set_ | apply keep_drewN | apply keep_drew | apply keep_alloc | refine keep_far ?_ d5.out _) | exact HK.out)) : p := h
set_option maxHeartbeats 8000000 in
set_option maxRecDepth 100000 in
theorem spec_l20Three.calls (k : Nat) (g : Nat) (s0_0 : List Int) (s0_1 : Int) (a1 : Int) (r1 : List (List Int)) (r2 : List Int) (r3 : Int) (r4 : Int) (r5 : Int) (r6 : Int) (w0 w : World) (hI : IsS70 w0 w g s0_0 s0_1) (hB : Below w0.heap.size w0 w) (h : spec_l20Three.f k s0_0 s0_1 a1 = some (r1, r2, r3, r4, r5, r6)) :
 Calls Try.prog 74 #[.pointer (some ⟨g, 0, none⟩), .int .i64 a1] w fun e w' => ∃ v0_ v1_ : Value, e = .returned (.tuple #[.agg #[v0_, v1_], .int .i64 r3, .int .i64 r4, .int .i64 r5]) ∧ Kd.S (Kd.slice 3 (Kd.int .i64)) 24 w' w.heap.size (fun k_ => some k_ ≠ (v1_ : Value).ownBlock) v0_ r1 ∧ Kd.Q (Kd.int .i64) 3 w' w.heap.size (fun _ => True) v1_ r2 ∧ IsS70 w0 w' g s0_0 r6 ∧ Below w0.heap.size w0 w' ∧ KeepBut w w' g none := by
 have hu26 := Try.underlying26
 have b4 := ak hI
 have HK := ak (KeepBut.refl w g none)
 have HL := ak hB.size
 clear hI
 have HW0 := ak hB.size
 have HB := ak hB
 clear hB
 have H : ((spec_l20Two.f k s0_0 s0_1 a1).bind fun b6 => ((spec_l20Rd_pick.f k s0_0 b6.2.2.2.2 (mx (b6.2.1.length : Int) 1)).bind fun b9 => (some (b6.1, b6.2.1, b6.2.2.1, b6.2.2.2.1, b9.1, b9.2)))) = some (r1, r2, r3, r4, r5, r6) := h
 clear h
 obtain ⟨⟨a7, a6, d7, d8, d0⟩, A3, H⟩ := bd_ H
 try dsimp only at H
 obtain ⟨ji4, hji4⟩ : ∃ j_ : Int, (mx (a6.length : Int) 1) = j_ := ⟨_, rfl⟩
 replace H : ((spec_l20Rd_pick.f k s0_0 d0 (ji4)).bind fun b9 => (some (a7, a6, d7, d8, b9.1, b9.2))) = some (r1, r2, r3, r4, r5, r6) := by first | (rw [hji4] at H; exact H) | (simp only [hji4] at H ⊢; exact H)
 (try rw [hji4] at A3)
 (try (have hji4l : 1 ≤ ji4 := by (rw [← hji4]; unfold mx; (repeat' split) <;> omega)))
 (try (have hji4m : 0 ≤ ji4 := by omega))
 have hji4_ : (if (a6.length : Int) < 1 then 1 else (a6.length : Int)) = ji4 := hji4
 obtain ⟨⟨d9, e0⟩, A5, H⟩ := bd_ H
 try dsimp only at H
 simp only [Option.some.injEq, Prod.mk.injEq] at H
 obtain ⟨rfl, rfl, rfl, rfl, rfl, rfl⟩ := H
 go_enter Try.func74, Try.ntmps74
 try go_wp2_with (first | ((with_reducible refine gate_dst (N := 4) rfl ?_); refine bx_ (N := 4) (cs := #[.slice none 0 0, .slice none 0 0]) (t := 26) ?_; intro a2 hg w6 hbox hb; replace HB := ak (below_step (by repeat (first | (with_reducible first | exact HB.out | apply below_alloc | apply pw_below_drewN | apply below_drew1 | refine below_set ?_ (IsS70.ge b4.out)) | exact HB.out)) hb); have a3 := ak (hbox); have d5 := ak ((by rw [hg]; exact (keep_size (w := w) (g := g) (row := none) z1e_2) : w.heap.size ≤ a2)); have d3 := ak ((Nat.le_trans HW0.out (by rw [hg]; exact (keep_size (w := w) (g := g) (row := none) z1e_2) : w.heap.size ≤ a2) : w0.heap.size ≤ a2)); replace HK := ak (KeepBut.trans z1e_2 (KeepBut.of_below hb g none) (.inl rfl)); have a9 := ak ((by rw [hg]; exact Nat.ne_of_lt (IsS70.lt (show IsS70 w0 _ g s0_0 s0_1 from by repeat (first | (with_reducible first | exact b4.out | apply IsS70.alloc | apply IsS70.drewN | apply IsS70.drew | apply IsS70.set_1) | exact b4.out))) : g ≠ a2)); have d1 := ak ((by rw [hg]; exact Nat.ne_of_gt (IsS70.lt (show IsS70 w0 _ g s0_0 s0_1 from by repeat (first | (with_reducible first | exact b4.out | apply IsS70.alloc | apply IsS70.drewN | apply IsS70.drew | apply IsS70.set_1) | exact b4.out))) : a2 ≠ g)); replace b4 := ak (IsS70.below (by repeat (first | (with_reducible first | exact b4.out | apply IsS70.alloc | apply IsS70.drewN | apply IsS70.drew | apply IsS70.set_1) | exact b4.out)) hb); clear hb hbox hg) | ((with_reducible refine gate_callee (f := 62) rfl ?_); refine gl_ (some 14) Try.func62 #[.pointer (some ⟨g, 0, none⟩), .int .i64 a1] ?_; (with_reducible refine (spec_l20Two.calls k g s0_0 s0_1 a1 a7 a6 d7 d8 d0 w0 _ z1e_6 z1e_5 A3.out).mono ?_); rintro e w' ⟨f0, f1, rfl, ho0, ho1, hi, hb, hk⟩; refine ⟨_, rfl, ?_⟩; replace a3 := ak (KeepBut.blk hk (g' := a2) (o := .cells #[.slice none 0 0, .slice none 0 0] 26 (0, 0)) (xb a3.out) d1.out (by simp)); have b0 := ak (Kd.S_lower ho0 (keep_size (w := w) (g := g) (row := none) z1e_0)); have b1 := ak (Kd.Q_lower ho1 (keep_size (w := w) (g := g) (row := none) z1e_0)); replace HK := ak (KeepBut.trans z1e_0 hk (.inl rfl)); replace HB := ak (hb); replace b4 := ak (hi); (try clear hb); (try clear hb2); (try clear hk); (try clear hi); (try clear ho0); (try clear ho1)) | ((with_reducible refine gate_dst (N := 8) rfl ?_); refine bx_ (N := 8) (cs := #[.slice none 0 0, .slice none 0 0]) (t := 26) ?_; intro a0 hg w8 hbox hb; replace b0 := ak (Kd.S_below (xS b0.out) hb); replace b1 := ak (Kd.Q_below (xQ b1.out) hb); replace HB := ak (below_step z1e_5 hb); have a4 := ak (hbox); have d6 := ak ((by rw [hg]; exact (keep_size (w := w) (g := g) (row := none) z1e_0) : w.heap.size ≤ a0)); have d4 := ak ((Nat.le_trans HW0.out (by rw [hg]; exact (keep_size (w := w) (g := g) (row := none) z1e_0) : w.heap.size ≤ a0) : w0.heap.size ≤ a0)); replace HK := ak (KeepBut.trans z1e_0 (KeepBut.of_below hb g none) (.inl rfl)); have a8 := ak ((by rw [hg]; exact Nat.ne_of_lt (blk_lt (g := a2) (o := .cells #[.slice none 0 0, .slice none 0 0] 26 (0, 0)) (xb a3.out)) : a2 ≠ a0)); have a5 := ak ((by rw [hg]; exact Nat.ne_of_gt (blk_lt (g := a2) (o := .cells #[.slice none 0 0, .slice none 0 0] 26 (0, 0)) (xb a3.out)) : a0 ≠ a2)); replace a3 := ak (blk_below (g := a2) (o := .cells #[.slice none 0 0, .slice none 0 0] 26 (0, 0)) (xb a3.out) hb); have b5 := ak ((by rw [hg]; exact Nat.ne_of_lt (IsS70.lt (show IsS70 w0 _ g s0_0 d0 from by repeat (first | (with_reducible first | exact b4.out | apply IsS70.alloc | apply IsS70.drewN | apply IsS70.drew | apply IsS70.set_1 | refine IsS70.far ?_ a9.out _) | exact b4.out))) : g ≠ a0)); have d2 := ak ((by rw [hg]; exact Nat.ne_of_gt (IsS70.lt (show IsS70 w0 _ g s0_0 d0 from by repeat (first | (with_reducible first | exact b4.out | apply IsS70.alloc | apply IsS70.drewN | apply IsS70.drew | apply IsS70.set_1 | refine IsS70.far ?_ a9.out _) | exact b4.out))) : a0 ≠ g)); replace b4 := ak (IsS70.below z1e_6 hb); clear hb hbox hg; obtain ⟨b7, b8, f2⟩ := Kd.S_slice b0.out; subst f2; have e2 := a5.out; have e3 := a8.out; have e4 := d2.out; have e5 := b5.out; have e6 := cz20 a4.out; have e7 := cz21 a4.out; have e8 := blk_frozen a4.out 0; have e9 := blk_frozen a4.out 1; obtain ⟨b2, b3, e1, _⟩ := Kd.Q_slice b1.out; subst e1))
 have n0_ : Aside0 (Kd.S (Kd.slice 3 (Kd.int .i64)) 24 ((w8.setCell ⟨a0, 0, none⟩ (.slice b7 a7.length b8)).setCell ⟨a0, 1, none⟩ (.slice b2 a6.length b3)) w.heap.size (fun k_ => some k_ ≠ (.slice b2 a6.length b3 : Value).ownBlock) (.slice b7 a7.length b8) a7) := ⟨(by (with_reducible repeat (first | apply Kd.S_alloc | apply Kd.S_drewN | apply Kd.S_drew)); exact Kd.S_mono (Kd.S_far (p := ⟨a0, 1, none⟩) (Kd.S_far (p := ⟨a0, 0, none⟩) (Kd.S_types b0.out a4.out (by decide)) (fun _ hk => hk.2) (.slice b7 a7.length b8)) (fun _ hk => hk.2) (.slice b2 a6.length b3)) (fun _ hk => hk.1))⟩
 have n1_ : Aside0 (Kd.Q (Kd.int .i64) 3 ((w8.setCell ⟨a0, 0, none⟩ (.slice b7 a7.length b8)).setCell ⟨a0, 1, none⟩ (.slice b2 a6.length b3)) w.heap.size (fun _ => True) (.slice b2 a6.length b3) a6) := ⟨(by (with_reducible repeat (first | apply Kd.Q_alloc | apply Kd.Q_drewN | apply Kd.Q_drew)); exact Kd.Q_mono (Kd.Q_far (p := ⟨a0, 1, none⟩) (Kd.Q_far (p := ⟨a0, 0, none⟩) (Kd.Q_types b1.out a4.out (by decide)) (fun _ hk => hk.2) (.slice b7 a7.length b8)) (fun _ hk => hk.2) (.slice b2 a6.length b3)) (fun _ hk => trivial))⟩
 have n2_ : Aside0 (((w8.setCell ⟨a0, 0, none⟩ (.slice b7 a7.length b8)).setCell ⟨a0, 1, none⟩ (.slice b2 a6.length b3)).heap[a2]? = some (.cells #[.slice none 0 0, .slice none 0 0] 26 (0, 0))) := ⟨(by (with_reducible repeat (first | refine blk_drewN ?_ _ | refine blk_drew ?_ | refine blk_alloc ?_ _)); refine blk_far ?_ a8.out _; (with_reducible repeat (first | refine blk_drewN ?_ _ | refine blk_drew ?_ | refine blk_alloc ?_ _)); refine blk_far ?_ a8.out _; (with_reducible repeat (first | refine blk_drewN ?_ _ | refine blk_drew ?_ | refine blk_alloc ?_ _)); exact a3.out)⟩
 have n3_ : Aside0 (((w8.setCell ⟨a0, 0, none⟩ (.slice b7 a7.length b8)).setCell ⟨a0, 1, none⟩ (.slice b2 a6.length b3)).heap[a0]? = some (.cells #[.slice b7 a7.length b8, .slice b2 a6.length b3] 26 (0, 0))) := ⟨(by (with_reducible repeat (first | refine blk_drewN ?_ _ | refine blk_drew ?_ | refine blk_alloc ?_ _)); refine blk_put (cs := #[.slice b7 a7.length b8, .slice none 0 0]) ?_ 1 _ rfl; (with_reducible repeat (first | refine blk_drewN ?_ _ | refine blk_drew ?_ | refine blk_alloc ?_ _)); refine blk_put (cs := #[.slice none 0 0, .slice none 0 0]) ?_ 0 _ rfl; (with_reducible repeat (first | refine blk_drewN ?_ _ | refine blk_drew ?_ | refine blk_alloc ?_ _)); exact a4.out)⟩
 have n4_ : Aside0 (IsS70 w0 ((w8.setCell ⟨a0, 0, none⟩ (.slice b7 a7.length b8)).setCell ⟨a0, 1, none⟩ (.slice b2 a6.length b3)) g s0_0 d0) := ⟨z1e_4⟩
 have n5_ : Aside0 (KeepBut w ((w8.setCell ⟨a0, 0, none⟩ (.slice b7 a7.length b8)).setCell ⟨a0, 1, none⟩ (.slice b2 a6.length b3)) g none) := ⟨z1e_1⟩
 have n6_ : Aside0 (Below w0.heap.size w0 ((w8.setCell ⟨a0, 0, none⟩ (.slice b7 a7.length b8)).setCell ⟨a0, 1, none⟩ (.slice b2 a6.length b3))) := ⟨z1e_3⟩
 (try clear b0)
 (try clear b1)
 (try clear a3)
 (try clear a4)
 (try clear b4)
 (try clear HK)
 (try clear HB)
 generalize ((w8.setCell ⟨a0, 0, none⟩ (.slice b7 a7.length b8)).setCell ⟨a0, 1, none⟩ (.slice b2 a6.length b3)) = f3 at n0_ n1_ n2_ n3_ n4_ n5_ n6_ ⊢
 have b0 := n0_
 have b1 := n1_
 have a3 := n2_
 have a4 := n3_
 have b4 := n4_
 have HK := n5_
 have HB := n6_
 clear n0_ n1_ n2_ n3_ n4_ n5_ n6_
 replace b0 := ak (Kd.S_drew b0.out)
 replace b1 := ak (Kd.Q_drew b1.out)
 replace a3 := ak (blk_drew a3.out)
 replace a4 := ak (blk_drew a4.out)
 replace b4 := ak (IsS70.drew b4.out)
 replace HK := ak (keep_drew HK.out)
 replace HB := ak (below_drew1 HB.out)
 refine start_ (n := 13) (S := fun w' => w'.cell? ⟨a0, 0, none⟩ = some (.slice b7 a7.length b8) ∧ w'.cell? ⟨a0, 1, none⟩ = some (.slice b2 a6.length b3)) (ds := []) (bA 13 0) (by kernel_rfl) rfl rfl ⟨(blk_cell a4.out 0).trans rfl, (blk_cell a4.out 1).trans rfl⟩ (fun hHeld => ?_); refine with_tabW spec_l20Three.tab2 spec_l20Three.bits2 (fun HT_ HW_ => ?_)
 generalize f3.drew = f4 at b0 b1 a3 a4 b4 HK HB hHeld ⊢
 refine pu_ (i := 1) (N := some 19) (bA 13 2) ?_
 refine pu_ (i := 2) (N := some 20) (bA 13 6) ?_
 refine pu_ (i := 3) (N := some 21) (bA 13 14) ?_
 refine pu_ (i := 4) (N := some 22) (bA 13 30) ?_
 refine tk_ (i := 0) (N := some 18) (bA 13 31) ?_
 refine tk_ (i := 5) (N := some 23) (bA 13 63) ?_
 refine pu_ (i := 6) (N := some 24) (bA 13 127) ?_
 refine pu_ (i := 7) (N := some 25) (bA 13 255) ?_
 refine one_ (i := 8) (N := some 26) (bA 13 511) rfl rfl (one_of HT_.out (by kernel_rfl)) (by decide) (fun K hK => ?_)
 refine goes_ Try.func76 (by kernel_rfl) rfl #[.pointer (some ⟨g, 0, none⟩), .int .i64 ji4] (by rfl) rfl rfl (by (try simp only [List.map_toArray, List.map_cons, List.map_nil]); first | done | (simp only [hji4]; rfl) | rfl | (simp only [List.length_drop, List.length_take]; rfl)) ?_
 with_reducible refine (spec_l20Rd_pick.calls k g s0_0 d0 ji4 d9 e0 w0 _ ?side1 ?side2 A5.out).mono ?_
 (case side1 => repeat (first | (with_reducible first | exact b4.out | apply IsS70.alloc | apply IsS70.drewN | apply IsS70.drew | apply IsS70.set_1 | refine IsS70.far ?_ a9.out _ | refine IsS70.far ?_ b5.out _) | exact b4.out))
 (case side2 => repeat (first | (with_reducible first | exact HB.out | apply below_alloc | apply pw_below_drewN | apply below_drew1 | refine below_set ?_ (IsS70.ge b4.out) | refine below_set ?_ d3.out | refine below_set ?_ d4.out) | exact HB.out))
 rintro e w' ⟨rfl, hi, hb, hk⟩
 refine ⟨_, rfl, ?_⟩
 replace a3 := ak (KeepBut.blk hk (g' := a2) (o := .cells #[.slice none 0 0, .slice none 0 0] 26 (0, 0)) (xb a3.out) d1.out (by simp))
 replace b0 := ak (Kd.S_mono (Kd.S_keep (IsS70.apartS (show IsS70 w0 _ g s0_0 d0 from by repeat (first | (with_reducible first | exact b4.out | apply IsS70.alloc | apply IsS70.drewN | apply IsS70.drew | apply IsS70.set_1 | refine IsS70.far ?_ a9.out _ | refine IsS70.far ?_ b5.out _) | exact b4.out)) (xS b0.out) (by decide)) hk (fun _ h => h.2)) (fun _ h => h.1))
 replace b1 := ak (Kd.Q_mono (Kd.Q_keep (IsS70.apartQ (show IsS70 w0 _ g s0_0 d0 from by repeat (first | (with_reducible first | exact b4.out | apply IsS70.alloc | apply IsS70.drewN | apply IsS70.drew | apply IsS70.set_1 | refine IsS70.far ?_ a9.out _ | refine IsS70.far ?_ b5.out _) | exact b4.out)) (xQ b1.out) (by decide)) hk (fun _ h => h.2)) (fun _ h => h.1))
 replace a4 := ak (KeepBut.blk hk (g' := a0) (o := .cells #[.slice b7 a7.length b8, .slice b2 a6.length b3] 26 (0, 0)) (xb a4.out) d2.out (by simp))
 replace HK := ak (KeepBut.trans z1e_1 hk (.inl rfl))
 replace HB := ak (hb)
 replace b4 := ak (hi)
 (try clear hb)
 (try clear hb2)
 (try clear hk)
 (try clear hi)
 refine hK.out _ _ ⟨(blk_cell a4.out 0).trans rfl, (blk_cell a4.out 1).trans rfl⟩ (fun hHeld => ?_)
 clear hK K
 refine no_ (N := some 26) ?_
 refine one_ (i := 9) (N := none) (bA 13 1023) rfl rfl (one_of HT_.out (by kernel_rfl)) (by decide) (fun K hK => ?_)
 have hs17 : _ := cz20 a3.out
 have hfs17 := blk_frozen a3.out 0
 have hns17_1 := a5.out
 have hms17_1 := a8.out
 have hs18 : _ := cz21 a3.out
 have hfs18 := blk_frozen a3.out 1
 have hns18_1 := a5.out
 have hms18_1 := a8.out
 refine skip_ (w1 := ?_) (by rfl) rfl ?_ ?_
 rotate_left
 ·
  go_simp
  rfl
 refine hK.out _ _ ⟨((cell_far (p := ⟨a2, _, none⟩) a5.out _).trans (((cell_far (p := ⟨a2, _, none⟩) a5.out _).trans (hHeld.1)))), ((cell_far (p := ⟨a2, _, none⟩) a5.out _).trans (((cell_far (p := ⟨a2, _, none⟩) a5.out _).trans (hHeld.2))))⟩ (fun hHeld => ?_)
 clear hK K
 refine pu_ (i := 10) (N := some 5) (bA 13 2047) ?_
 refine pu_ (i := 11) (N := some 6) (bA 13 4095) ?_
 refine pu_ (i := 12) (N := some 7) (bA 13 8191) ?_
 refine done_ (done_of HT_.out (by kernel_rfl)) ?_
 try go_wp2
 refine bodyPost_ret (results_list (rs := [.cell 4 26, .tmp 5, .tmp 6, .tmp 7]) rfl (by simp) (.cell a2 26 #[.slice b7 a7.length b8, .slice b2 a6.length b3] (0, 0) _ rfl (by (with_reducible repeat (first | refine blk_drewN ?_ _ | refine blk_drew ?_ | refine blk_alloc ?_ _)); refine blk_put (cs := #[.slice b7 a7.length b8, .slice none 0 0]) ?_ 1 _ rfl; (with_reducible repeat (first | refine blk_drewN ?_ _ | refine blk_drew ?_ | refine blk_alloc ?_ _)); refine blk_put (cs := #[.slice none 0 0, .slice none 0 0]) ?_ 0 _ rfl; (with_reducible repeat (first | refine blk_drewN ?_ _ | refine blk_drew ?_ | refine blk_alloc ?_ _)); exact a3.out) Try.underlying26 rfl (by kernel_rfl) (.tmp (.tmp (.tmp .nil))))) rfl ?_
 exact ⟨_, _, (by first | rfl | (simp [errW_none, errW_some] <;> rfl) | (simp only [← hji4]; first | rfl | (simp [errW_none, errW_some] <;> rfl)) | (simp [*, errW_none, errW_some] <;> rfl)), (by (with_reducible repeat (first | apply Kd.S_alloc | apply Kd.S_drewN | apply Kd.S_drew)); exact Kd.S_mono (Kd.S_far (p := ⟨a2, 1, none⟩) (Kd.S_far (p := ⟨a2, 0, none⟩) (Kd.S_types b0.out a3.out (by decide)) (fun _ hk => hk.2) (.slice b7 a7.length b8)) (fun _ hk => hk.2) (.slice b2 a6.length b3)) (fun _ hk => hk.1)), (by (with_reducible repeat (first | apply Kd.Q_alloc | apply Kd.Q_drewN | apply Kd.Q_drew)); exact Kd.Q_mono (Kd.Q_far (p := ⟨a2, 1, none⟩) (Kd.Q_far (p := ⟨a2, 0, none⟩) (Kd.Q_types b1.out a3.out (by decide)) (fun _ hk => hk.2) (.slice b7 a7.length b8)) (fun _ hk => hk.2) (.slice b2 a6.length b3)) (fun _ hk => trivial)), z1e_4, z1e_3, z1e_1⟩

end Go.Proofs.Ytjgfpiilfnchnaa.P
