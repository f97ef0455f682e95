/- 1 texts of this seat joined: walks, and the laws of what they compute. -/
import Derived.Test.YtjgfpiilfnchnaaPk2
import Derived.Test.YtjgfpiilfnchnaaPk3
import Derived.Test.YtjgfpiilfnchnaaPk4
import Derived.Test.YtjgfpiilfnchnaaPk7
-- written by gen.py (a program of this session) out of the kit's print of this seat's translation
namespace Go.Proofs.Ytjgfpiilfnchnaa.P
open Go.RowKit Go.Proofs.YtjgfpiilfnchnaaW.PrintWords Go.Proofs.YtjgfpiilfnchnaaW.PrintLast Go.Proofs.YtjgfpiilfnchnaaW.PrintMore
attribute [local go_sem] max2_int min2_int max_two min_two max_three min_three max_four min_four
set_option linter.unusedVariables false
set_option linter.unusedSimpArgs false
def spec_l20Logic.T39 : Bool × List (List Nat × List Nat) := (true, [([], []), ([0], [0]), ([], []), ([], []), ([3], [3]), ([4], [4]), ([2, 5], [2, 5]), ([], []), ([], []), ([8], [8]), ([9], [9]), ([10], [10]), ([7, 11, 6], [7, 11]), ([1, 6, 0, 1, 2, 3, 4, 5, 6, 7, 8, 9, 10, 11, 12], [1, 6]), ([13, 12, 12, 0, 1, 2, 3, 4, 5, 6, 7, 8, 9, 10, 11, 12], [12, 13])])
def spec_l20Logic.B39 : List Nat := [0, 1, 0, 0, 8, 24, 60, 0, 0, 256, 768, 1792, 4092, 8191, 16383]
theorem spec_l20Logic.tab39 : rtab .any (opsOf Try.f54 39) = spec_l20Logic.T39 := by kernel_rfl
theorem spec_l20Logic.bits39 : waitsOk spec_l20Logic.T39.2 spec_l20Logic.B39 = true := by kernel_rfl
theorem z4_33 {p : Prop} (h : p := by (with_reducible repeat (first | apply Kd.R_alloc | apply Kd.R_drewN | apply Kd.R_drew)); exact i3.out) : p := h
theorem z4_32 {p : Prop} (h : p := by (with_reducible repeat (first | apply Kd.R_alloc | apply Kd.R_drewN | apply Kd.R_drew)); exact i4.out) : p := h
theorem z4_31 {p : Prop} (h : p := by (with_reducible repeat (first | apply Kd.R_alloc | apply Kd.R_drewN | apply Kd.R_drew)); exact i5.out) : p := h
theorem z4_30 {p : Prop} (h : p := by (with_reducible repeat (first | apply Kd.R_alloc | apply Kd.R_drewN | apply Kd.R_drew)); exact i6.out) : p := h
theorem z4_29 {p : Prop} (h : p := by first | rfl | (simp; done) | (simp [*]; done)) : p := h
theorem z4_28 {p : Prop} (h : p := by (with_reducible repeat (first | apply Kd.Q_alloc | apply Kd.Q_drewN | apply Kd.Q_drew)); exact Kd.Q_mono a3.out (fun _ hk => ⟨trivial, hk⟩)) : p := h
theorem z4_27 {p : Prop} (h : p := by decide) : p := h
theorem z4_26 {p : Prop} (h : p := by repeat (first | (with_reducible first | exact HK.out | apply KeepBut.set_ | apply keep_drewN | apply keep_drew | apply keep_alloc) | exact HK.out)) : p := h
theorem z4_25 {p : Prop} (h : p := by (with_reducible repeat (first | apply Kd.S_alloc | apply Kd.S_drewN | apply Kd.S_drew)); exact g5.out) : p := h
theorem z4_24 {p : Prop} (h : p := by (with_reducible repeat (first | apply Kd.S_alloc | apply Kd.S_drewN | apply Kd.S_drew)); exact g6.out) : p := h
theorem z4_23 {p : Prop} (h : p := by (with_reducible repeat (first | apply Kd.S_alloc | apply Kd.S_drewN | apply Kd.S_drew)); exact g7.out) : p := h
theorem z4_22 {p : Prop} (h : p := by (with_reducible repeat (first | apply Kd.S_alloc | apply Kd.S_drewN | apply Kd.S_drew)); exact g8.out) : p := h
theorem z4_21 {p : Prop} (h : p := by have := v4.out; have := L8.out; first | omega | exact Nat.le_refl _) : p := h
theorem z4_20 {p : Prop} (h : p := by repeat (first | (with_reducible first | exact HK.out | apply KeepBut.set_ | apply keep_drewN | apply keep_drew | apply keep_alloc | refine keep_far ?_ f4.out _) | exact HK.out)) : p := h
theorem z4_19 {p : Prop} (h : p := by (with_reducible repeat (first | apply Kd.Q_alloc | apply Kd.Q_drewN | apply Kd.Q_drew)); exact Kd.Q_mono a3.out (fun _ hk => hk.2)) : p := h
theorem z4_18 {p : Prop} (h : p := by (with_reducible repeat (first | apply Kd.S_alloc | apply Kd.S_drewN | apply Kd.S_drew)); exact Kd.S_mono a4.out (fun _ hk => ⟨hk.2, hk.1⟩)) : p := h
theorem z4_17 {p : Prop} (h : p := by (with_reducible repeat (first | apply Kd.R_alloc | apply Kd.R_drewN | apply Kd.R_drew)); exact d4.out) : p := h
theorem z4_16 {p : Prop} (h : p := by (with_reducible repeat (first | apply Kd.R_alloc | apply Kd.R_drewN | apply Kd.R_drew)); exact g9.out) : p := h
theorem z4_15 {p : Prop} (h : p := by (with_reducible repeat (first | apply Kd.R_alloc | apply Kd.R_drewN | apply Kd.R_drew)); exact h0.out) : p := h
theorem z4_14 {p : Prop} (h : p := by (with_reducible repeat (first | apply Kd.R_alloc | apply Kd.R_drewN | apply Kd.R_drew)); exact h1.out) : p := h
theorem z4_13 {p : Prop} (h : p := by (with_reducible repeat (first | apply Kd.R_alloc | apply Kd.R_drewN | apply Kd.R_drew)); exact h2.out) : p := h
theorem z4_12 {p : Prop} (h : p := by (with_reducible repeat (first | apply Kd.S_alloc | apply Kd.S_drewN | apply Kd.S_drew)); exact f9.out) : p := h
theorem z4_11 {p : Prop} (h : p := by (with_reducible repeat (first | apply Kd.S_alloc | apply Kd.S_drewN | apply Kd.S_drew)); exact f5.out) : p := h
theorem z4_10 {p : Prop} (h : p := by first | (with_reducible assumption) | assumption) : p := h
theorem z4_9 {p : Prop} (h : p := by (with_reducible repeat (first | apply Kd.R_alloc | apply Kd.R_drewN | apply Kd.R_drew)); exact g0.out) : p := h
theorem z4_8 {p : Prop} (h : p := by (with_reducible repeat (first | apply Kd.R_alloc | apply Kd.R_drewN | apply Kd.R_drew)); exact f6.out) : p := h
theorem z4_7 {p : Prop} (h : p := by (with_reducible repeat (first | apply Kd.S_alloc | apply Kd.S_drewN | apply Kd.S_drew)); exact a4.out) : p := h
theorem z4_6 {p : Prop} (h : p := by (with_reducible repeat (first | apply Kd.Q_alloc | apply Kd.Q_drewN | apply Kd.Q_drew)); exact a3.out) : p := h
theorem z4_5 {p : Prop} (h : p := by (with_reducible repeat (first | refine blk_drewN ?_ _ | refine blk_drew ?_ | refine blk_alloc ?_ _)); refine blk_far ?_ b4.out _; (with_reducible repeat (first | refine blk_drewN ?_ _ | refine blk_drew ?_ | refine blk_alloc ?_ _)); refine blk_far ?_ b4.out _; (with_reducible repeat (first | refine blk_drewN ?_ _ | refine blk_drew ?_ | refine blk_alloc ?_ _)); exact a8.out) : p := h
theorem z4_4 {p : Prop} (h : p := by (with_reducible repeat (first | refine blk_drewN ?_ _ | refine blk_drew ?_ | refine blk_alloc ?_ _)); exact a0.out) : p := h
theorem z4_3 {p : Prop} (h : p := by repeat (first | (with_reducible first | exact HB.out | apply below_alloc | apply pw_below_drewN | apply below_drew1 | refine below_set ?_ (IsS70.ge b2.out) | refine below_set ?_ d2.out | refine below_set ?_ d3.out) | exact HB.out)) : p := h
theorem z4_2 {p : Prop} (h : p := by (with_reducible repeat (first | refine blk_drewN ?_ _ | refine blk_drew ?_ | refine blk_alloc ?_ _)); exact a8.out) : p := h
theorem z4_1 {p : Prop} (h : p := by repeat (first | (with_reducible first | exact b2.out | apply IsS70.alloc | apply IsS70.drewN | apply IsS70.drew | apply IsS70.set_1 | refine IsS70.far ?_ a7.out _ | refine IsS70.far ?_ a6.out _) | exact b2.out)) : p := h
theorem z4_0 {p : Prop} (h : p := by repeat (first | (with_reducible first | exact HK.out | apply KeepBut.set_ | apply keep_drewN | apply keep_drew | apply keep_alloc | refine keep_far ?_ f4.out _ | refine keep_far ?_ g1.out _) | exact HK.out)) : p := h
set_option maxHeartbeats 8000000 in
set_option maxRecDepth 100000 in
theorem spec_l20Logic.calls (k : Nat) (g : Nat) (s0_0 : List Int) (s0_1 : Int) (a1 : Int) (r1 : List (List Int)) (r2 : List Int) (r3 : Int) (w0 w : World) (hI : IsS70 w0 w g s0_0 s0_1) (hB : Below w0.heap.size w0 w) (h : spec_l20Logic.f k s0_0 s0_1 a1 = some (r1, r2, r3)) :
  Calls Try.prog 54 #[.pointer (some ⟨g, 0, none⟩), .int .i64 a1] w fun e w' => ∃ v0_ v1_ : Value, e = .returned (.agg #[v0_, v1_]) ∧ Kd.S (Kd.slice 3 (Kd.int .i64)) 24 w' w.heap.size (fun k_ => some k_ ≠ (v1_ : Value).ownBlock) v0_ r1 ∧ Kd.Q (Kd.int .i64) 3 w' w.heap.size (fun _ => True) v1_ r2 ∧ IsS70 w0 w' g s0_0 r3 ∧ Below w0.heap.size w0 w' ∧ KeepBut w w' g none := by
 have hu26 := Try.underlying26
 have b2 := Aside0.mk hI
 have HK := Aside0.mk (KeepBut.refl w g none)
 have HL := Aside0.mk hB.size
 clear hI
 have HW0 := Aside0.mk hB.size
 have HB := Aside0.mk hB
 clear hB
 have H : ((spec_l20Rd_pick.f k s0_0 s0_1 9).bind fun g2 => (if g2.1 = 0 then (spec_l20Logic.j0 k a1 g2.1 (g2.1 == 0) s0_0 g2.2) else (spec_l20Logic.j0 k a1 g2.1 (g2.1 == 1) s0_0 g2.2))) = some (r1, r2, r3) := h
 clear h
 obtain ⟨⟨f2, f7⟩, A3, H⟩ := bd_ H
 try dsimp only at H
 have L9 := Aside0.mk H
 clear H
 go_enter Try.func54, Try.ntmps54
 go_upto_block 0 with (first | ((with_reducible refine gate_dst (N := 4) rfl ?_); refine bx_ (N := 4) (cs := #[.slice none 0 0, .slice none 0 0]) (t := 26) ?_; intro b1 hg w5 hbox hb; replace HB := Aside0.mk (below_step (by repeat (first | (with_reducible first | exact HB.out | apply below_alloc | apply pw_below_drewN | apply below_drew1 | refine below_set ?_ (IsS70.ge b2.out)) | exact HB.out)) hb); have a8 := Aside0.mk (hbox); have f4 := Aside0.mk ((by rw [hg]; exact (keep_size (w := w) (g := g) (row := none) z4_26) : w.heap.size ≤ b1)); have d2 := Aside0.mk ((Nat.le_trans HW0.out (by rw [hg]; exact (keep_size (w := w) (g := g) (row := none) z4_26) : w.heap.size ≤ b1) : w0.heap.size ≤ b1)); replace HK := Aside0.mk (KeepBut.trans z4_26 (KeepBut.of_below hb g none) (.inl rfl)); have a7 := Aside0.mk ((by rw [hg]; exact Nat.ne_of_lt (IsS70.lt (show IsS70 w0 _ g s0_0 s0_1 from by repeat (first | (with_reducible first | exact b2.out | apply IsS70.alloc | apply IsS70.drewN | apply IsS70.drew | apply IsS70.set_1) | exact b2.out))) : g ≠ b1)); have b7 := Aside0.mk ((by rw [hg]; exact Nat.ne_of_gt (IsS70.lt (show IsS70 w0 _ g s0_0 s0_1 from by repeat (first | (with_reducible first | exact b2.out | apply IsS70.alloc | apply IsS70.drewN | apply IsS70.drew | apply IsS70.set_1) | exact b2.out))) : b1 ≠ g)); replace b2 := Aside0.mk (IsS70.below (by repeat (first | (with_reducible first | exact b2.out | apply IsS70.alloc | apply IsS70.drewN | apply IsS70.drew | apply IsS70.set_1) | exact b2.out)) hb); clear hb hbox hg) | ((with_reducible refine gate_dst (N := 5) rfl ?_); refine bx_ (N := 5) (cs := #[.slice none 0 0, .slice none 0 0]) (t := 26) ?_; intro a9 hg w6 hbox hb; replace HB := Aside0.mk (below_step (by repeat (first | (with_reducible first | exact HB.out | apply below_alloc | apply pw_below_drewN | apply below_drew1 | refine below_set ?_ (IsS70.ge b2.out) | refine below_set ?_ d2.out) | exact HB.out)) hb); have a0 := Aside0.mk (hbox); have g1 := Aside0.mk ((by rw [hg]; exact (keep_size (w := w) (g := g) (row := none) z4_20) : w.heap.size ≤ a9)); have d3 := Aside0.mk ((Nat.le_trans HW0.out (by rw [hg]; exact (keep_size (w := w) (g := g) (row := none) z4_20) : w.heap.size ≤ a9) : w0.heap.size ≤ a9)); replace HK := Aside0.mk (KeepBut.trans z4_20 (KeepBut.of_below hb g none) (.inl rfl)); have b4 := Aside0.mk ((by rw [hg]; exact Nat.ne_of_lt (blk_lt (g := b1) (o := .cells #[.slice none 0 0, .slice none 0 0] 26 (0, 0)) z4_2) : b1 ≠ a9)); have b6 := Aside0.mk ((by rw [hg]; exact Nat.ne_of_gt (blk_lt (g := b1) (o := .cells #[.slice none 0 0, .slice none 0 0] 26 (0, 0)) z4_2) : a9 ≠ b1)); replace a8 := Aside0.mk (blk_below (g := b1) (o := .cells #[.slice none 0 0, .slice none 0 0] 26 (0, 0)) z4_2 hb); have a6 := Aside0.mk ((by rw [hg]; exact Nat.ne_of_lt (IsS70.lt (show IsS70 w0 _ g s0_0 s0_1 from by repeat (first | (with_reducible first | exact b2.out | apply IsS70.alloc | apply IsS70.drewN | apply IsS70.drew | apply IsS70.set_1 | refine IsS70.far ?_ a7.out _) | exact b2.out))) : g ≠ a9)); have b3 := Aside0.mk ((by rw [hg]; exact Nat.ne_of_gt (IsS70.lt (show IsS70 w0 _ g s0_0 s0_1 from by repeat (first | (with_reducible first | exact b2.out | apply IsS70.alloc | apply IsS70.drewN | apply IsS70.drew | apply IsS70.set_1 | refine IsS70.far ?_ a7.out _) | exact b2.out))) : a9 ≠ g)); replace b2 := Aside0.mk (IsS70.below (by repeat (first | (with_reducible first | exact b2.out | apply IsS70.alloc | apply IsS70.drewN | apply IsS70.drew | apply IsS70.set_1 | refine IsS70.far ?_ a7.out _) | exact b2.out)) hb); clear hb hbox hg; have b12 := b6.out; have b13 := b4.out; have b14 := b3.out; have b15 := a6.out; have b8 := cz20 a0.out; have b9 := cz21 a0.out; have d0 := blk_frozen a0.out 0; have d1 := blk_frozen a0.out 1) | ((with_reducible refine gate_callee (f := 76) rfl ?_); refine gl_ (some 12) Try.func76 #[.pointer (some ⟨g, 0, none⟩), .int .i64 9] ?_; (with_reducible refine (spec_l20Rd_pick.calls k g s0_0 s0_1 9 f2 f7 w0 _ ?side1 ?side2 A3.out).mono ?_); (case side1 => repeat (first | (with_reducible first | exact b2.out | apply IsS70.alloc | apply IsS70.drewN | apply IsS70.drew | apply IsS70.set_1 | refine IsS70.far ?_ a7.out _ | refine IsS70.far ?_ a6.out _) | exact b2.out)); (case side2 => repeat (first | (with_reducible first | exact HB.out | apply below_alloc | apply pw_below_drewN | apply below_drew1 | refine below_set ?_ (IsS70.ge b2.out) | refine below_set ?_ d2.out | refine below_set ?_ d3.out) | exact HB.out)); rintro e w' ⟨rfl, hi, hb, hk⟩; refine ⟨_, rfl, ?_⟩; replace a8 := Aside0.mk (KeepBut.blk hk (g' := b1) (o := .cells #[.slice none 0 0, .slice none 0 0] 26 (0, 0)) z4_5 b7.out (by simp)); replace a0 := Aside0.mk (KeepBut.blk hk (g' := a9) (o := .cells #[.slice none 0 0, .slice none 0 0] 26 (0, 0)) (by (with_reducible repeat (first | refine blk_drewN ?_ _ | refine blk_drew ?_ | refine blk_alloc ?_ _)); refine blk_put (cs := #[.slice none 0 0, .slice none 0 0]) ?_ 1 _ rfl; (with_reducible repeat (first | refine blk_drewN ?_ _ | refine blk_drew ?_ | refine blk_alloc ?_ _)); refine blk_put (cs := #[.slice none 0 0, .slice none 0 0]) ?_ 0 _ rfl; (with_reducible repeat (first | refine blk_drewN ?_ _ | refine blk_drew ?_ | refine blk_alloc ?_ _)); exact a0.out) b3.out (by simp)); replace HK := Aside0.mk (KeepBut.trans z4_0 hk (.inl rfl)); replace HB := Aside0.mk (hb); replace b2 := Aside0.mk (hi); (try clear hb); (try clear hb2); (try clear hk); (try clear hi)))
 (try simp only [Act.put, List.setIfInBounds_toArray, List.set_cons_zero, List.set_cons_succ])
 go_cut [] (fun wc => ∃ (kq : Nat) (e9 : Int) (b5 : List (List Int)) (e1 : List Int) (u241000 : Value) (u241001 : Value), Aside0 (spec_l20Logic.j2 kq a1 s0_0 e9 b5 e1 = some (r1, r2, r3)) ∧ Aside0 (kq ≤ k) ∧ Aside0 (Kd.S (Kd.slice 3 (Kd.int .i64)) 24 wc w.heap.size (fun k_ => some k_ ≠ (u241001 : Value).ownBlock) u241000 b5) ∧ Aside0 (Kd.Q (Kd.int .i64) 3 wc w.heap.size (fun _ => True) u241001 e1) ∧ Aside0 (wc.heap[b1]? = some (.cells #[(.slice none 0 0), (.slice none 0 0)] 26 (0, 0))) ∧ Aside0 (wc.heap[a9]? = some (.cells #[u241000, u241001] 26 (0, 0))) ∧ Aside0 (IsS70 w0 wc g s0_0 e9) ∧ Aside0 (KeepBut w wc g none) ∧ Aside0 (Below w0.heap.size w0 wc))
 case first =>
  have H := L9.out
  clear L9
  have C1 := Aside0.mk H
  clear H
  go_upto_if 14 with (fail)
  go_cut [14] (fun v14 wc => ∃ (kq : Nat) (i1 : Bool), v14 = .bool i1 ∧ Aside0 (spec_l20Logic.j0 kq a1 f2 i1 s0_0 f7 = some (r1, r2, r3)) ∧ Aside0 (kq ≤ k) ∧ Aside0 (wc.heap[b1]? = some (.cells #[(.slice none 0 0), (.slice none 0 0)] 26 (0, 0))) ∧ Aside0 (wc.heap[a9]? = some (.cells #[(.slice none 0 0), (.slice none 0 0)] 26 (0, 0))) ∧ Aside0 (IsS70 w0 wc g s0_0 f7) ∧ Aside0 (KeepBut w wc g none) ∧ Aside0 (Below w0.heap.size w0 wc))
  case first =>
   have H := C1.out
   clear C1
   by_cases n2 : f2 = 0
   ·
    rw [if_pos n2] at H
    have e5 := bt_ n2
    have g3 := bu_ n2
    clear n2
    (first | rw [e5] | (simp only [i64_w, i32_w]; rw [e5]) | skip)
    have H' := Aside0.mk H
    clear H
    go_wp2
    go_meet
    case rel => exact ⟨_, ((f2 == 0)), z4_29, H', ⟨by first | omega | exact Nat.le_refl _⟩, ⟨z4_2⟩, ⟨z4_4⟩, ⟨z4_1⟩, ⟨z4_0⟩, ⟨z4_3⟩⟩
   rw [if_neg n2] at H
   have e5 := bv_ n2
   have g3 := bw_ n2
   (first | rw [e5] | (simp only [i64_w, i32_w]; rw [e5]) | skip)
   have H' := Aside0.mk H
   clear H
   go_wp2
   go_meet
   case rel => exact ⟨_, ((f2 == 1)), z4_29, H', ⟨by first | omega | exact Nat.le_refl _⟩, ⟨z4_2⟩, ⟨z4_4⟩, ⟨z4_1⟩, ⟨z4_0⟩, ⟨z4_3⟩⟩
  case rest =>
   clear C1
   try clear c1
   try clear p2
   try clear c5
   try clear c7
   try clear c8
   try clear n2
   try clear e5
   try clear g3
   try clear b8
   try clear b9
   try clear d0
   try clear d1
   obtain ⟨kq, i1, rfl, HA, v4, a8, a0, b2, HK, HB⟩ := hcut
   cases kq with
   | zero => exact absurd HA.out (by simp [spec_l20Logic.j0])
   | succ C2 =>
    have H := HA.out
    clear HA
    simp only [spec_l20Logic.j0] at H
    by_cases v5 : i1 = true
    ·
     subst v5
     rw [if_pos rfl] at H
     obtain ⟨⟨C3, I9⟩, A14, H⟩ := bd_ H
     try dsimp only at H
     obtain ⟨⟨n3, o4⟩, A15, H⟩ := bd_ H
     try dsimp only at H
     have H' := Aside0.mk H
     clear H
     go_wp2_with (first | ((with_reducible refine gate_callee (f := 76) rfl ?_); refine gl_ (some 18) Try.func76 #[.pointer (some ⟨g, 0, none⟩), .int .i64 4] ?_; (with_reducible refine (spec_l20Rd_pick.calls C2 g s0_0 f7 4 C3 I9 w0 _ ?side1 ?side2 A14.out).mono ?_); (case side1 => repeat (first | (with_reducible first | exact b2.out | apply IsS70.alloc | apply IsS70.drewN | apply IsS70.drew | apply IsS70.set_1 | refine IsS70.far ?_ a7.out _ | refine IsS70.far ?_ a6.out _) | exact b2.out)); (case side2 => repeat (first | (with_reducible first | exact HB.out | apply below_alloc | apply pw_below_drewN | apply below_drew1 | refine below_set ?_ (IsS70.ge b2.out) | refine below_set ?_ d2.out | refine below_set ?_ d3.out) | exact HB.out)); rintro e w' ⟨rfl, hi, hb, hk⟩; refine ⟨_, rfl, ?_⟩; replace a8 := Aside0.mk (KeepBut.blk hk (g' := b1) (o := .cells #[.slice none 0 0, .slice none 0 0] 26 (0, 0)) z4_2 b7.out (by simp)); replace a0 := Aside0.mk (KeepBut.blk hk (g' := a9) (o := .cells #[.slice none 0 0, .slice none 0 0] 26 (0, 0)) z4_4 b3.out (by simp)); replace HK := Aside0.mk (KeepBut.trans z4_0 hk (.inl rfl)); replace HB := Aside0.mk (hb); replace b2 := Aside0.mk (hi); (try clear hb); (try clear hb2); (try clear hk); (try clear hi)) | ((with_reducible refine gate_callee (f := 77) rfl ?_); refine gl_ (some 19) Try.func77 #[.int .i64 C3] ?_; (with_reducible refine (spec_l20Boole.calls C2 C3 n3 o4 _ A15.out).mono ?_); rintro e w' ⟨b16, b17, rfl, ho0, ho1, hb⟩; refine ⟨_, rfl, ?_⟩; have z3 := Aside0.mk (Kd.S_lower ho0 (keep_size (w := w) (g := g) (row := none) z4_0)); have z4 := Aside0.mk (Kd.R_lower ho1 (keep_size (w := w) (g := g) (row := none) z4_0)); replace a8 := Aside0.mk (blk_below (g := b1) (o := .cells #[.slice none 0 0, .slice none 0 0] 26 (0, 0)) z4_2 hb); replace a0 := Aside0.mk (blk_below (g := a9) (o := .cells #[.slice none 0 0, .slice none 0 0] 26 (0, 0)) z4_4 hb); replace HK := Aside0.mk (KeepBut.trans z4_0 (KeepBut.of_below hb g none) (.inl rfl)); replace HB := Aside0.mk (below_step z4_3 hb); replace b2 := Aside0.mk (IsS70.below z4_1 hb); (try clear hb); (try clear hb2); (try clear hk); (try clear hi); (try clear ho0); (try clear ho1); obtain ⟨v8, x0, M0⟩ := Kd.S_slice z3.out; subst M0; have b0b := b6.out; have b0c := b4.out; have b0d := b3.out; have b0e := a6.out; have b8 := cz20 a0.out; have b9 := cz21 a0.out; have d0 := blk_frozen a0.out 0; have d1 := blk_frozen a0.out 1; obtain ⟨C4, C5, M1⟩ := Kd.R_slice z4.out; subst M1))
     go_meet
     case rel => exact ⟨_, (I9), (n3), (o4), (.slice v8 n3.length x0), (.slice C4 o4.length C5), H', ⟨by have := v4.out; first | omega | exact Nat.le_refl _⟩, ⟨by (with_reducible repeat (first | apply Kd.S_alloc | apply Kd.S_drewN | apply Kd.S_drew)); exact Kd.S_mono (Kd.S_far (p := ⟨a9, 1, none⟩) (Kd.S_far (p := ⟨a9, 0, none⟩) (Kd.S_types z3.out a0.out z4_27) (fun _ hk => hk.2) (.slice v8 n3.length x0)) (fun _ hk => hk.2) (.slice C4 o4.length C5)) (fun _ hk => hk.1)⟩, ⟨Kd.Q_of_R (by (with_reducible repeat (first | apply Kd.R_alloc | apply Kd.R_drewN | apply Kd.R_drew)); exact Kd.R_mono (Kd.R_far (p := ⟨a9, 1, none⟩) (Kd.R_far (p := ⟨a9, 0, none⟩) (Kd.R_types z4.out a0.out z4_27) (fun _ hk => hk.2) (.slice v8 n3.length x0)) (fun _ hk => hk.2) (.slice C4 o4.length C5)) (fun _ hk => trivial))⟩, ⟨z4_5⟩, ⟨by (with_reducible repeat (first | refine blk_drewN ?_ _ | refine blk_drew ?_ | refine blk_alloc ?_ _)); refine blk_put (cs := #[.slice v8 n3.length x0, .slice none 0 0]) ?_ 1 _ rfl; (with_reducible repeat (first | refine blk_drewN ?_ _ | refine blk_drew ?_ | refine blk_alloc ?_ _)); refine blk_put (cs := #[.slice none 0 0, .slice none 0 0]) ?_ 0 _ rfl; (with_reducible repeat (first | refine blk_drewN ?_ _ | refine blk_drew ?_ | refine blk_alloc ?_ _)); exact a0.out⟩, ⟨z4_1⟩, ⟨z4_0⟩, ⟨z4_3⟩⟩
    replace v5 := Bool.eq_false_iff.mpr v5
    subst v5
    rw [if_neg nf_] at H
    have C6 := Aside0.mk H
    clear H
    go_upto_if 20 with (fail)
    go_cut [20] (fun v20 wc => ∃ (kq : Nat) (i2 : Bool), v20 = .bool i2 ∧ Aside0 (spec_l20Logic.j1 kq a1 f2 i2 s0_0 f7 = some (r1, r2, r3)) ∧ Aside0 (kq ≤ C2) ∧ Aside0 (wc.heap[b1]? = some (.cells #[(.slice none 0 0), (.slice none 0 0)] 26 (0, 0))) ∧ Aside0 (wc.heap[a9]? = some (.cells #[(.slice none 0 0), (.slice none 0 0)] 26 (0, 0))) ∧ Aside0 (IsS70 w0 wc g s0_0 f7) ∧ Aside0 (KeepBut w wc g none) ∧ Aside0 (Below w0.heap.size w0 wc))
    case first =>
     have H := C6.out
     clear C6
     by_cases o3 : f2 = 2
     ·
      rw [if_pos o3] at H
      have e8 := bt_ o3
      have h3 := bu_ o3
      clear o3
      (first | rw [e8] | (simp only [i64_w, i32_w]; rw [e8]) | skip)
      have H' := Aside0.mk H
      clear H
      go_wp2
      go_meet
      case rel => exact ⟨_, ((f2 == 2)), z4_29, H', ⟨by have := v4.out; first | omega | exact Nat.le_refl _⟩, ⟨z4_2⟩, ⟨z4_4⟩, ⟨z4_1⟩, ⟨z4_0⟩, ⟨z4_3⟩⟩
     rw [if_neg o3] at H
     have e8 := bv_ o3
     have h3 := bw_ o3
     (first | rw [e8] | (simp only [i64_w, i32_w]; rw [e8]) | skip)
     have H' := Aside0.mk H
     clear H
     go_wp2
     go_meet
     case rel => exact ⟨_, ((f2 == 3)), z4_29, H', ⟨by have := v4.out; first | omega | exact Nat.le_refl _⟩, ⟨z4_2⟩, ⟨z4_4⟩, ⟨z4_1⟩, ⟨z4_0⟩, ⟨z4_3⟩⟩
    case rest =>
     clear C6
     try clear c1
     try clear c2
     try clear p2
     try clear c5
     try clear c7
     try clear c8
     try clear n2
     try clear e5
     try clear g3
     try clear v5
     try clear L5
     try clear L6
     try clear o3
     try clear e8
     try clear h3
     try clear b8
     try clear b9
     try clear d0
     try clear d1
     obtain ⟨kq, i2, rfl, HA, L8, a8, a0, b2, HK, HB⟩ := hcut
     cases kq with
     | zero => exact absurd HA.out (by simp [spec_l20Logic.j1])
     | succ f0 =>
      have H := HA.out
      clear HA
      simp only [spec_l20Logic.j1] at H
      by_cases z5 : i2 = true
      ·
       subst z5
       rw [if_pos rfl] at H
       obtain ⟨⟨C7, C8⟩, A26, H⟩ := bd_ H
       try dsimp only at H
       obtain ⟨⟨C9, D0⟩, A27, H⟩ := bd_ H
       try dsimp only at H
       obtain ⟨⟨n4, o5⟩, A28, H⟩ := bd_ H
       try dsimp only at H
       have H' := Aside0.mk H
       clear H
       go_wp2_with (first | ((with_reducible refine gate_callee (f := 77) rfl ?_); refine gl_ (some 23) Try.func77 #[.int .i64 2] ?_; (with_reducible refine (spec_l20Boole.calls f0 2 C7 C8 _ A26.out).mono ?_); rintro e w' ⟨b18, b19, rfl, ho0, ho1, hb⟩; refine ⟨_, rfl, ?_⟩; have g5 := Aside0.mk (Kd.S_lower ho0 (keep_size (w := w) (g := g) (row := none) z4_0)); have g9 := Aside0.mk (Kd.R_lower ho1 (keep_size (w := w) (g := g) (row := none) z4_0)); replace a8 := Aside0.mk (blk_below (g := b1) (o := .cells #[.slice none 0 0, .slice none 0 0] 26 (0, 0)) z4_2 hb); replace a0 := Aside0.mk (blk_below (g := a9) (o := .cells #[.slice none 0 0, .slice none 0 0] 26 (0, 0)) z4_4 hb); replace HK := Aside0.mk (KeepBut.trans z4_0 (KeepBut.of_below hb g none) (.inl rfl)); replace HB := Aside0.mk (below_step z4_3 hb); replace b2 := Aside0.mk (IsS70.below z4_1 hb); (try clear hb); (try clear hb2); (try clear hk); (try clear hi); (try clear ho0); (try clear ho1)) | ((with_reducible refine gate_callee (f := 77) rfl ?_); refine gl_ (some 24) Try.func77 #[.int .i64 2] ?_; (with_reducible refine (spec_l20Boole.calls f0 2 C9 D0 _ A27.out).mono ?_); rintro e w' ⟨b1a, b1b, rfl, ho0, ho1, hb⟩; refine ⟨_, rfl, ?_⟩; have h4 := Aside0.mk (Kd.S_lower (Kd.S_new' (Kd.S_new' ho0 (Kd.S_lt z4_25)) (Kd.R_lt z4_16)) (keep_size (w := w) (g := g) (row := none) z4_0)); replace g5 := Aside0.mk (Kd.S_mono (Kd.S_told (Kd.S_told (Kd.S_old z4_25 hb) (Kd.S_base ho0)) (Kd.R_base ho1)) (fun _ h_ => h_.1)); have i3 := Aside0.mk (Kd.R_lower (Kd.R_new' ho1 (Kd.R_lt z4_16)) (keep_size (w := w) (g := g) (row := none) z4_0)); replace g9 := Aside0.mk (Kd.R_elder' z4_16 (Kd.R_base ho1) hb); replace a8 := Aside0.mk (blk_below (g := b1) (o := .cells #[.slice none 0 0, .slice none 0 0] 26 (0, 0)) z4_2 hb); replace a0 := Aside0.mk (blk_below (g := a9) (o := .cells #[.slice none 0 0, .slice none 0 0] 26 (0, 0)) z4_4 hb); replace HK := Aside0.mk (KeepBut.trans z4_0 (KeepBut.of_below hb g none) (.inl rfl)); replace HB := Aside0.mk (below_step z4_3 hb); replace b2 := Aside0.mk (IsS70.below z4_1 hb); (try clear hb); (try clear hb2); (try clear hk); (try clear hi); (try clear ho0); (try clear ho1); obtain ⟨M2, M3, M4⟩ := Kd.S_slice g5.out; subst M4; obtain ⟨M5, M6, M7⟩ := Kd.R_slice g9.out; subst M7; obtain ⟨M8, M9, N0⟩ := Kd.S_slice h4.out; subst N0; obtain ⟨N1, N2, N3⟩ := Kd.R_slice i3.out; subst N3) | ((with_reducible refine gate_callee (f := 78) rfl ?_); refine gl_ (some 25) Try.func78 #[.agg #[.slice M2 C7.length M3, .slice M5 C8.length M6], .agg #[.slice M8 C9.length M9, .slice N1 D0.length N2]] ?_; (with_reducible refine (spec_l20Glued.calls f0 _ _ C7 _ _ C8 _ _ C9 _ _ D0 n4 o5 _ (y1 g5.out) (y2 g5.out) (y1 g9.out) (y2 g9.out) (y1 h4.out) (y2 h4.out) (y1 i3.out) (y2 i3.out) A28.out).mono ?_); rintro e w' ⟨b1c, b1d, rfl, ho0, ho1, hb⟩; refine ⟨_, rfl, ?_⟩; have z6 := Aside0.mk (Kd.S_lower (Kd.S_new' (Kd.S_new' (Kd.S_new' (Kd.S_new' ho0 (Kd.S_lt z4_25)) (Kd.R_lt z4_16)) (Kd.S_lt (by (with_reducible repeat (first | apply Kd.S_alloc | apply Kd.S_drewN | apply Kd.S_drew)); exact h4.out))) (Kd.R_lt z4_33)) (keep_size (w := w) (g := g) (row := none) z4_0)); replace g5 := Aside0.mk (Kd.S_mono (Kd.S_told (Kd.S_told (Kd.S_old z4_25 hb) (Kd.S_base ho0)) (Kd.R_base ho1)) (fun _ h_ => h_.1)); replace h4 := Aside0.mk (Kd.S_mono (Kd.S_told (Kd.S_told (Kd.S_old (by (with_reducible repeat (first | apply Kd.S_alloc | apply Kd.S_drewN | apply Kd.S_drew)); exact h4.out) hb) (Kd.S_base ho0)) (Kd.R_base ho1)) (fun _ h_ => h_.1)); have z7 := Aside0.mk (Kd.R_lower (Kd.R_new' (Kd.R_new' ho1 (Kd.R_lt z4_16)) (Kd.R_lt z4_33)) (keep_size (w := w) (g := g) (row := none) z4_0)); replace g9 := Aside0.mk (Kd.R_elder' z4_16 (Kd.R_base ho1) hb); replace i3 := Aside0.mk (Kd.R_elder' z4_33 (Kd.R_base ho1) hb); replace a8 := Aside0.mk (blk_below (g := b1) (o := .cells #[.slice none 0 0, .slice none 0 0] 26 (0, 0)) z4_2 hb); replace a0 := Aside0.mk (blk_below (g := a9) (o := .cells #[.slice none 0 0, .slice none 0 0] 26 (0, 0)) z4_4 hb); replace HK := Aside0.mk (KeepBut.trans z4_0 (KeepBut.of_below hb g none) (.inl rfl)); replace HB := Aside0.mk (below_step z4_3 hb); replace b2 := Aside0.mk (IsS70.below z4_1 hb); (try clear hb); (try clear hb2); (try clear hk); (try clear hi); (try clear ho0); (try clear ho1); obtain ⟨x1, x2, N4⟩ := Kd.S_slice z6.out; subst N4; have b0f := b6.out; have b0g := b4.out; have b0h := b3.out; have b0i := a6.out; have b8 := cz20 a0.out; have b9 := cz21 a0.out; have d0 := blk_frozen a0.out 0; have d1 := blk_frozen a0.out 1; obtain ⟨D1, D2, N5⟩ := Kd.R_slice z7.out; subst N5))
       go_meet
       case rel => exact ⟨_, (f7), (n4), (o5), (.slice x1 n4.length x2), (.slice D1 o5.length D2), H', ⟨z4_21⟩, ⟨by (with_reducible repeat (first | apply Kd.S_alloc | apply Kd.S_drewN | apply Kd.S_drew)); exact Kd.S_mono (Kd.S_far (p := ⟨a9, 1, none⟩) (Kd.S_far (p := ⟨a9, 0, none⟩) (Kd.S_types z6.out a0.out z4_27) (fun _ hk => hk.2) (.slice x1 n4.length x2)) (fun _ hk => hk.2) (.slice D1 o5.length D2)) (fun _ hk => hk.1.1.1.1.1)⟩, ⟨Kd.Q_of_R (by (with_reducible repeat (first | apply Kd.R_alloc | apply Kd.R_drewN | apply Kd.R_drew)); exact Kd.R_mono (Kd.R_far (p := ⟨a9, 1, none⟩) (Kd.R_far (p := ⟨a9, 0, none⟩) (Kd.R_types z7.out a0.out z4_27) (fun _ hk => hk.2) (.slice x1 n4.length x2)) (fun _ hk => hk.2) (.slice D1 o5.length D2)) (fun _ hk => trivial))⟩, ⟨z4_5⟩, ⟨by (with_reducible repeat (first | refine blk_drewN ?_ _ | refine blk_drew ?_ | refine blk_alloc ?_ _)); refine blk_put (cs := #[.slice x1 n4.length x2, .slice none 0 0]) ?_ 1 _ rfl; (with_reducible repeat (first | refine blk_drewN ?_ _ | refine blk_drew ?_ | refine blk_alloc ?_ _)); refine blk_put (cs := #[.slice none 0 0, .slice none 0 0]) ?_ 0 _ rfl; (with_reducible repeat (first | refine blk_drewN ?_ _ | refine blk_drew ?_ | refine blk_alloc ?_ _)); exact a0.out⟩, ⟨z4_1⟩, ⟨z4_0⟩, ⟨z4_3⟩⟩
      replace z5 := Bool.eq_false_iff.mpr z5
      subst z5
      rw [if_neg nf_] at H
      by_cases o6 : f2 = 4
      ·
       rw [if_pos o6] at H
       have i7 := bt_ o6
       have i8 := bu_ o6
       clear o6
       obtain ⟨⟨D3, D4⟩, A42, H⟩ := bd_ H
       try dsimp only at H
       obtain ⟨⟨D5, D6⟩, A43, H⟩ := bd_ H
       try dsimp only at H
       obtain ⟨⟨n5, o7⟩, A44, H⟩ := bd_ H
       try dsimp only at H
       have H' := Aside0.mk H
       clear H
       go_wp2_with (first | ((with_reducible refine gate_callee (f := 77) rfl ?_); refine gl_ (some 28) Try.func77 #[.int .i64 2] ?_; (with_reducible refine (spec_l20Boole.calls f0 2 D3 D4 _ A42.out).mono ?_); rintro e w' ⟨b1e, b1f, rfl, ho0, ho1, hb⟩; refine ⟨_, rfl, ?_⟩; have g6 := Aside0.mk (Kd.S_lower ho0 (keep_size (w := w) (g := g) (row := none) z4_0)); have h0 := Aside0.mk (Kd.R_lower ho1 (keep_size (w := w) (g := g) (row := none) z4_0)); replace a8 := Aside0.mk (blk_below (g := b1) (o := .cells #[.slice none 0 0, .slice none 0 0] 26 (0, 0)) z4_2 hb); replace a0 := Aside0.mk (blk_below (g := a9) (o := .cells #[.slice none 0 0, .slice none 0 0] 26 (0, 0)) z4_4 hb); replace HK := Aside0.mk (KeepBut.trans z4_0 (KeepBut.of_below hb g none) (.inl rfl)); replace HB := Aside0.mk (below_step z4_3 hb); replace b2 := Aside0.mk (IsS70.below z4_1 hb); (try clear hb); (try clear hb2); (try clear hk); (try clear hi); (try clear ho0); (try clear ho1)) | ((with_reducible refine gate_callee (f := 77) rfl ?_); refine gl_ (some 29) Try.func77 #[.int .i64 3] ?_; (with_reducible refine (spec_l20Boole.calls f0 3 D5 D6 _ A43.out).mono ?_); rintro e w' ⟨b1g, b1h, rfl, ho0, ho1, hb⟩; refine ⟨_, rfl, ?_⟩; have h5 := Aside0.mk (Kd.S_lower (Kd.S_new' (Kd.S_new' ho0 (Kd.S_lt z4_24)) (Kd.R_lt z4_15)) (keep_size (w := w) (g := g) (row := none) z4_0)); replace g6 := Aside0.mk (Kd.S_mono (Kd.S_told (Kd.S_told (Kd.S_old z4_24 hb) (Kd.S_base ho0)) (Kd.R_base ho1)) (fun _ h_ => h_.1)); have i4 := Aside0.mk (Kd.R_lower (Kd.R_new' ho1 (Kd.R_lt z4_15)) (keep_size (w := w) (g := g) (row := none) z4_0)); replace h0 := Aside0.mk (Kd.R_elder' z4_15 (Kd.R_base ho1) hb); replace a8 := Aside0.mk (blk_below (g := b1) (o := .cells #[.slice none 0 0, .slice none 0 0] 26 (0, 0)) z4_2 hb); replace a0 := Aside0.mk (blk_below (g := a9) (o := .cells #[.slice none 0 0, .slice none 0 0] 26 (0, 0)) z4_4 hb); replace HK := Aside0.mk (KeepBut.trans z4_0 (KeepBut.of_below hb g none) (.inl rfl)); replace HB := Aside0.mk (below_step z4_3 hb); replace b2 := Aside0.mk (IsS70.below z4_1 hb); (try clear hb); (try clear hb2); (try clear hk); (try clear hi); (try clear ho0); (try clear ho1); obtain ⟨N6, N7, N8⟩ := Kd.S_slice g6.out; subst N8; obtain ⟨N9, O0, O1⟩ := Kd.R_slice h0.out; subst O1; obtain ⟨O2, O3, O4⟩ := Kd.S_slice h5.out; subst O4; obtain ⟨O5, O6, O7⟩ := Kd.R_slice i4.out; subst O7) | ((with_reducible refine gate_callee (f := 78) rfl ?_); refine gl_ (some 30) Try.func78 #[.agg #[.slice N6 D3.length N7, .slice N9 D4.length O0], .agg #[.slice O2 D5.length O3, .slice O5 D6.length O6]] ?_; (with_reducible refine (spec_l20Glued.calls f0 _ _ D3 _ _ D4 _ _ D5 _ _ D6 n5 o7 _ (y1 g6.out) (y2 g6.out) (y1 h0.out) (y2 h0.out) (y1 h5.out) (y2 h5.out) (y1 i4.out) (y2 i4.out) A44.out).mono ?_); rintro e w' ⟨b1i, b1j, rfl, ho0, ho1, hb⟩; refine ⟨_, rfl, ?_⟩; have z8 := Aside0.mk (Kd.S_lower (Kd.S_new' (Kd.S_new' (Kd.S_new' (Kd.S_new' ho0 (Kd.S_lt z4_24)) (Kd.R_lt z4_15)) (Kd.S_lt (by (with_reducible repeat (first | apply Kd.S_alloc | apply Kd.S_drewN | apply Kd.S_drew)); exact h5.out))) (Kd.R_lt z4_32)) (keep_size (w := w) (g := g) (row := none) z4_0)); replace g6 := Aside0.mk (Kd.S_mono (Kd.S_told (Kd.S_told (Kd.S_old z4_24 hb) (Kd.S_base ho0)) (Kd.R_base ho1)) (fun _ h_ => h_.1)); replace h5 := Aside0.mk (Kd.S_mono (Kd.S_told (Kd.S_told (Kd.S_old (by (with_reducible repeat (first | apply Kd.S_alloc | apply Kd.S_drewN | apply Kd.S_drew)); exact h5.out) hb) (Kd.S_base ho0)) (Kd.R_base ho1)) (fun _ h_ => h_.1)); have z9 := Aside0.mk (Kd.R_lower (Kd.R_new' (Kd.R_new' ho1 (Kd.R_lt z4_15)) (Kd.R_lt z4_32)) (keep_size (w := w) (g := g) (row := none) z4_0)); replace h0 := Aside0.mk (Kd.R_elder' z4_15 (Kd.R_base ho1) hb); replace i4 := Aside0.mk (Kd.R_elder' z4_32 (Kd.R_base ho1) hb); replace a8 := Aside0.mk (blk_below (g := b1) (o := .cells #[.slice none 0 0, .slice none 0 0] 26 (0, 0)) z4_2 hb); replace a0 := Aside0.mk (blk_below (g := a9) (o := .cells #[.slice none 0 0, .slice none 0 0] 26 (0, 0)) z4_4 hb); replace HK := Aside0.mk (KeepBut.trans z4_0 (KeepBut.of_below hb g none) (.inl rfl)); replace HB := Aside0.mk (below_step z4_3 hb); replace b2 := Aside0.mk (IsS70.below z4_1 hb); (try clear hb); (try clear hb2); (try clear hk); (try clear hi); (try clear ho0); (try clear ho1); obtain ⟨x3, x4, O8⟩ := Kd.S_slice z8.out; subst O8; have b0j := b6.out; have b0k := b4.out; have b0l := b3.out; have b0m := a6.out; have b8 := cz20 a0.out; have b9 := cz21 a0.out; have d0 := blk_frozen a0.out 0; have d1 := blk_frozen a0.out 1; obtain ⟨D7, D8, O9⟩ := Kd.R_slice z9.out; subst O9))
       go_meet
       case rel => exact ⟨_, (f7), (n5), (o7), (.slice x3 n5.length x4), (.slice D7 o7.length D8), H', ⟨z4_21⟩, ⟨by (with_reducible repeat (first | apply Kd.S_alloc | apply Kd.S_drewN | apply Kd.S_drew)); exact Kd.S_mono (Kd.S_far (p := ⟨a9, 1, none⟩) (Kd.S_far (p := ⟨a9, 0, none⟩) (Kd.S_types z8.out a0.out z4_27) (fun _ hk => hk.2) (.slice x3 n5.length x4)) (fun _ hk => hk.2) (.slice D7 o7.length D8)) (fun _ hk => hk.1.1.1.1.1)⟩, ⟨Kd.Q_of_R (by (with_reducible repeat (first | apply Kd.R_alloc | apply Kd.R_drewN | apply Kd.R_drew)); exact Kd.R_mono (Kd.R_far (p := ⟨a9, 1, none⟩) (Kd.R_far (p := ⟨a9, 0, none⟩) (Kd.R_types z9.out a0.out z4_27) (fun _ hk => hk.2) (.slice x3 n5.length x4)) (fun _ hk => hk.2) (.slice D7 o7.length D8)) (fun _ hk => trivial))⟩, ⟨z4_5⟩, ⟨by (with_reducible repeat (first | refine blk_drewN ?_ _ | refine blk_drew ?_ | refine blk_alloc ?_ _)); refine blk_put (cs := #[.slice x3 n5.length x4, .slice none 0 0]) ?_ 1 _ rfl; (with_reducible repeat (first | refine blk_drewN ?_ _ | refine blk_drew ?_ | refine blk_alloc ?_ _)); refine blk_put (cs := #[.slice none 0 0, .slice none 0 0]) ?_ 0 _ rfl; (with_reducible repeat (first | refine blk_drewN ?_ _ | refine blk_drew ?_ | refine blk_alloc ?_ _)); exact a0.out⟩, ⟨z4_1⟩, ⟨z4_0⟩, ⟨z4_3⟩⟩
      rw [if_neg o6] at H
      have i7 := bv_ o6
      have i8 := bw_ o6
      by_cases o8 : f2 = 5
      ·
       rw [if_pos o8] at H
       have i9 := bt_ o8
       have j3 := bu_ o8
       clear o8
       obtain ⟨⟨D9, E0⟩, A58, H⟩ := bd_ H
       try dsimp only at H
       obtain ⟨⟨E1, E2⟩, A59, H⟩ := bd_ H
       try dsimp only at H
       obtain ⟨⟨E3, E4⟩, A60, H⟩ := bd_ H
       try dsimp only at H
       obtain ⟨⟨E5, E6⟩, A61, H⟩ := bd_ H
       try dsimp only at H
       obtain ⟨⟨n6, o9⟩, A62, H⟩ := bd_ H
       try dsimp only at H
       have H' := Aside0.mk H
       clear H
       go_wp2_with (first | ((with_reducible refine gate_callee (f := 77) rfl ?_); refine gl_ (some 33) Try.func77 #[.int .i64 2] ?_; (with_reducible refine (spec_l20Boole.calls f0 2 D9 E0 _ A58.out).mono ?_); rintro e w' ⟨b1k, b1l, rfl, ho0, ho1, hb⟩; refine ⟨_, rfl, ?_⟩; have f5 := Aside0.mk (Kd.S_lower ho0 (keep_size (w := w) (g := g) (row := none) z4_0)); have f6 := Aside0.mk (Kd.R_lower ho1 (keep_size (w := w) (g := g) (row := none) z4_0)); replace a8 := Aside0.mk (blk_below (g := b1) (o := .cells #[.slice none 0 0, .slice none 0 0] 26 (0, 0)) z4_2 hb); replace a0 := Aside0.mk (blk_below (g := a9) (o := .cells #[.slice none 0 0, .slice none 0 0] 26 (0, 0)) z4_4 hb); replace HK := Aside0.mk (KeepBut.trans z4_0 (KeepBut.of_below hb g none) (.inl rfl)); replace HB := Aside0.mk (below_step z4_3 hb); replace b2 := Aside0.mk (IsS70.below z4_1 hb); (try clear hb); (try clear hb2); (try clear hk); (try clear hi); (try clear ho0); (try clear ho1)) | ((with_reducible refine gate_callee (f := 77) rfl ?_); refine gl_ (some 34) Try.func77 #[.int .i64 2] ?_; (with_reducible refine (spec_l20Boole.calls f0 2 E1 E2 _ A59.out).mono ?_); rintro e w' ⟨b1m, b1n, rfl, ho0, ho1, hb⟩; refine ⟨_, rfl, ?_⟩; have f9 := Aside0.mk (Kd.S_lower (Kd.S_new' (Kd.S_new' ho0 (Kd.S_lt z4_11)) (Kd.R_lt z4_8)) (keep_size (w := w) (g := g) (row := none) z4_0)); replace f5 := Aside0.mk (Kd.S_mono (Kd.S_told (Kd.S_told (Kd.S_old z4_11 hb) (Kd.S_base ho0)) (Kd.R_base ho1)) (fun _ h_ => h_.1)); have g0 := Aside0.mk (Kd.R_lower (Kd.R_new' ho1 (Kd.R_lt z4_8)) (keep_size (w := w) (g := g) (row := none) z4_0)); replace f6 := Aside0.mk (Kd.R_elder' z4_8 (Kd.R_base ho1) hb); replace a8 := Aside0.mk (blk_below (g := b1) (o := .cells #[.slice none 0 0, .slice none 0 0] 26 (0, 0)) z4_2 hb); replace a0 := Aside0.mk (blk_below (g := a9) (o := .cells #[.slice none 0 0, .slice none 0 0] 26 (0, 0)) z4_4 hb); replace HK := Aside0.mk (KeepBut.trans z4_0 (KeepBut.of_below hb g none) (.inl rfl)); replace HB := Aside0.mk (below_step z4_3 hb); replace b2 := Aside0.mk (IsS70.below z4_1 hb); (try clear hb); (try clear hb2); (try clear hk); (try clear hi); (try clear ho0); (try clear ho1); obtain ⟨P0, P1, P2⟩ := Kd.S_slice f5.out; subst P2; obtain ⟨P3, P4, P5⟩ := Kd.R_slice f6.out; subst P5; obtain ⟨P6, P7, P8⟩ := Kd.S_slice f9.out; subst P8; obtain ⟨P9, Q0, Q1⟩ := Kd.R_slice g0.out; subst Q1) | ((with_reducible refine gate_callee (f := 78) rfl ?_); refine gl_ (some 35) Try.func78 #[.agg #[.slice P0 D9.length P1, .slice P3 E0.length P4], .agg #[.slice P6 E1.length P7, .slice P9 E2.length Q0]] ?_; (with_reducible refine (spec_l20Glued.calls f0 _ _ D9 _ _ E0 _ _ E1 _ _ E2 E3 E4 _ (y1 f5.out) (y2 f5.out) (y1 f6.out) (y2 f6.out) (y1 f9.out) (y2 f9.out) (y1 g0.out) (y2 g0.out) A60.out).mono ?_); rintro e w' ⟨b1o, b1p, rfl, ho0, ho1, hb⟩; refine ⟨_, rfl, ?_⟩; have g7 := Aside0.mk (Kd.S_lower (Kd.S_new' (Kd.S_new' (Kd.S_new' (Kd.S_new' ho0 (Kd.S_lt z4_11)) (Kd.R_lt z4_8)) (Kd.S_lt z4_12)) (Kd.R_lt z4_9)) (keep_size (w := w) (g := g) (row := none) z4_0)); replace f5 := Aside0.mk (Kd.S_mono (Kd.S_told (Kd.S_told (Kd.S_old z4_11 hb) (Kd.S_base ho0)) (Kd.R_base ho1)) (fun _ h_ => h_.1)); replace f9 := Aside0.mk (Kd.S_mono (Kd.S_told (Kd.S_told (Kd.S_old z4_12 hb) (Kd.S_base ho0)) (Kd.R_base ho1)) (fun _ h_ => h_.1)); have h1 := Aside0.mk (Kd.R_lower (Kd.R_new' (Kd.R_new' ho1 (Kd.R_lt z4_8)) (Kd.R_lt z4_9)) (keep_size (w := w) (g := g) (row := none) z4_0)); replace f6 := Aside0.mk (Kd.R_elder' z4_8 (Kd.R_base ho1) hb); replace g0 := Aside0.mk (Kd.R_elder' z4_9 (Kd.R_base ho1) hb); replace a8 := Aside0.mk (blk_below (g := b1) (o := .cells #[.slice none 0 0, .slice none 0 0] 26 (0, 0)) z4_2 hb); replace a0 := Aside0.mk (blk_below (g := a9) (o := .cells #[.slice none 0 0, .slice none 0 0] 26 (0, 0)) z4_4 hb); replace HK := Aside0.mk (KeepBut.trans z4_0 (KeepBut.of_below hb g none) (.inl rfl)); replace HB := Aside0.mk (below_step z4_3 hb); replace b2 := Aside0.mk (IsS70.below z4_1 hb); (try clear hb); (try clear hb2); (try clear hk); (try clear hi); (try clear ho0); (try clear ho1)) | ((with_reducible refine gate_callee (f := 77) rfl ?_); refine gl_ (some 36) Try.func77 #[.int .i64 2] ?_; (with_reducible refine (spec_l20Boole.calls f0 2 E5 E6 _ A61.out).mono ?_); rintro e w' ⟨b1q, b1r, rfl, ho0, ho1, hb⟩; refine ⟨_, rfl, ?_⟩; have h6 := Aside0.mk (Kd.S_lower (Kd.S_new' (Kd.S_new' (Kd.S_new' (Kd.S_new' (Kd.S_new' (Kd.S_new' ho0 (Kd.S_lt z4_11)) (Kd.R_lt z4_8)) (Kd.S_lt z4_12)) (Kd.R_lt z4_9)) (Kd.S_lt z4_23)) (Kd.R_lt z4_14)) (keep_size (w := w) (g := g) (row := none) z4_0)); replace f5 := Aside0.mk (Kd.S_mono (Kd.S_told (Kd.S_told (Kd.S_old z4_11 hb) (Kd.S_base ho0)) (Kd.R_base ho1)) (fun _ h_ => h_.1)); replace f9 := Aside0.mk (Kd.S_mono (Kd.S_told (Kd.S_told (Kd.S_old z4_12 hb) (Kd.S_base ho0)) (Kd.R_base ho1)) (fun _ h_ => h_.1)); replace g7 := Aside0.mk (Kd.S_mono (Kd.S_told (Kd.S_told (Kd.S_old z4_23 hb) (Kd.S_base ho0)) (Kd.R_base ho1)) (fun _ h_ => h_.1)); have i5 := Aside0.mk (Kd.R_lower (Kd.R_new' (Kd.R_new' (Kd.R_new' ho1 (Kd.R_lt z4_8)) (Kd.R_lt z4_9)) (Kd.R_lt z4_14)) (keep_size (w := w) (g := g) (row := none) z4_0)); replace f6 := Aside0.mk (Kd.R_elder' z4_8 (Kd.R_base ho1) hb); replace g0 := Aside0.mk (Kd.R_elder' z4_9 (Kd.R_base ho1) hb); replace h1 := Aside0.mk (Kd.R_elder' z4_14 (Kd.R_base ho1) hb); replace a8 := Aside0.mk (blk_below (g := b1) (o := .cells #[.slice none 0 0, .slice none 0 0] 26 (0, 0)) z4_2 hb); replace a0 := Aside0.mk (blk_below (g := a9) (o := .cells #[.slice none 0 0, .slice none 0 0] 26 (0, 0)) z4_4 hb); replace HK := Aside0.mk (KeepBut.trans z4_0 (KeepBut.of_below hb g none) (.inl rfl)); replace HB := Aside0.mk (below_step z4_3 hb); replace b2 := Aside0.mk (IsS70.below z4_1 hb); (try clear hb); (try clear hb2); (try clear hk); (try clear hi); (try clear ho0); (try clear ho1); obtain ⟨Q2, Q3, Q4⟩ := Kd.S_slice g7.out; subst Q4; obtain ⟨Q5, Q6, Q7⟩ := Kd.R_slice h1.out; subst Q7; obtain ⟨Q8, Q9, R0⟩ := Kd.S_slice h6.out; subst R0; obtain ⟨R1, R2, R3⟩ := Kd.R_slice i5.out; subst R3) | ((with_reducible refine gate_callee (f := 78) rfl ?_); refine gl_ (some 37) Try.func78 #[.agg #[.slice Q2 E3.length Q3, .slice Q5 E4.length Q6], .agg #[.slice Q8 E5.length Q9, .slice R1 E6.length R2]] ?_; (with_reducible refine (spec_l20Glued.calls f0 _ _ E3 _ _ E4 _ _ E5 _ _ E6 n6 o9 _ (y1 g7.out) (y2 g7.out) (y1 h1.out) (y2 h1.out) (y1 h6.out) (y2 h6.out) (y1 i5.out) (y2 i5.out) A62.out).mono ?_); rintro e w' ⟨b1s, b1t, rfl, ho0, ho1, hb⟩; refine ⟨_, rfl, ?_⟩; have A0 := Aside0.mk (Kd.S_lower (Kd.S_new' (Kd.S_new' (Kd.S_new' (Kd.S_new' (Kd.S_new' (Kd.S_new' (Kd.S_new' (Kd.S_new' ho0 (Kd.S_lt z4_11)) (Kd.R_lt z4_8)) (Kd.S_lt z4_12)) (Kd.R_lt z4_9)) (Kd.S_lt z4_23)) (Kd.R_lt z4_14)) (Kd.S_lt (by (with_reducible repeat (first | apply Kd.S_alloc | apply Kd.S_drewN | apply Kd.S_drew)); exact h6.out))) (Kd.R_lt z4_31)) (keep_size (w := w) (g := g) (row := none) z4_0)); replace f5 := Aside0.mk (Kd.S_mono (Kd.S_told (Kd.S_told (Kd.S_old z4_11 hb) (Kd.S_base ho0)) (Kd.R_base ho1)) (fun _ h_ => h_.1)); replace f9 := Aside0.mk (Kd.S_mono (Kd.S_told (Kd.S_told (Kd.S_old z4_12 hb) (Kd.S_base ho0)) (Kd.R_base ho1)) (fun _ h_ => h_.1)); replace g7 := Aside0.mk (Kd.S_mono (Kd.S_told (Kd.S_told (Kd.S_old z4_23 hb) (Kd.S_base ho0)) (Kd.R_base ho1)) (fun _ h_ => h_.1)); replace h6 := Aside0.mk (Kd.S_mono (Kd.S_told (Kd.S_told (Kd.S_old (by (with_reducible repeat (first | apply Kd.S_alloc | apply Kd.S_drewN | apply Kd.S_drew)); exact h6.out) hb) (Kd.S_base ho0)) (Kd.R_base ho1)) (fun _ h_ => h_.1)); have A2 := Aside0.mk (Kd.R_lower (Kd.R_new' (Kd.R_new' (Kd.R_new' (Kd.R_new' ho1 (Kd.R_lt z4_8)) (Kd.R_lt z4_9)) (Kd.R_lt z4_14)) (Kd.R_lt z4_31)) (keep_size (w := w) (g := g) (row := none) z4_0)); replace f6 := Aside0.mk (Kd.R_elder' z4_8 (Kd.R_base ho1) hb); replace g0 := Aside0.mk (Kd.R_elder' z4_9 (Kd.R_base ho1) hb); replace h1 := Aside0.mk (Kd.R_elder' z4_14 (Kd.R_base ho1) hb); replace i5 := Aside0.mk (Kd.R_elder' z4_31 (Kd.R_base ho1) hb); replace a8 := Aside0.mk (blk_below (g := b1) (o := .cells #[.slice none 0 0, .slice none 0 0] 26 (0, 0)) z4_2 hb); replace a0 := Aside0.mk (blk_below (g := a9) (o := .cells #[.slice none 0 0, .slice none 0 0] 26 (0, 0)) z4_4 hb); replace HK := Aside0.mk (KeepBut.trans z4_0 (KeepBut.of_below hb g none) (.inl rfl)); replace HB := Aside0.mk (below_step z4_3 hb); replace b2 := Aside0.mk (IsS70.below z4_1 hb); (try clear hb); (try clear hb2); (try clear hk); (try clear hi); (try clear ho0); (try clear ho1); obtain ⟨x5, x6, R4⟩ := Kd.S_slice A0.out; subst R4; have b0n := b6.out; have b0o := b4.out; have b0p := b3.out; have b0q := a6.out; have b8 := cz20 a0.out; have b9 := cz21 a0.out; have d0 := blk_frozen a0.out 0; have d1 := blk_frozen a0.out 1; obtain ⟨E7, E8, R5⟩ := Kd.R_slice A2.out; subst R5))
       go_meet
       case rel => exact ⟨_, (f7), (n6), (o9), (.slice x5 n6.length x6), (.slice E7 o9.length E8), H', ⟨z4_21⟩, ⟨by (with_reducible repeat (first | apply Kd.S_alloc | apply Kd.S_drewN | apply Kd.S_drew)); exact Kd.S_mono (Kd.S_far (p := ⟨a9, 1, none⟩) (Kd.S_far (p := ⟨a9, 0, none⟩) (Kd.S_types A0.out a0.out z4_27) (fun _ hk => hk.2) (.slice x5 n6.length x6)) (fun _ hk => hk.2) (.slice E7 o9.length E8)) (fun _ hk => hk.1.1.1.1.1.1.1.1.1)⟩, ⟨Kd.Q_of_R (by (with_reducible repeat (first | apply Kd.R_alloc | apply Kd.R_drewN | apply Kd.R_drew)); exact Kd.R_mono (Kd.R_far (p := ⟨a9, 1, none⟩) (Kd.R_far (p := ⟨a9, 0, none⟩) (Kd.R_types A2.out a0.out z4_27) (fun _ hk => hk.2) (.slice x5 n6.length x6)) (fun _ hk => hk.2) (.slice E7 o9.length E8)) (fun _ hk => trivial))⟩, ⟨z4_5⟩, ⟨by (with_reducible repeat (first | refine blk_drewN ?_ _ | refine blk_drew ?_ | refine blk_alloc ?_ _)); refine blk_put (cs := #[.slice x5 n6.length x6, .slice none 0 0]) ?_ 1 _ rfl; (with_reducible repeat (first | refine blk_drewN ?_ _ | refine blk_drew ?_ | refine blk_alloc ?_ _)); refine blk_put (cs := #[.slice none 0 0, .slice none 0 0]) ?_ 0 _ rfl; (with_reducible repeat (first | refine blk_drewN ?_ _ | refine blk_drew ?_ | refine blk_alloc ?_ _)); exact a0.out⟩, ⟨z4_1⟩, ⟨z4_0⟩, ⟨z4_3⟩⟩
      rw [if_neg o8] at H
      have i9 := bv_ o8
      have j3 := bw_ o8
      by_cases q0 : f2 = 6
      ·
       rw [if_pos q0] at H
       have j4 := bt_ q0
       have j6 := bu_ q0
       clear q0
       obtain ⟨⟨n7, q2⟩, A82, H⟩ := bd_ H
       try dsimp only at H
       have H' := Aside0.mk H
       clear H
       go_wp2_with (first | ((with_reducible refine gate_callee (f := 79) rfl ?_); refine gl_ (some 40) Try.func79 #[] ?_; (with_reducible refine (spec_l20Six.calls  n7 q2 _ A82.out).mono ?_); rintro e w' ⟨b1u, b1v, rfl, ho0, ho1, hb⟩; refine ⟨_, rfl, ?_⟩; have A4 := Aside0.mk (Kd.S_lower ho0 (keep_size (w := w) (g := g) (row := none) z4_0)); have A5 := Aside0.mk (Kd.R_lower ho1 (keep_size (w := w) (g := g) (row := none) z4_0)); replace a8 := Aside0.mk (blk_below (g := b1) (o := .cells #[.slice none 0 0, .slice none 0 0] 26 (0, 0)) z4_2 hb); replace a0 := Aside0.mk (blk_below (g := a9) (o := .cells #[.slice none 0 0, .slice none 0 0] 26 (0, 0)) z4_4 hb); replace HK := Aside0.mk (KeepBut.trans z4_0 (KeepBut.of_below hb g none) (.inl rfl)); replace HB := Aside0.mk (below_step z4_3 hb); replace b2 := Aside0.mk (IsS70.below z4_1 hb); (try clear hb); (try clear hb2); (try clear hk); (try clear hi); (try clear ho0); (try clear ho1); obtain ⟨x7, x8, R6⟩ := Kd.S_slice A4.out; subst R6; have b0r := b6.out; have b0s := b4.out; have b0t := b3.out; have b0u := a6.out; have b8 := cz20 a0.out; have b9 := cz21 a0.out; have d0 := blk_frozen a0.out 0; have d1 := blk_frozen a0.out 1; obtain ⟨E9, F0, R7⟩ := Kd.R_slice A5.out; subst R7))
       go_meet
       case rel => exact ⟨_, (f7), (n7), (q2), (.slice x7 n7.length x8), (.slice E9 q2.length F0), H', ⟨z4_21⟩, ⟨by (with_reducible repeat (first | apply Kd.S_alloc | apply Kd.S_drewN | apply Kd.S_drew)); exact Kd.S_mono (Kd.S_far (p := ⟨a9, 1, none⟩) (Kd.S_far (p := ⟨a9, 0, none⟩) (Kd.S_types A4.out a0.out z4_27) (fun _ hk => hk.2) (.slice x7 n7.length x8)) (fun _ hk => hk.2) (.slice E9 q2.length F0)) (fun _ hk => hk.1)⟩, ⟨Kd.Q_of_R (by (with_reducible repeat (first | apply Kd.R_alloc | apply Kd.R_drewN | apply Kd.R_drew)); exact Kd.R_mono (Kd.R_far (p := ⟨a9, 1, none⟩) (Kd.R_far (p := ⟨a9, 0, none⟩) (Kd.R_types A5.out a0.out z4_27) (fun _ hk => hk.2) (.slice x7 n7.length x8)) (fun _ hk => hk.2) (.slice E9 q2.length F0)) (fun _ hk => trivial))⟩, ⟨z4_5⟩, ⟨by (with_reducible repeat (first | refine blk_drewN ?_ _ | refine blk_drew ?_ | refine blk_alloc ?_ _)); refine blk_put (cs := #[.slice x7 n7.length x8, .slice none 0 0]) ?_ 1 _ rfl; (with_reducible repeat (first | refine blk_drewN ?_ _ | refine blk_drew ?_ | refine blk_alloc ?_ _)); refine blk_put (cs := #[.slice none 0 0, .slice none 0 0]) ?_ 0 _ rfl; (with_reducible repeat (first | refine blk_drewN ?_ _ | refine blk_drew ?_ | refine blk_alloc ?_ _)); exact a0.out⟩, ⟨z4_1⟩, ⟨z4_0⟩, ⟨z4_3⟩⟩
      rw [if_neg q0] at H
      have j4 := bv_ q0
      have j6 := bw_ q0
      by_cases q4 : f2 = 7
      ·
       rw [if_pos q4] at H
       have j7 := bt_ q4
       have j8 := bu_ q4
       clear q4
       obtain ⟨⟨F1, F2⟩, A90, H⟩ := bd_ H
       try dsimp only at H
       obtain ⟨⟨F3, F4⟩, A91, H⟩ := bd_ H
       try dsimp only at H
       obtain ⟨⟨n8, q5⟩, A92, H⟩ := bd_ H
       try dsimp only at H
       have H' := Aside0.mk H
       clear H
       go_wp2_with (first | ((with_reducible refine gate_callee (f := 79) rfl ?_); refine gl_ (some 43) Try.func79 #[] ?_; (with_reducible refine (spec_l20Six.calls  F1 F2 _ A90.out).mono ?_); rintro e w' ⟨b1w, b1x, rfl, ho0, ho1, hb⟩; refine ⟨_, rfl, ?_⟩; have g8 := Aside0.mk (Kd.S_lower ho0 (keep_size (w := w) (g := g) (row := none) z4_0)); have h2 := Aside0.mk (Kd.R_lower ho1 (keep_size (w := w) (g := g) (row := none) z4_0)); replace a8 := Aside0.mk (blk_below (g := b1) (o := .cells #[.slice none 0 0, .slice none 0 0] 26 (0, 0)) z4_2 hb); replace a0 := Aside0.mk (blk_below (g := a9) (o := .cells #[.slice none 0 0, .slice none 0 0] 26 (0, 0)) z4_4 hb); replace HK := Aside0.mk (KeepBut.trans z4_0 (KeepBut.of_below hb g none) (.inl rfl)); replace HB := Aside0.mk (below_step z4_3 hb); replace b2 := Aside0.mk (IsS70.below z4_1 hb); (try clear hb); (try clear hb2); (try clear hk); (try clear hi); (try clear ho0); (try clear ho1)) | ((with_reducible refine gate_callee (f := 77) rfl ?_); refine gl_ (some 44) Try.func77 #[.int .i64 2] ?_; (with_reducible refine (spec_l20Boole.calls f0 2 F3 F4 _ A91.out).mono ?_); rintro e w' ⟨b1y, b1z, rfl, ho0, ho1, hb⟩; refine ⟨_, rfl, ?_⟩; have h7 := Aside0.mk (Kd.S_lower (Kd.S_new' (Kd.S_new' ho0 (Kd.S_lt z4_22)) (Kd.R_lt z4_13)) (keep_size (w := w) (g := g) (row := none) z4_0)); replace g8 := Aside0.mk (Kd.S_mono (Kd.S_told (Kd.S_told (Kd.S_old z4_22 hb) (Kd.S_base ho0)) (Kd.R_base ho1)) (fun _ h_ => h_.1)); have i6 := Aside0.mk (Kd.R_lower (Kd.R_new' ho1 (Kd.R_lt z4_13)) (keep_size (w := w) (g := g) (row := none) z4_0)); replace h2 := Aside0.mk (Kd.R_elder' z4_13 (Kd.R_base ho1) hb); replace a8 := Aside0.mk (blk_below (g := b1) (o := .cells #[.slice none 0 0, .slice none 0 0] 26 (0, 0)) z4_2 hb); replace a0 := Aside0.mk (blk_below (g := a9) (o := .cells #[.slice none 0 0, .slice none 0 0] 26 (0, 0)) z4_4 hb); replace HK := Aside0.mk (KeepBut.trans z4_0 (KeepBut.of_below hb g none) (.inl rfl)); replace HB := Aside0.mk (below_step z4_3 hb); replace b2 := Aside0.mk (IsS70.below z4_1 hb); (try clear hb); (try clear hb2); (try clear hk); (try clear hi); (try clear ho0); (try clear ho1); obtain ⟨R8, R9, S0⟩ := Kd.S_slice g8.out; subst S0; obtain ⟨S1, S2, S3⟩ := Kd.R_slice h2.out; subst S3; obtain ⟨S4, S5, S6⟩ := Kd.S_slice h7.out; subst S6; obtain ⟨S7, S8, S9⟩ := Kd.R_slice i6.out; subst S9) | ((with_reducible refine gate_callee (f := 78) rfl ?_); refine gl_ (some 45) Try.func78 #[.agg #[.slice R8 F1.length R9, .slice S1 F2.length S2], .agg #[.slice S4 F3.length S5, .slice S7 F4.length S8]] ?_; (with_reducible refine (spec_l20Glued.calls f0 _ _ F1 _ _ F2 _ _ F3 _ _ F4 n8 q5 _ (y1 g8.out) (y2 g8.out) (y1 h2.out) (y2 h2.out) (y1 h7.out) (y2 h7.out) (y1 i6.out) (y2 i6.out) A92.out).mono ?_); rintro e w' ⟨b20, b21, rfl, ho0, ho1, hb⟩; refine ⟨_, rfl, ?_⟩; have A6 := Aside0.mk (Kd.S_lower (Kd.S_new' (Kd.S_new' (Kd.S_new' (Kd.S_new' ho0 (Kd.S_lt z4_22)) (Kd.R_lt z4_13)) (Kd.S_lt (by (with_reducible repeat (first | apply Kd.S_alloc | apply Kd.S_drewN | apply Kd.S_drew)); exact h7.out))) (Kd.R_lt z4_30)) (keep_size (w := w) (g := g) (row := none) z4_0)); replace g8 := Aside0.mk (Kd.S_mono (Kd.S_told (Kd.S_told (Kd.S_old z4_22 hb) (Kd.S_base ho0)) (Kd.R_base ho1)) (fun _ h_ => h_.1)); replace h7 := Aside0.mk (Kd.S_mono (Kd.S_told (Kd.S_told (Kd.S_old (by (with_reducible repeat (first | apply Kd.S_alloc | apply Kd.S_drewN | apply Kd.S_drew)); exact h7.out) hb) (Kd.S_base ho0)) (Kd.R_base ho1)) (fun _ h_ => h_.1)); have A7 := Aside0.mk (Kd.R_lower (Kd.R_new' (Kd.R_new' ho1 (Kd.R_lt z4_13)) (Kd.R_lt z4_30)) (keep_size (w := w) (g := g) (row := none) z4_0)); replace h2 := Aside0.mk (Kd.R_elder' z4_13 (Kd.R_base ho1) hb); replace i6 := Aside0.mk (Kd.R_elder' z4_30 (Kd.R_base ho1) hb); replace a8 := Aside0.mk (blk_below (g := b1) (o := .cells #[.slice none 0 0, .slice none 0 0] 26 (0, 0)) z4_2 hb); replace a0 := Aside0.mk (blk_below (g := a9) (o := .cells #[.slice none 0 0, .slice none 0 0] 26 (0, 0)) z4_4 hb); replace HK := Aside0.mk (KeepBut.trans z4_0 (KeepBut.of_below hb g none) (.inl rfl)); replace HB := Aside0.mk (below_step z4_3 hb); replace b2 := Aside0.mk (IsS70.below z4_1 hb); (try clear hb); (try clear hb2); (try clear hk); (try clear hi); (try clear ho0); (try clear ho1); obtain ⟨l9, m0, J0⟩ := Kd.S_slice A6.out; subst J0; have T0 := b6.out; have T1 := b4.out; have T2 := b3.out; have T3 := a6.out; have b8 := cz20 a0.out; have b9 := cz21 a0.out; have d0 := blk_frozen a0.out 0; have d1 := blk_frozen a0.out 1; obtain ⟨q6, q7, J1⟩ := Kd.R_slice A7.out; subst J1))
       go_meet
       case rel => exact ⟨_, (f7), (n8), (q5), (.slice l9 n8.length m0), (.slice q6 q5.length q7), H', ⟨z4_21⟩, ⟨by (with_reducible repeat (first | apply Kd.S_alloc | apply Kd.S_drewN | apply Kd.S_drew)); exact Kd.S_mono (Kd.S_far (p := ⟨a9, 1, none⟩) (Kd.S_far (p := ⟨a9, 0, none⟩) (Kd.S_types A6.out a0.out z4_27) (fun _ hk => hk.2) (.slice l9 n8.length m0)) (fun _ hk => hk.2) (.slice q6 q5.length q7)) (fun _ hk => hk.1.1.1.1.1)⟩, ⟨Kd.Q_of_R (by (with_reducible repeat (first | apply Kd.R_alloc | apply Kd.R_drewN | apply Kd.R_drew)); exact Kd.R_mono (Kd.R_far (p := ⟨a9, 1, none⟩) (Kd.R_far (p := ⟨a9, 0, none⟩) (Kd.R_types A7.out a0.out z4_27) (fun _ hk => hk.2) (.slice l9 n8.length m0)) (fun _ hk => hk.2) (.slice q6 q5.length q7)) (fun _ hk => trivial))⟩, ⟨z4_5⟩, ⟨by (with_reducible repeat (first | refine blk_drewN ?_ _ | refine blk_drew ?_ | refine blk_alloc ?_ _)); refine blk_put (cs := #[.slice l9 n8.length m0, .slice none 0 0]) ?_ 1 _ rfl; (with_reducible repeat (first | refine blk_drewN ?_ _ | refine blk_drew ?_ | refine blk_alloc ?_ _)); refine blk_put (cs := #[.slice none 0 0, .slice none 0 0]) ?_ 0 _ rfl; (with_reducible repeat (first | refine blk_drewN ?_ _ | refine blk_drew ?_ | refine blk_alloc ?_ _)); exact a0.out⟩, ⟨z4_1⟩, ⟨z4_0⟩, ⟨z4_3⟩⟩
      rw [if_neg q4] at H
      have j7 := bv_ q4
      have j8 := bw_ q4
      obtain ⟨⟨n9, q8⟩, T4, H⟩ := bd_ H
      try dsimp only at H
      have H' := Aside0.mk H
      clear H
      go_wp2_with (first | ((with_reducible refine gate_callee (f := 80) rfl ?_); refine gl_ (some 13) Try.func80 #[] ?_; (with_reducible refine (spec_l20Pasted.calls f0  n9 q8 _ T4.out).mono ?_); rintro e w' ⟨b22, b23, rfl, ho0, ho1, hb⟩; refine ⟨_, rfl, ?_⟩; have A8 := Aside0.mk (Kd.S_lower ho0 (keep_size (w := w) (g := g) (row := none) z4_0)); have A9 := Aside0.mk (Kd.R_lower ho1 (keep_size (w := w) (g := g) (row := none) z4_0)); replace a8 := Aside0.mk (blk_below (g := b1) (o := .cells #[.slice none 0 0, .slice none 0 0] 26 (0, 0)) z4_2 hb); replace a0 := Aside0.mk (blk_below (g := a9) (o := .cells #[.slice none 0 0, .slice none 0 0] 26 (0, 0)) z4_4 hb); replace HK := Aside0.mk (KeepBut.trans z4_0 (KeepBut.of_below hb g none) (.inl rfl)); replace HB := Aside0.mk (below_step z4_3 hb); replace b2 := Aside0.mk (IsS70.below z4_1 hb); (try clear hb); (try clear hb2); (try clear hk); (try clear hi); (try clear ho0); (try clear ho1); obtain ⟨m1, m2, J2⟩ := Kd.S_slice A8.out; subst J2; have T5 := b6.out; have T6 := b4.out; have T7 := b3.out; have T8 := a6.out; have b8 := cz20 a0.out; have b9 := cz21 a0.out; have d0 := blk_frozen a0.out 0; have d1 := blk_frozen a0.out 1; obtain ⟨q9, s0, J3⟩ := Kd.R_slice A9.out; subst J3))
      go_meet
      case rel => exact ⟨_, (f7), (n9), (q8), (.slice m1 n9.length m2), (.slice q9 q8.length s0), H', ⟨z4_21⟩, ⟨by (with_reducible repeat (first | apply Kd.S_alloc | apply Kd.S_drewN | apply Kd.S_drew)); exact Kd.S_mono (Kd.S_far (p := ⟨a9, 1, none⟩) (Kd.S_far (p := ⟨a9, 0, none⟩) (Kd.S_types A8.out a0.out z4_27) (fun _ hk => hk.2) (.slice m1 n9.length m2)) (fun _ hk => hk.2) (.slice q9 q8.length s0)) (fun _ hk => hk.1)⟩, ⟨Kd.Q_of_R (by (with_reducible repeat (first | apply Kd.R_alloc | apply Kd.R_drewN | apply Kd.R_drew)); exact Kd.R_mono (Kd.R_far (p := ⟨a9, 1, none⟩) (Kd.R_far (p := ⟨a9, 0, none⟩) (Kd.R_types A9.out a0.out z4_27) (fun _ hk => hk.2) (.slice m1 n9.length m2)) (fun _ hk => hk.2) (.slice q9 q8.length s0)) (fun _ hk => trivial))⟩, ⟨z4_5⟩, ⟨by (with_reducible repeat (first | refine blk_drewN ?_ _ | refine blk_drew ?_ | refine blk_alloc ?_ _)); refine blk_put (cs := #[.slice m1 n9.length m2, .slice none 0 0]) ?_ 1 _ rfl; (with_reducible repeat (first | refine blk_drewN ?_ _ | refine blk_drew ?_ | refine blk_alloc ?_ _)); refine blk_put (cs := #[.slice none 0 0, .slice none 0 0]) ?_ 0 _ rfl; (with_reducible repeat (first | refine blk_drewN ?_ _ | refine blk_drew ?_ | refine blk_alloc ?_ _)); exact a0.out⟩, ⟨z4_1⟩, ⟨z4_0⟩, ⟨z4_3⟩⟩
 case rest =>
  clear L9
  try clear c1
  try clear c2
  try clear p2
  try clear c3
  try clear c4
  try clear c5
  try clear c7
  try clear c8
  try clear T9
  try clear n2
  try clear e5
  try clear g3
  try clear v5
  try clear L5
  try clear L6
  try clear o3
  try clear e8
  try clear h3
  try clear z5
  try clear U0
  try clear U1
  try clear o6
  try clear i7
  try clear i8
  try clear U2
  try clear U3
  try clear o8
  try clear i9
  try clear j3
  try clear U4
  try clear U5
  try clear U6
  try clear U7
  try clear U8
  try clear q0
  try clear j4
  try clear j6
  try clear U9
  try clear V0
  try clear q4
  try clear j7
  try clear j8
  try clear F5
  try clear F6
  try clear F7
  try clear F8
  try clear b8
  try clear b9
  try clear d0
  try clear d1
  obtain ⟨kq, e9, b5, e1, u241000, u241001, HA, I8, a4, a3, a8, a0, b2, HK, HB⟩ := hcut
  cases kq with
  | zero => exact absurd HA.out (by simp [spec_l20Logic.j2])
  | succ V1 =>
   have H := HA.out
   clear HA
   simp only [spec_l20Logic.j2] at H
   obtain ⟨y347, hy347⟩ : ∃ y_ : List Int, y_ = (([] : List Int)) := ⟨_, rfl⟩
   replace H : (spec_l20Logic.l0 V1 a1 y347 0 s0_0 e9 b5 e1) = some (r1, r2, r3) := by first | (rw [hy347]; with_reducible exact H) | (have H2_ := (Option.bind_some _ _).symm.trans H; rw [hy347]; with_reducible exact H2_) | (have H2_ := (Option.bind_some _ _).symm.trans H; with_reducible exact H2_) | with_reducible exact H | (rw [hy347]; exact H) | exact H
   have Ny347 := Aside0.mk hy347
   clear hy347
   have H' := Aside0.mk H
   clear H
   go_wp2_with (first | ((with_reducible refine gate_dst (N := 46) rfl ?_); refine Kd.R_lit (Kd.int .i64) _ 3 ?hg (N := 46) ?hd (xs := ([] : List Int)) (inner := []) (ok := fun _ => True) (okp := fun _ => True) ?hr ?hp (fun _ hk => hk) trivial (Below.refl _ _) (Nat.le_refl _) (by simp) ?_; (case hd => rfl); (case hg => rfl); (case hr => first | (go_simp; done) | (go_simp; rfl)); (case hp => exact (Reps.none _ _)); intro b24 b25 ho113 hb hg_ hnew_; clear hg_ hnew_; (first | rw [← Ny347.out] at ho113 | (simp only [Int.reduceToNat] at ho113; rw [← Ny347.out] at ho113)); replace a4 := Aside0.mk (Kd.S_elder' z4_7 (Kd.R_base ho113) hb); have J4 := Aside0.mk (Kd.R_lower (Kd.R_new' ho113 (Kd.Q_lt z4_6)) (keep_size (w := w) (g := g) (row := none) z4_0)); replace a3 := Aside0.mk (Kd.Q_elder' z4_6 (Kd.R_base ho113) hb); replace a8 := Aside0.mk (blk_below (g := b1) (o := .cells #[.slice none 0 0, .slice none 0 0] 26 (0, 0)) z4_2 hb); replace a0 := Aside0.mk (blk_below (g := a9) (o := .cells #[u241000, u241001] 26 (0, 0)) z4_4 hb); replace HK := Aside0.mk (KeepBut.trans z4_0 (KeepBut.of_below hb g none) (.inl rfl)); replace HB := Aside0.mk (below_step z4_3 hb); replace b2 := Aside0.mk (IsS70.below z4_1 hb); clear hb ho113))
   go_loopg [6, 7] V1 (fun kq v6 v7 w' => ∃ (j9 : List Int) (d9 : Int) (d6 : Int) (b0 : List Int) (u241001 : Value), v7 = .int .i64 d9 ∧ Aside0 (spec_l20Logic.l0 kq a1 j9 d9 s0_0 d6 b5 b0 = some (r1, r2, r3)) ∧ Aside0 (kq ≤ V1) ∧ Aside0 (Kd.R (Kd.int .i64) 3 w' w.heap.size (fun k_ => some k_ ≠ (u241001 : Value).ownBlock) v6 j9) ∧ Aside0 (Kd.S (Kd.slice 3 (Kd.int .i64)) 24 w' w.heap.size (fun k_ => some k_ ≠ (v6 : Value).ownBlock ∧ some k_ ≠ (u241001 : Value).ownBlock) u241000 b5) ∧ Aside0 (Kd.Q (Kd.int .i64) 3 w' w.heap.size (fun k_ => some k_ ≠ (v6 : Value).ownBlock) u241001 b0) ∧ Aside0 (w'.heap[b1]? = some (.cells #[(.slice none 0 0), (.slice none 0 0)] 26 (0, 0))) ∧ Aside0 (w'.heap[a9]? = some (.cells #[u241000, u241001] 26 (0, 0))) ∧ Aside0 (IsS70 w0 w' g s0_0 d6) ∧ Aside0 (KeepBut w w' g none) ∧ Aside0 (Below w0.heap.size w0 w'))
   case atStart => exact ⟨(y347), (0), (e9), (e1), (u241001), z4_29, H', ⟨Nat.le_refl _⟩, ⟨by (with_reducible repeat (first | apply Kd.R_alloc | apply Kd.R_drewN | apply Kd.R_drew)); exact Kd.R_mono J4.out (fun _ hk => hk.2)⟩, ⟨z4_18⟩, ⟨z4_19⟩, ⟨z4_2⟩, ⟨z4_4⟩, ⟨z4_1⟩, ⟨z4_0⟩, ⟨z4_3⟩⟩
   case round =>
    clear H'
    try clear c1
    try clear c2
    try clear p2
    try clear c3
    try clear c4
    try clear c5
    try clear c7
    try clear c8
    try clear T9
    try clear n2
    try clear e5
    try clear g3
    try clear v5
    try clear L5
    try clear L6
    try clear o3
    try clear e8
    try clear h3
    try clear z5
    try clear U0
    try clear U1
    try clear o6
    try clear i7
    try clear i8
    try clear U2
    try clear U3
    try clear o8
    try clear i9
    try clear j3
    try clear U4
    try clear U5
    try clear U6
    try clear U7
    try clear U8
    try clear q0
    try clear j4
    try clear j6
    try clear U9
    try clear V0
    try clear q4
    try clear j7
    try clear j8
    try clear F5
    try clear F6
    try clear F7
    try clear F8
    try clear b8
    try clear b9
    try clear d0
    try clear d1
    obtain ⟨j9, d9, d6, b0, u241001, rfl, HA, HK2, d4, a4, a3, a8, a0, b2, HK, HB⟩ := hrel
    cases gk with
    | zero => exact absurd HA.out (by simp [spec_l20Logic.l0])
    | succ k2 =>
     have H := HA.out
     clear HA
     simp only [spec_l20Logic.l0] at H
     by_cases k0 : d9 < (b0.length : Int)
     ·
      rw [if_pos k0] at H
      have l3 : decide (d9 < (b0.length : Int)) = true := decide_eq_true k0
      clear k0
      obtain ⟨⟨e3, k1⟩, V2, H⟩ := bd_ H
      try dsimp only at H
      by_cases o0 : j9.length < 17592186044416
      ·
       rw [if_pos o0] at H
       have LMc116 := Aside0.mk o0
       clear o0
       obtain ⟨y352, hy352⟩ : ∃ y_ : List Int, y_ = (j9 ++ [d9]) := ⟨_, rfl⟩
       replace H : (spec_l20Logic.l1 k2 a1 y352 d9 e3 d9 s0_0 k1 b5 b0) = some (r1, r2, r3) := by first | (rw [hy352]; with_reducible exact H) | (have H2_ := (Option.bind_some _ _).symm.trans H; rw [hy352]; with_reducible exact H2_) | (have H2_ := (Option.bind_some _ _).symm.trans H; with_reducible exact H2_) | with_reducible exact H | (rw [hy352]; exact H) | exact H
       have Ny352 := Aside0.mk hy352
       clear hy352
       have H' := Aside0.mk H
       clear H
       have V3 := b6.out
       have V4 := b4.out
       have V5 := b3.out
       have V6 := a6.out
       have b8 := cz20 a0.out
       have b9 := cz21 a0.out
       have d0 := blk_frozen a0.out 0
       have d1 := blk_frozen a0.out 1
       obtain ⟨d7, d8, J5, _⟩ := Kd.Q_slice a3.out
       subst J5
       go_wp2_with (first | ((with_reducible refine gate_callee (f := 76) rfl ?_); refine gl_ (some 57) Try.func76 #[.pointer (some ⟨g, 0, none⟩), .int .i64 (wrap64 (d9 + 1))] ?_; (with_reducible refine (spec_l20Rd_pick.calls k2 g s0_0 d6 (wrap64 (d9 + 1)) e3 k1 w0 _ ?side1 ?side2 V2.out).mono ?_); (case side1 => repeat (first | (with_reducible first | exact b2.out | apply IsS70.alloc | apply IsS70.drewN | apply IsS70.drew | apply IsS70.set_1 | refine IsS70.far ?_ a7.out _ | refine IsS70.far ?_ a6.out _) | exact b2.out)); (case side2 => repeat (first | (with_reducible first | exact HB.out | apply below_alloc | apply pw_below_drewN | apply below_drew1 | refine below_set ?_ (IsS70.ge b2.out) | refine below_set ?_ d2.out | refine below_set ?_ d3.out) | exact HB.out)); rintro e w' ⟨rfl, hi, hb, hk⟩; refine ⟨_, rfl, ?_⟩; replace d4 := Aside0.mk (Kd.R_mono (Kd.R_keep (IsS70.apart (show IsS70 w0 _ g s0_0 d6 from by repeat (first | (with_reducible first | exact b2.out | apply IsS70.alloc | apply IsS70.drewN | apply IsS70.drew | apply IsS70.set_1 | refine IsS70.far ?_ a7.out _ | refine IsS70.far ?_ a6.out _) | exact b2.out)) z4_17 z4_27) hk (fun _ h => h.2)) (fun _ h => h.1)); replace a4 := Aside0.mk (Kd.S_mono (Kd.S_keep (IsS70.apartS (show IsS70 w0 _ g s0_0 d6 from by repeat (first | (with_reducible first | exact b2.out | apply IsS70.alloc | apply IsS70.drewN | apply IsS70.drew | apply IsS70.set_1 | refine IsS70.far ?_ a7.out _ | refine IsS70.far ?_ a6.out _) | exact b2.out)) z4_7 z4_27) hk (fun _ h => h.2)) (fun _ h => h.1)); replace a3 := Aside0.mk (Kd.Q_mono (Kd.Q_keep (IsS70.apartQ (show IsS70 w0 _ g s0_0 d6 from by repeat (first | (with_reducible first | exact b2.out | apply IsS70.alloc | apply IsS70.drewN | apply IsS70.drew | apply IsS70.set_1 | refine IsS70.far ?_ a7.out _ | refine IsS70.far ?_ a6.out _) | exact b2.out)) z4_6 z4_27) hk (fun _ h => h.2)) (fun _ h => h.1)); replace a8 := Aside0.mk (KeepBut.blk hk (g' := b1) (o := .cells #[.slice none 0 0, .slice none 0 0] 26 (0, 0)) z4_2 b7.out (by simp)); replace a0 := Aside0.mk (KeepBut.blk hk (g' := a9) (o := .cells #[u241000, .slice d7 b0.length d8] 26 (0, 0)) z4_4 b3.out (by simp)); replace HK := Aside0.mk (KeepBut.trans z4_0 hk (.inl rfl)); replace HB := Aside0.mk (hb); replace b2 := Aside0.mk (hi); (try clear hb); (try clear hb2); (try clear hk); (try clear hi)) | ((with_reducible refine gate_builtin (b := .append) (xs := #[.tmp 58, .tmp 60]) rfl ?_); at_builtin; refine Kd.R_append (Kd.int .i64) w.heap.size rfl (.tmp 58) (.tmp 60) 24 3 (.int .i64 0) 8 rfl Try.underlying24 info3 rfl z4_27 (by omega) u6 j9 d9 [.int .i64 d9] (fun k_ => some k_ ≠ (.slice d7 b0.length d8 : Value).ownBlock) (fun _ => False) rfl rfl ?aP (fun _ hk => hk.elim) ?aF ?aO (Below.refl _ _) ?aS ?aL ?_; (case aP => exact rfl); (case aF => exact (fun k_ hk => Kd.fresh' (Kd.Q_lt z4_6) k_ hk)); (case aO => exact z4_17); (case aS => exact (keep_size (w := w) (g := g) (row := none) z4_0)); (case aL => have := LMc116.out; omega); intro F9 b26 ho hb hg hat; rw [← Ny352.out] at ho; replace a4 := Aside0.mk (Kd.S_after (ok := (fun k_ => some k_ ≠ (.slice d7 b0.length d8 : Value).ownBlock)) z4_18 hg hat); replace a3 := Aside0.mk (Kd.Q_after (ok := (fun _ => True)) z4_28 hg hat); replace a8 := Aside0.mk (blk_grown (g := b1) (o := .cells #[.slice none 0 0, .slice none 0 0] 26 (0, 0)) z4_2 hg (Kd.R_ne d4.out a8.out z4_27)); replace a0 := Aside0.mk (blk_grown (g := a9) (o := .cells #[u241000, .slice d7 b0.length d8] 26 (0, 0)) z4_4 hg (Kd.R_ne d4.out a0.out z4_27)); replace HB := Aside0.mk (below_weaken z4_3 HL.out hb); replace b2 := Aside0.mk (IsS70.grown z4_1 hg (IsS70.own_ne b2.out d4.out z4_27)); replace HK := Aside0.mk (KeepBut.trans z4_0 (KeepBut.of_grown hg g) (Kd.R_base2 d4.out)); have J6 := Aside0.mk (ho); clear d4; clear ho hb hg hat))
       go_loopg [9] k2 (fun kq v9 w' => ∃ (d5 : List Int) (e0 : Int), v9 = .int .i64 e0 ∧ Aside0 (spec_l20Logic.l1 kq a1 d5 d9 e3 e0 s0_0 k1 b5 b0 = some (r1, r2, r3)) ∧ Aside0 (kq ≤ k2) ∧ Aside0 (Kd.R (Kd.int .i64) 3 w' w.heap.size (fun k_ => some k_ ≠ ((.slice d7 b0.length d8) : Value).ownBlock) F9 d5) ∧ Aside0 (Kd.S (Kd.slice 3 (Kd.int .i64)) 24 w' w.heap.size (fun k_ => some k_ ≠ (F9 : Value).ownBlock ∧ some k_ ≠ ((.slice d7 b0.length d8) : Value).ownBlock) u241000 b5) ∧ Aside0 (Kd.Q (Kd.int .i64) 3 w' w.heap.size (fun k_ => some k_ ≠ (F9 : Value).ownBlock) (.slice d7 b0.length d8) b0) ∧ Aside0 (w'.heap[b1]? = some (.cells #[(.slice none 0 0), (.slice none 0 0)] 26 (0, 0))) ∧ Aside0 (w'.heap[a9]? = some (.cells #[u241000, (.slice d7 b0.length d8)] 26 (0, 0))) ∧ Aside0 (IsS70 w0 w' g s0_0 k1) ∧ Aside0 (KeepBut w w' g none) ∧ Aside0 (Below w0.heap.size w0 w'))
       case atStart => exact ⟨(y352), (d9), z4_29, H', ⟨Nat.le_refl _⟩, ⟨by (with_reducible repeat (first | apply Kd.R_alloc | apply Kd.R_drewN | apply Kd.R_drew)); exact J6.out⟩, ⟨z4_18⟩, ⟨z4_19⟩, ⟨z4_2⟩, ⟨z4_4⟩, ⟨z4_1⟩, ⟨z4_0⟩, ⟨z4_3⟩⟩
       case round =>
        clear H'
        try clear c1
        try clear c2
        try clear p2
        try clear c3
        try clear c4
        try clear c5
        try clear p6
        try clear c7
        try clear c8
        try clear T9
        try clear c11
        try clear n2
        try clear e5
        try clear g3
        try clear v5
        try clear L5
        try clear L6
        try clear o3
        try clear e8
        try clear h3
        try clear z5
        try clear U0
        try clear U1
        try clear o6
        try clear i7
        try clear i8
        try clear U2
        try clear U3
        try clear o8
        try clear i9
        try clear j3
        try clear p64
        try clear U4
        try clear U5
        try clear U6
        try clear U7
        try clear U8
        try clear q0
        try clear j4
        try clear j6
        try clear U9
        try clear V0
        try clear q4
        try clear j7
        try clear j8
        try clear F5
        try clear F6
        try clear F7
        try clear F8
        try clear k0
        try clear l3
        try clear o0
        try clear V7
        try clear V8
        try clear b8
        try clear b9
        try clear d0
        try clear d1
        obtain ⟨d5, e0, rfl, HA, HK3, d4, a4, a3, a8, a0, b2, HK, HB⟩ := hrel
        cases gk with
        | zero => exact absurd HA.out (by simp [spec_l20Logic.l1])
        | succ k3 =>
         have H := HA.out
         clear HA
         simp only [spec_l20Logic.l1] at H
         by_cases l4 : e0 > e3
         ·
          rw [if_pos l4] at H
          have s1 : decide (e3 < e0) = true := decide_eq_true l4
          clear l4
          obtain ⟨ji124, hji124⟩ : ∃ j_ : Int, (wrap64 (e0 - 1)) = j_ := ⟨_, rfl⟩
          replace H : (if 0 ≤ (ji124) then (if (ji124) < (d5.length : Int) then (if 0 ≤ e0 then (if e0 < (d5.length : Int) then (spec_l20Logic.l1 k3 a1 (d5.set (e0 : Int).toNat (rd d5 (ji124))) d9 e3 ji124 s0_0 k1 b5 b0) else (none)) else (none)) else (none)) else (none)) = some (r1, r2, r3) := by first | (rw [hji124] at H; exact H) | (simp only [hji124] at H ⊢; exact H)
          have hji124w : (IntKind.i64.wrap (e0 - 1)) = ji124 := (i64_w _).trans hji124
          by_cases s2 : 0 ≤ (ji124)
          ·
           rw [if_pos s2] at H
           have G0 : decide (0 ≤ (ji124)) = true := decide_eq_true s2
           clear s2
           by_cases s3 : (ji124) < (d5.length : Int)
           ·
            rw [if_pos s3] at H
            have G1 : decide ((ji124) < (d5.length : Int)) = true := decide_eq_true s3
            clear s3
            by_cases s4 : 0 ≤ e0
            ·
             rw [if_pos s4] at H
             have G2 : decide (0 ≤ e0) = true := decide_eq_true s4
             clear s4
             by_cases s5 : e0 < (d5.length : Int)
             ·
              rw [if_pos s5] at H
              have G3 : decide (e0 < (d5.length : Int)) = true := decide_eq_true s5
              clear s5
              obtain ⟨y356, hy356⟩ : ∃ y_ : List Int, y_ = (d5.set (e0 : Int).toNat (rd d5 (ji124))) := ⟨_, rfl⟩
              replace H : (spec_l20Logic.l1 k3 a1 y356 d9 e3 ji124 s0_0 k1 b5 b0) = some (r1, r2, r3) := by first | (rw [hy356]; with_reducible exact H) | (have H2_ := (Option.bind_some _ _).symm.trans H; rw [hy356]; with_reducible exact H2_) | (have H2_ := (Option.bind_some _ _).symm.trans H; with_reducible exact H2_) | with_reducible exact H | (rw [hy356]; exact H) | exact H
              have Ny356 := Aside0.mk hy356
              clear hy356
              have H' := Aside0.mk H
              clear H
              obtain ⟨b0v, k4, J7⟩ := Kd.R_slice d4.out
              subst J7
              have x9 : 0 ≤ ((ji124) : Int) := of_decide_eq_true z4_10
              have q355 : (ji124) < (d5.length : Int) := of_decide_eq_true z4_10
              obtain ⟨ad355, e355, hx355_0⟩ := Kd.at_int (Kd.R_reads' d4.out).2.2 (ji124) x9 q355
              cases e355
              replace x9 := eq_true x9
              replace q355 := eq_true q355
              have y0 : 0 ≤ (e0 : Int) := of_decide_eq_true z4_10
              have q129 : (e0 : Int) < ((d5.length : Int) : Int) := of_decide_eq_true z4_10
              obtain ⟨go129, b0w, B0, B1, gl129, cl129, HG129⟩ := Kd.R_form d4.out (by omega)
              (first | cases B0 | (injection B0 with ea_ en_ ec_; (first | subst ea_ | (injection ea_ with ea_; subst ea_)); subst ec_; clear en_))
              have GB129 := Aside0.mk B1
              have GG129 := Aside0.mk HG129
              clear B1 gl129 HG129
              (first | simp only [add_plain] at hx355_0 | skip)
              obtain ⟨hx129_0, hf129_0⟩ := Kd.R_celln 0 d4.out (e0 : Int) y0 q129
              replace y0 := eq_true y0
              replace q129 := eq_true q129
              have HP131 := Kd.R_putg d4.out (e0 : Int) (rd d5 (ji124))
              go_wp2_with (first | ((with_reducible refine gate_store (t := 3) (p := 75) rfl ?_); refine store_event (t := 3) (p := 75) (v := ?vo_w132) (w1 := (wr.setCell ⟨go129, (e0 : Int).toNat, none⟩ (.int .i64 (rd d5 (ji124))))) ?hg ?ho ?hn ?hr ?_; (case ho => rfl); (case hg => rfl); (case hn => rfl); (case hr => first | (go_simp; done) | (go_simp; rfl)); intro G4 hw; have hg : wr.grownBy G4 (some go129) := (by rw [hw]; exact HP131.2); have hp_ : Kd.R (Kd.int .i64) 3 G4 w.heap.size (fun k_ => some k_ ≠ (.slice d7 b0.length d8 : Value).ownBlock) (.slice (some ⟨go129, 0, none⟩) d5.length k4) y356 := (by rw [hw, Ny356.out]; exact HP131.1); clear HP131; replace a4 := Aside0.mk (Kd.S_after (v := (.slice (some ⟨go129, 0, none⟩) d5.length k4)) (v1 := (.slice (some ⟨go129, 0, none⟩) d5.length k4)) (ok := (fun k_ => some k_ ≠ (.slice d7 b0.length d8 : Value).ownBlock)) z4_18 hg (.inl rfl)); replace a3 := Aside0.mk (Kd.Q_after (v := (.slice (some ⟨go129, 0, none⟩) d5.length k4)) (v1 := (.slice (some ⟨go129, 0, none⟩) d5.length k4)) (ok := (fun _ => True)) z4_28 hg (.inl rfl)); replace a8 := Aside0.mk (blk_grown (g := b1) (o := .cells #[.slice none 0 0, .slice none 0 0] 26 (0, 0)) z4_2 hg (Kd.R_ne d4.out a8.out z4_27)); replace a0 := Aside0.mk (blk_grown (g := a9) (o := .cells #[u241000, .slice d7 b0.length d8] 26 (0, 0)) z4_4 hg (Kd.R_ne d4.out a0.out z4_27)); replace b2 := Aside0.mk (IsS70.grown z4_1 hg (IsS70.own_ne b2.out d4.out z4_27)); replace HB := Aside0.mk ((by rw [hw]; exact below_set (HB.out) (Nat.le_trans HL.out GB129.out) : Below w0.heap.size w0 G4)); replace HK := Aside0.mk (KeepBut.trans z4_0 (KeepBut.of_grown hg g) (Kd.R_base2 d4.out)); replace d4 := Aside0.mk (hp_); clear hg hw hp_))
              go_roundg k3
              case measure => have := I8.out; have := HK2.out; have := HK3.out; omega
              case rel => exact ⟨(y356), (ji124), (by first | rfl | (simp; done) | (simp only [← hji124] <;> (first | rfl | simp)) | (simp [*]; done)), H', ⟨by have := I8.out; have := HK2.out; have := HK3.out; omega⟩, ⟨z4_17⟩, ⟨z4_18⟩, ⟨z4_19⟩, ⟨z4_2⟩, ⟨z4_4⟩, ⟨z4_1⟩, ⟨z4_0⟩, ⟨z4_3⟩⟩
             rw [if_neg s5] at H
             exact absurd H (by simp)
            rw [if_neg s4] at H
            exact absurd H (by simp)
           rw [if_neg s3] at H
           exact absurd H (by simp)
          rw [if_neg s2] at H
          exact absurd H (by simp)
         rw [if_neg l4] at H
         have s1 : decide (e3 < e0) = false := decide_eq_false l4
         clear l4
         by_cases s6 : 0 ≤ e3
         ·
          rw [if_pos s6] at H
          have G5 : decide (0 ≤ e3) = true := decide_eq_true s6
          clear s6
          by_cases s7 : e3 < (d5.length : Int)
          ·
           rw [if_pos s7] at H
           have G6 : decide (e3 < (d5.length : Int)) = true := decide_eq_true s7
           clear s7
           obtain ⟨y357, hy357⟩ : ∃ y_ : List Int, y_ = (d5.set (e3 : Int).toNat d9) := ⟨_, rfl⟩
           replace H : (spec_l20Logic.l0 k3 a1 y357 (wrap64 (d9 + 1)) s0_0 k1 b5 b0) = some (r1, r2, r3) := by first | (rw [hy357]; with_reducible exact H) | (have H2_ := (Option.bind_some _ _).symm.trans H; rw [hy357]; with_reducible exact H2_) | (have H2_ := (Option.bind_some _ _).symm.trans H; with_reducible exact H2_) | with_reducible exact H | (rw [hy357]; exact H) | exact H
           have Ny357 := Aside0.mk hy357
           clear hy357
           have H' := Aside0.mk H
           clear H
           have y3 : 0 ≤ (e3 : Int) := of_decide_eq_true z4_10
           have q135 : (e3 : Int) < ((d5.length : Int) : Int) := of_decide_eq_true z4_10
           obtain ⟨go135, k5, B2, B3, gl135, cl135, HG135⟩ := Kd.R_form d4.out (by omega)
           (first | cases B2 | (injection B2 with ea_ en_ ec_; (first | subst ea_ | (injection ea_ with ea_; subst ea_)); subst ec_; clear en_))
           have GB135 := Aside0.mk B3
           have GG135 := Aside0.mk HG135
           clear B3 gl135 HG135
           obtain ⟨hx135_0, hf135_0⟩ := Kd.R_celln 0 d4.out (e3 : Int) y3 q135
           replace y3 := eq_true y3
           replace q135 := eq_true q135
           have HP136 := Kd.R_putg d4.out (e3 : Int) d9
           go_wp2_with (first | ((with_reducible refine gate_store (t := 3) (p := 79) rfl ?_); refine store_event (t := 3) (p := 79) (v := ?vo_w137) (w1 := (wr.setCell ⟨go135, (e3 : Int).toNat, none⟩ (.int .i64 d9))) ?hg ?ho ?hn ?hr ?_; (case ho => rfl); (case hg => rfl); (case hn => rfl); (case hr => first | (go_simp; done) | (go_simp; rfl)); intro G7 hw; have hg : wr.grownBy G7 (some go135) := (by rw [hw]; exact HP136.2); have hp_ : Kd.R (Kd.int .i64) 3 G7 w.heap.size (fun k_ => some k_ ≠ (.slice d7 b0.length d8 : Value).ownBlock) (.slice (some ⟨go135, 0, none⟩) d5.length k5) y357 := (by rw [hw, Ny357.out]; exact HP136.1); clear HP136; replace a4 := Aside0.mk (Kd.S_after (v := (.slice (some ⟨go135, 0, none⟩) d5.length k5)) (v1 := (.slice (some ⟨go135, 0, none⟩) d5.length k5)) (ok := (fun k_ => some k_ ≠ (.slice d7 b0.length d8 : Value).ownBlock)) z4_18 hg (.inl rfl)); replace a3 := Aside0.mk (Kd.Q_after (v := (.slice (some ⟨go135, 0, none⟩) d5.length k5)) (v1 := (.slice (some ⟨go135, 0, none⟩) d5.length k5)) (ok := (fun _ => True)) z4_28 hg (.inl rfl)); replace a8 := Aside0.mk (blk_grown (g := b1) (o := .cells #[.slice none 0 0, .slice none 0 0] 26 (0, 0)) z4_2 hg (Kd.R_ne d4.out a8.out z4_27)); replace a0 := Aside0.mk (blk_grown (g := a9) (o := .cells #[u241000, .slice d7 b0.length d8] 26 (0, 0)) z4_4 hg (Kd.R_ne d4.out a0.out z4_27)); replace b2 := Aside0.mk (IsS70.grown z4_1 hg (IsS70.own_ne b2.out d4.out z4_27)); replace HB := Aside0.mk ((by rw [hw]; exact below_set (HB.out) (Nat.le_trans HL.out GB135.out) : Below w0.heap.size w0 G7)); replace HK := Aside0.mk (KeepBut.trans z4_0 (KeepBut.of_grown hg g) (Kd.R_base2 d4.out)); replace d4 := Aside0.mk (hp_); clear hg hw hp_))
           go_roundg k3
           case measure => have := I8.out; have := HK2.out; have := HK3.out; omega
           case rel => exact ⟨(y357), (wrap64 (d9 + 1)), (k1), (b0), (.slice d7 b0.length d8), z4_29, H', ⟨by have := I8.out; have := HK2.out; have := HK3.out; omega⟩, ⟨z4_17⟩, ⟨z4_18⟩, ⟨z4_19⟩, ⟨z4_2⟩, ⟨z4_4⟩, ⟨z4_1⟩, ⟨z4_0⟩, ⟨z4_3⟩⟩
          rw [if_neg s7] at H
          exact absurd H (by simp)
         rw [if_neg s6] at H
         exact absurd H (by simp)
      rw [if_neg o0] at H
      exact absurd H (by simp)
     rw [if_neg k0] at H
     have l3 : decide (d9 < (b0.length : Int)) = false := decide_eq_false k0
     clear k0
     obtain ⟨⟨J8, e4⟩, V9, H⟩ := bd_ H
     try dsimp only at H
     have s8 := Aside0.mk H
     clear H
     have W0 := b6.out
     have W1 := b4.out
     have W2 := b3.out
     have W3 := a6.out
     have b8 := cz20 a0.out
     have b9 := cz21 a0.out
     have d0 := blk_frozen a0.out 0
     have d1 := blk_frozen a0.out 1
     obtain ⟨h8, h9, J9, _⟩ := Kd.Q_slice a3.out
     subst J9
     go_upto_if 82 with (first | ((with_reducible refine gate_callee (f := 76) rfl ?_); refine gl_ (some 81) Try.func76 #[.pointer (some ⟨g, 0, none⟩), .int .i64 2] ?_; (with_reducible refine (spec_l20Rd_pick.calls k2 g s0_0 d6 2 J8 e4 w0 _ ?side1 ?side2 V9.out).mono ?_); (case side1 => repeat (first | (with_reducible first | exact b2.out | apply IsS70.alloc | apply IsS70.drewN | apply IsS70.drew | apply IsS70.set_1 | refine IsS70.far ?_ a7.out _ | refine IsS70.far ?_ a6.out _) | exact b2.out)); (case side2 => repeat (first | (with_reducible first | exact HB.out | apply below_alloc | apply pw_below_drewN | apply below_drew1 | refine below_set ?_ (IsS70.ge b2.out) | refine below_set ?_ d2.out | refine below_set ?_ d3.out) | exact HB.out)); rintro e w' ⟨rfl, hi, hb, hk⟩; refine ⟨_, rfl, ?_⟩; replace d4 := Aside0.mk (Kd.R_mono (Kd.R_keep (IsS70.apart (show IsS70 w0 _ g s0_0 d6 from by repeat (first | (with_reducible first | exact b2.out | apply IsS70.alloc | apply IsS70.drewN | apply IsS70.drew | apply IsS70.set_1 | refine IsS70.far ?_ a7.out _ | refine IsS70.far ?_ a6.out _) | exact b2.out)) z4_17 z4_27) hk (fun _ h => h.2)) (fun _ h => h.1)); replace a4 := Aside0.mk (Kd.S_mono (Kd.S_keep (IsS70.apartS (show IsS70 w0 _ g s0_0 d6 from by repeat (first | (with_reducible first | exact b2.out | apply IsS70.alloc | apply IsS70.drewN | apply IsS70.drew | apply IsS70.set_1 | refine IsS70.far ?_ a7.out _ | refine IsS70.far ?_ a6.out _) | exact b2.out)) z4_7 z4_27) hk (fun _ h => h.2)) (fun _ h => h.1)); replace a3 := Aside0.mk (Kd.Q_mono (Kd.Q_keep (IsS70.apartQ (show IsS70 w0 _ g s0_0 d6 from by repeat (first | (with_reducible first | exact b2.out | apply IsS70.alloc | apply IsS70.drewN | apply IsS70.drew | apply IsS70.set_1 | refine IsS70.far ?_ a7.out _ | refine IsS70.far ?_ a6.out _) | exact b2.out)) z4_6 z4_27) hk (fun _ h => h.2)) (fun _ h => h.1)); replace a8 := Aside0.mk (KeepBut.blk hk (g' := b1) (o := .cells #[.slice none 0 0, .slice none 0 0] 26 (0, 0)) z4_2 b7.out (by simp)); replace a0 := Aside0.mk (KeepBut.blk hk (g' := a9) (o := .cells #[u241000, .slice h8 b0.length h9] 26 (0, 0)) z4_4 b3.out (by simp)); replace HK := Aside0.mk (KeepBut.trans z4_0 hk (.inl rfl)); replace HB := Aside0.mk (hb); replace b2 := Aside0.mk (hi); (try clear hb); (try clear hb2); (try clear hk); (try clear hi)))
     (try simp only [Act.put, List.setIfInBounds_toArray, List.set_cons_zero, List.set_cons_succ])
     go_cut [] (fun wc => ∃ (kq : Nat) (a2 : List (List Int)) (a5 : List Int) (u241000 : Value) (u241001 : Value), Aside0 (spec_l20Logic.j5 kq a1 s0_0 e4 a2 a5 = some (r1, r2, r3)) ∧ Aside0 (kq ≤ k2) ∧ Aside0 (Kd.S (Kd.slice 3 (Kd.int .i64)) 24 wc w.heap.size (fun k_ => some k_ ≠ (u241001 : Value).ownBlock) u241000 a2) ∧ Aside0 (Kd.Q (Kd.int .i64) 3 wc w.heap.size (fun _ => True) u241001 a5) ∧ Aside0 (wc.heap[b1]? = some (.cells #[(.slice none 0 0), (.slice none 0 0)] 26 (0, 0))) ∧ Aside0 (wc.heap[a9]? = some (.cells #[u241000, u241001] 26 (0, 0))) ∧ Aside0 (IsS70 w0 wc g s0_0 e4) ∧ Aside0 (KeepBut w wc g none) ∧ Aside0 (Below w0.heap.size w0 wc))
     case first =>
      have H := s8.out
      clear s8
      by_cases k6 : J8 = 0
      ·
       rw [if_pos k6] at H
       have f3 := bt_ k6
       have s9 := bu_ k6
       clear k6
       (first | rw [f3] | (simp only [i64_w, i32_w]; rw [f3]) | skip)
       obtain ⟨⟨o1, u0⟩, W4, H⟩ := bd_ H
       try dsimp only at H
       have H' := Aside0.mk H
       clear H
       have W5 := b6.out
       have W6 := b4.out
       have W7 := b3.out
       have W8 := a6.out
       have b8 := cz20 a0.out
       have b9 := cz21 a0.out
       have d0 := blk_frozen a0.out 0
       have d1 := blk_frozen a0.out 1
       obtain ⟨u1, u2, K0⟩ := Kd.S_slice a4.out
       subst K0
       obtain ⟨K1, K2, K3⟩ := Kd.R_slice d4.out
       subst K3
       go_wp2_with (first | ((with_reducible refine gate_callee (f := 81) rfl ?_); refine gl_ (some 85) Try.func81 #[.agg #[.slice u1 b5.length u2, .slice h8 b0.length h9], .slice K1 j9.length K2] ?_; (with_reducible refine (spec_l20Rename.calls k2 _ _ b5 _ _ b0 _ _ j9 o1 u0 _ (y1 a4.out) (y2 a4.out) (y1 a3.out) (y2 a3.out) (y1 d4.out) (y2 d4.out) W4.out).mono ?_); rintro e w' ⟨b27, b28, rfl, ho0, ho1, hb⟩; refine ⟨_, rfl, ?_⟩; have B4 := Aside0.mk (Kd.S_lower (Kd.S_new' (Kd.S_new' (Kd.S_new' ho0 (Kd.R_lt z4_17)) (Kd.S_lt z4_7)) (Kd.Q_lt z4_6)) (keep_size (w := w) (g := g) (row := none) z4_0)); replace a4 := Aside0.mk (Kd.S_mono (Kd.S_told (Kd.S_told (Kd.S_old z4_7 hb) (Kd.S_base ho0)) (Kd.R_base ho1)) (fun _ h_ => h_.1)); have B5 := Aside0.mk (Kd.R_lower (Kd.R_new' (Kd.R_new' ho1 (Kd.R_lt z4_17)) (Kd.Q_lt z4_6)) (keep_size (w := w) (g := g) (row := none) z4_0)); replace d4 := Aside0.mk (Kd.R_elder' z4_17 (Kd.R_base ho1) hb); replace a3 := Aside0.mk (Kd.Q_elder' z4_6 (Kd.R_base ho1) hb); replace a8 := Aside0.mk (blk_below (g := b1) (o := .cells #[.slice none 0 0, .slice none 0 0] 26 (0, 0)) z4_2 hb); replace a0 := Aside0.mk (blk_below (g := a9) (o := .cells #[.slice u1 b5.length u2, .slice h8 b0.length h9] 26 (0, 0)) z4_4 hb); replace HK := Aside0.mk (KeepBut.trans z4_0 (KeepBut.of_below hb g none) (.inl rfl)); replace HB := Aside0.mk (below_step z4_3 hb); replace b2 := Aside0.mk (IsS70.below z4_1 hb); (try clear hb); (try clear hb2); (try clear hk); (try clear hi); (try clear ho0); (try clear ho1); obtain ⟨m3, m4, K4⟩ := Kd.S_slice B4.out; subst K4; have b8 := cz20 a0.out; have b9 := cz21 a0.out; have d0 := blk_frozen a0.out 0; have d1 := blk_frozen a0.out 1; obtain ⟨u3, u4, K5⟩ := Kd.R_slice B5.out; subst K5))
       go_meet
       case rel => exact ⟨_, (o1), (u0), (.slice m3 o1.length m4), (.slice u3 u0.length u4), H', ⟨by have := I8.out; have := HK2.out; first | omega | exact Nat.le_refl _⟩, ⟨by (with_reducible repeat (first | apply Kd.S_alloc | apply Kd.S_drewN | apply Kd.S_drew)); exact Kd.S_mono (Kd.S_far (p := ⟨a9, 1, none⟩) (Kd.S_far (p := ⟨a9, 0, none⟩) (Kd.S_types B4.out a0.out z4_27) (fun _ hk => hk.2) (.slice m3 o1.length m4)) (fun _ hk => hk.2) (.slice u3 u0.length u4)) (fun _ hk => hk.1.1.1.1)⟩, ⟨Kd.Q_of_R (by (with_reducible repeat (first | apply Kd.R_alloc | apply Kd.R_drewN | apply Kd.R_drew)); exact Kd.R_mono (Kd.R_far (p := ⟨a9, 1, none⟩) (Kd.R_far (p := ⟨a9, 0, none⟩) (Kd.R_types B5.out a0.out z4_27) (fun _ hk => hk.2) (.slice m3 o1.length m4)) (fun _ hk => hk.2) (.slice u3 u0.length u4)) (fun _ hk => trivial))⟩, ⟨z4_5⟩, ⟨by (with_reducible repeat (first | refine blk_drewN ?_ _ | refine blk_drew ?_ | refine blk_alloc ?_ _)); refine blk_put (cs := #[.slice m3 o1.length m4, .slice h8 b0.length h9]) ?_ 1 _ rfl; (with_reducible repeat (first | refine blk_drewN ?_ _ | refine blk_drew ?_ | refine blk_alloc ?_ _)); refine blk_put (cs := #[.slice u1 b5.length u2, .slice h8 b0.length h9]) ?_ 0 _ rfl; (with_reducible repeat (first | refine blk_drewN ?_ _ | refine blk_drew ?_ | refine blk_alloc ?_ _)); exact a0.out⟩, ⟨z4_1⟩, ⟨z4_0⟩, ⟨z4_3⟩⟩
      rw [if_neg k6] at H
      have f3 := bv_ k6
      have s9 := bw_ k6
      (first | rw [f3] | (simp only [i64_w, i32_w]; rw [f3]) | skip)
      have H' := Aside0.mk H
      clear H
      go_wp2
      go_meet
      case rel => exact ⟨_, (b5), (b0), (u241000), (.slice h8 b0.length h9), H', ⟨by have := I8.out; have := HK2.out; first | omega | exact Nat.le_refl _⟩, ⟨by (with_reducible repeat (first | apply Kd.S_alloc | apply Kd.S_drewN | apply Kd.S_drew)); exact Kd.S_mono a4.out (fun _ hk => hk.2)⟩, ⟨by (with_reducible repeat (first | apply Kd.Q_alloc | apply Kd.Q_drewN | apply Kd.Q_drew)); exact Kd.Q_mono a3.out (fun _ hk => trivial)⟩, ⟨z4_2⟩, ⟨z4_4⟩, ⟨z4_1⟩, ⟨z4_0⟩, ⟨z4_3⟩⟩
     case rest =>
      clear s8
      try clear c1
      try clear p1
      try clear q1
      try clear hx1
      try clear c2
      try clear p2
      try clear c3
      try clear p3
      try clear q3
      try clear hx3
      try clear c4
      try clear c5
      try clear p6
      try clear c7
      try clear c8
      try clear T9
      try clear c11
      try clear n2
      try clear e5
      try clear g3
      try clear p12
      try clear q12
      try clear hx12
      try clear hf12
      try clear v5
      try clear p13
      try clear q13
      try clear hx13
      try clear hf13
      try clear c14
      try clear L5
      try clear L6
      try clear o3
      try clear e8
      try clear h3
      try clear z5
      try clear p35
      try clear q35
      try clear hx35
      try clear U0
      try clear U1
      try clear o6
      try clear i7
      try clear i8
      try clear U2
      try clear U3
      try clear o8
      try clear i9
      try clear j3
      try clear p64
      try clear U4
      try clear U5
      try clear U6
      try clear U7
      try clear U8
      try clear q0
      try clear j4
      try clear j6
      try clear U9
      try clear V0
      try clear q4
      try clear j7
      try clear j8
      try clear F5
      try clear F6
      try clear F7
      try clear F8
      try clear k0
      try clear l3
      try clear o0
      try clear V7
      try clear V8
      try clear l4
      try clear s1
      try clear s2
      try clear G0
      try clear s3
      try clear G1
      try clear s4
      try clear G2
      try clear s5
      try clear G3
      try clear y0
      try clear q129
      try clear hx129
      try clear hf129
      try clear s6
      try clear G5
      try clear s7
      try clear G6
      try clear y3
      try clear q135
      try clear hx135
      try clear hf135
      try clear b29
      try clear b2a
      try clear k6
      try clear f3
      try clear s9
      try clear b2b
      try clear b2c
      try clear b8
      try clear b9
      try clear d0
      try clear d1
      try clear hx129_0
      try clear hx135_0
      try clear hx355_0
      try clear x9
      try clear q355
      obtain ⟨kq, a2, a5, u241000, u241001, HA, b0x, a4, a3, a8, a0, b2, HK, HB⟩ := hcut
      cases kq with
      | zero => exact absurd HA.out (by simp [spec_l20Logic.j5])
      | succ e6 =>
       have H := HA.out
       clear HA
       simp only [spec_l20Logic.j5] at H
       obtain ⟨⟨W9, e7⟩, o2, H⟩ := bd_ H
       try dsimp only at H
       by_cases y4 : W9 = true
       ·
        subst y4
        rw [if_pos rfl] at H
        obtain ⟨⟨l5, g4⟩, u5, H⟩ := bd_ H
        try dsimp only at H
        by_cases l6 : l5 = 0
        ·
         rw [if_pos l6] at H
         have G8 := bt_ l6
         have G9 := bu_ l6
         clear l6
         simp only [Option.some.injEq, Prod.mk.injEq] at H
         obtain ⟨rfl, rfl, rfl⟩ := H
         go_wp2_with (first | ((with_reducible refine gate_callee (f := 82) rfl ?_); refine gl_ (some 88) Try.func82 #[.pointer (some ⟨g, 0, none⟩), .int .i64 a1] ?_; (with_reducible refine (spec_l20Rd_odd.calls e6 g s0_0 e4 a1 true e7 w0 _ ?side1 ?side2 o2.out).mono ?_); (case side1 => repeat (first | (with_reducible first | exact b2.out | apply IsS70.alloc | apply IsS70.drewN | apply IsS70.drew | apply IsS70.set_1 | refine IsS70.far ?_ a7.out _ | refine IsS70.far ?_ a6.out _) | exact b2.out)); (case side2 => repeat (first | (with_reducible first | exact HB.out | apply below_alloc | apply pw_below_drewN | apply below_drew1 | refine below_set ?_ (IsS70.ge b2.out) | refine below_set ?_ d2.out | refine below_set ?_ d3.out) | exact HB.out)); rintro e w' ⟨rfl, hi, hb, hk⟩; refine ⟨_, rfl, ?_⟩; replace a4 := Aside0.mk (Kd.S_mono (Kd.S_keep (IsS70.apartS (show IsS70 w0 _ g s0_0 e4 from by repeat (first | (with_reducible first | exact b2.out | apply IsS70.alloc | apply IsS70.drewN | apply IsS70.drew | apply IsS70.set_1 | refine IsS70.far ?_ a7.out _ | refine IsS70.far ?_ a6.out _) | exact b2.out)) z4_7 z4_27) hk (fun _ h => h.2)) (fun _ h => h.1)); replace a3 := Aside0.mk (Kd.Q_mono (Kd.Q_keep (IsS70.apartQ (show IsS70 w0 _ g s0_0 e4 from by repeat (first | (with_reducible first | exact b2.out | apply IsS70.alloc | apply IsS70.drewN | apply IsS70.drew | apply IsS70.set_1 | refine IsS70.far ?_ a7.out _ | refine IsS70.far ?_ a6.out _) | exact b2.out)) z4_6 z4_27) hk (fun _ h => h.2)) (fun _ h => h.1)); replace a8 := Aside0.mk (KeepBut.blk hk (g' := b1) (o := .cells #[.slice none 0 0, .slice none 0 0] 26 (0, 0)) z4_2 b7.out (by simp)); replace a0 := Aside0.mk (KeepBut.blk hk (g' := a9) (o := .cells #[u241000, u241001] 26 (0, 0)) z4_4 b3.out (by simp)); replace HK := Aside0.mk (KeepBut.trans z4_0 hk (.inl rfl)); replace HB := Aside0.mk (hb); replace b2 := Aside0.mk (hi); (try clear hb); (try clear hb2); (try clear hk); (try clear hi)) | ((with_reducible refine gate_callee (f := 76) rfl ?_); refine gl_ (some 90) Try.func76 #[.pointer (some ⟨g, 0, none⟩), .int .i64 4] ?_; (with_reducible refine (spec_l20Rd_pick.calls e6 g s0_0 e7 4 l5 g4 w0 _ ?side1 ?side2 u5.out).mono ?_); (case side1 => repeat (first | (with_reducible first | exact b2.out | apply IsS70.alloc | apply IsS70.drewN | apply IsS70.drew | apply IsS70.set_1 | refine IsS70.far ?_ a7.out _ | refine IsS70.far ?_ a6.out _) | exact b2.out)); (case side2 => repeat (first | (with_reducible first | exact HB.out | apply below_alloc | apply pw_below_drewN | apply below_drew1 | refine below_set ?_ (IsS70.ge b2.out) | refine below_set ?_ d2.out | refine below_set ?_ d3.out) | exact HB.out)); rintro e w' ⟨rfl, hi, hb, hk⟩; refine ⟨_, rfl, ?_⟩; replace a4 := Aside0.mk (Kd.S_mono (Kd.S_keep (IsS70.apartS (show IsS70 w0 _ g s0_0 e7 from by repeat (first | (with_reducible first | exact b2.out | apply IsS70.alloc | apply IsS70.drewN | apply IsS70.drew | apply IsS70.set_1 | refine IsS70.far ?_ a7.out _ | refine IsS70.far ?_ a6.out _) | exact b2.out)) z4_7 z4_27) hk (fun _ h => h.2)) (fun _ h => h.1)); replace a3 := Aside0.mk (Kd.Q_mono (Kd.Q_keep (IsS70.apartQ (show IsS70 w0 _ g s0_0 e7 from by repeat (first | (with_reducible first | exact b2.out | apply IsS70.alloc | apply IsS70.drewN | apply IsS70.drew | apply IsS70.set_1 | refine IsS70.far ?_ a7.out _ | refine IsS70.far ?_ a6.out _) | exact b2.out)) z4_6 z4_27) hk (fun _ h => h.2)) (fun _ h => h.1)); replace a8 := Aside0.mk (KeepBut.blk hk (g' := b1) (o := .cells #[.slice none 0 0, .slice none 0 0] 26 (0, 0)) z4_2 b7.out (by simp)); replace a0 := Aside0.mk (KeepBut.blk hk (g' := a9) (o := .cells #[u241000, u241001] 26 (0, 0)) z4_4 b3.out (by simp)); replace HK := Aside0.mk (KeepBut.trans z4_0 hk (.inl rfl)); replace HB := Aside0.mk (hb); replace b2 := Aside0.mk (hi); (try clear hb); (try clear hb2); (try clear hk); (try clear hi); have X0 := b4.out; have X1 := b6.out; have X2 := b7.out; have X3 := a7.out; have b8 := cz20 a8.out; have b9 := cz21 a8.out; have d0 := blk_frozen a8.out 0; have d1 := blk_frozen a8.out 1))
         refine bodyPost_ret (results_cell_row rfl _ _ b1 26 #[.slice none 0 0, .slice none 0 0] (0, 0) _ rfl (by (with_reducible repeat (first | refine blk_drewN ?_ _ | refine blk_drew ?_ | refine blk_alloc ?_ _)); refine blk_put (cs := #[.slice none 0 0, .slice none 0 0]) ?_ 1 _ rfl; (with_reducible repeat (first | refine blk_drewN ?_ _ | refine blk_drew ?_ | refine blk_alloc ?_ _)); refine blk_put (cs := #[.slice none 0 0, .slice none 0 0]) ?_ 0 _ rfl; (with_reducible repeat (first | refine blk_drewN ?_ _ | refine blk_drew ?_ | refine blk_alloc ?_ _)); exact a8.out) Try.underlying26 rfl (by kernel_rfl)) rfl ?_
         exact ⟨_, _, by first | rfl | (simp [errW_none, errW_some] <;> rfl) | (simp [*, errW_none, errW_some] <;> rfl), by first | exact Kd.S_nil _ _ _ _ _ | exact Kd.N_nil _ _ _ _ _ | exact Kd.V_nil _ _ _ _ _ | exact Kd.Q_nil _ _ _ _ _ | exact Kd.R_nil _ _ _ _ _, Kd.Q_of_R (by first | exact Kd.R_nil _ _ _ _ _ | exact Kd.N_nil _ _ _ _ _ | exact Kd.V_nil _ _ _ _ _ | exact Kd.Q_nil _ _ _ _ _ | exact Kd.S_nil _ _ _ _ _), by repeat (first | (with_reducible first | exact b2.out | apply IsS70.alloc | apply IsS70.drewN | apply IsS70.drew | apply IsS70.set_1 | refine IsS70.far ?_ a7.out _ | refine IsS70.far ?_ a6.out _) | exact b2.out), by repeat (first | (with_reducible first | exact HB.out | apply below_alloc | apply pw_below_drewN | apply below_drew1 | refine below_set ?_ (IsS70.ge b2.out) | refine below_set ?_ d2.out | refine below_set ?_ d3.out) | exact HB.out), by repeat (first | (with_reducible first | exact HK.out | apply KeepBut.set_ | apply keep_drewN | apply keep_drew | apply keep_alloc | refine keep_far ?_ f4.out _ | refine keep_far ?_ g1.out _) | exact HK.out)⟩
        rw [if_neg l6] at H
        have G8 := bv_ l6
        have G9 := bw_ l6
        by_cases l7 : l5 = 1
        ·
         rw [if_pos l7] at H
         have I0 := bt_ l7
         have I1 := bu_ l7
         clear l7
         by_cases u7 : 1 ≤ (a5.length : Int)
         ·
          rw [if_pos u7] at H
          have X4 := eq_true u7
          have X5 : decide (1 ≤ (a5.length : Int)) = true := decide_eq_true u7
          clear u7
          obtain ⟨y370, hy370⟩ : ∃ y_ : List Int, y_ = (a5.drop (1 : Int).toNat) := ⟨_, rfl⟩
          replace H : (some (a2, y370, g4)) = some (r1, r2, r3) := by first | (rw [hy370]; with_reducible exact H) | (have H2_ := (Option.bind_some _ _).symm.trans H; rw [hy370]; with_reducible exact H2_) | (have H2_ := (Option.bind_some _ _).symm.trans H; with_reducible exact H2_) | with_reducible exact H | (rw [hy370]; exact H) | exact H
          have Ny370 := Aside0.mk hy370
          clear hy370
          simp only [Option.some.injEq, Prod.mk.injEq] at H
          obtain ⟨rfl, rfl, rfl⟩ := H
          go_wp2_with (first | ((with_reducible refine gate_callee (f := 82) rfl ?_); refine gl_ (some 88) Try.func82 #[.pointer (some ⟨g, 0, none⟩), .int .i64 a1] ?_; (with_reducible refine (spec_l20Rd_odd.calls e6 g s0_0 e4 a1 true e7 w0 _ ?side1 ?side2 o2.out).mono ?_); (case side1 => repeat (first | (with_reducible first | exact b2.out | apply IsS70.alloc | apply IsS70.drewN | apply IsS70.drew | apply IsS70.set_1 | refine IsS70.far ?_ a7.out _ | refine IsS70.far ?_ a6.out _) | exact b2.out)); (case side2 => repeat (first | (with_reducible first | exact HB.out | apply below_alloc | apply pw_below_drewN | apply below_drew1 | refine below_set ?_ (IsS70.ge b2.out) | refine below_set ?_ d2.out | refine below_set ?_ d3.out) | exact HB.out)); rintro e w' ⟨rfl, hi, hb, hk⟩; refine ⟨_, rfl, ?_⟩; replace a4 := Aside0.mk (Kd.S_mono (Kd.S_keep (IsS70.apartS (show IsS70 w0 _ g s0_0 e4 from by repeat (first | (with_reducible first | exact b2.out | apply IsS70.alloc | apply IsS70.drewN | apply IsS70.drew | apply IsS70.set_1 | refine IsS70.far ?_ a7.out _ | refine IsS70.far ?_ a6.out _) | exact b2.out)) z4_7 z4_27) hk (fun _ h => h.2)) (fun _ h => h.1)); replace a3 := Aside0.mk (Kd.Q_mono (Kd.Q_keep (IsS70.apartQ (show IsS70 w0 _ g s0_0 e4 from by repeat (first | (with_reducible first | exact b2.out | apply IsS70.alloc | apply IsS70.drewN | apply IsS70.drew | apply IsS70.set_1 | refine IsS70.far ?_ a7.out _ | refine IsS70.far ?_ a6.out _) | exact b2.out)) z4_6 z4_27) hk (fun _ h => h.2)) (fun _ h => h.1)); replace a8 := Aside0.mk (KeepBut.blk hk (g' := b1) (o := .cells #[.slice none 0 0, .slice none 0 0] 26 (0, 0)) z4_2 b7.out (by simp)); replace a0 := Aside0.mk (KeepBut.blk hk (g' := a9) (o := .cells #[u241000, u241001] 26 (0, 0)) z4_4 b3.out (by simp)); replace HK := Aside0.mk (KeepBut.trans z4_0 hk (.inl rfl)); replace HB := Aside0.mk (hb); replace b2 := Aside0.mk (hi); (try clear hb); (try clear hb2); (try clear hk); (try clear hi)) | ((with_reducible refine gate_callee (f := 76) rfl ?_); refine gl_ (some 90) Try.func76 #[.pointer (some ⟨g, 0, none⟩), .int .i64 4] ?_; (with_reducible refine (spec_l20Rd_pick.calls e6 g s0_0 e7 4 l5 g4 w0 _ ?side1 ?side2 u5.out).mono ?_); (case side1 => repeat (first | (with_reducible first | exact b2.out | apply IsS70.alloc | apply IsS70.drewN | apply IsS70.drew | apply IsS70.set_1 | refine IsS70.far ?_ a7.out _ | refine IsS70.far ?_ a6.out _) | exact b2.out)); (case side2 => repeat (first | (with_reducible first | exact HB.out | apply below_alloc | apply pw_below_drewN | apply below_drew1 | refine below_set ?_ (IsS70.ge b2.out) | refine below_set ?_ d2.out | refine below_set ?_ d3.out) | exact HB.out)); rintro e X6 ⟨rfl, hi, hb, hk⟩; refine ⟨_, rfl, ?_⟩; replace a4 := Aside0.mk (Kd.S_mono (Kd.S_keep (IsS70.apartS (show IsS70 w0 _ g s0_0 e7 from by repeat (first | (with_reducible first | exact b2.out | apply IsS70.alloc | apply IsS70.drewN | apply IsS70.drew | apply IsS70.set_1 | refine IsS70.far ?_ a7.out _ | refine IsS70.far ?_ a6.out _) | exact b2.out)) z4_7 z4_27) hk (fun _ h => h.2)) (fun _ h => h.1)); replace a3 := Aside0.mk (Kd.Q_mono (Kd.Q_keep (IsS70.apartQ (show IsS70 w0 _ g s0_0 e7 from by repeat (first | (with_reducible first | exact b2.out | apply IsS70.alloc | apply IsS70.drewN | apply IsS70.drew | apply IsS70.set_1 | refine IsS70.far ?_ a7.out _ | refine IsS70.far ?_ a6.out _) | exact b2.out)) z4_6 z4_27) hk (fun _ h => h.2)) (fun _ h => h.1)); replace a8 := Aside0.mk (KeepBut.blk hk (g' := b1) (o := .cells #[.slice none 0 0, .slice none 0 0] 26 (0, 0)) z4_2 b7.out (by simp)); replace a0 := Aside0.mk (KeepBut.blk hk (g' := a9) (o := .cells #[u241000, u241001] 26 (0, 0)) z4_4 b3.out (by simp)); replace HK := Aside0.mk (KeepBut.trans z4_0 hk (.inl rfl)); replace HB := Aside0.mk (hb); replace b2 := Aside0.mk (hi); (try clear hb); (try clear hb2); (try clear hk); (try clear hi); have X7 := b6.out; have X8 := b4.out; have X9 := b3.out; have Y0 := a6.out; have b8 := cz20 a0.out; have b9 := cz21 a0.out; have d0 := blk_frozen a0.out 0; have d1 := blk_frozen a0.out 1; obtain ⟨k7, m5, K6, _⟩ := Kd.Q_slice a3.out; subst K6; have q173 : (1 : Int) ≤ ((a5.length : Int) : Int) := of_decide_eq_true z4_10; obtain ⟨i0173, hi0173, _, hsz173, _⟩ := info_parts info3; have hcut173 := cut_from (P := Try.prog) 24 3 .i64 Try.underlying24 hi0173 1 hsz173 k7 a5.length m5 1 (by omega) q173; have hr173 := Kd.Q_drop (k := (1 : Int).toNat) a3.out (by omega); obtain ⟨k8, hA173⟩ : ∃ A1, A1 = (if m5 = (1 : Int).toNat then k7 else (k7 : Option Addr).map (·.add ((1 : Int).toNat * 1))) := ⟨_, rfl⟩; obtain ⟨k9, hc173⟩ : ∃ c1, c1 = m5 - (1 : Int).toNat := ⟨_, rfl⟩; have hy173 : y370.length = a5.length - (1 : Int).toNat := (by rw [Ny370.out, List.length_drop]); rw [← Ny370.out] at hr173; rw [← hy173, ← hA173, ← hc173] at hcut173; replace hr173 : Kd.Q (Kd.int .i64) 3 X6 w.heap.size (fun _ => True) (.slice k8 y370.length k9) y370 := (by rw [hA173, hc173, hy173]; exact hr173); have HE173 : Aside0 ((Value.slice k8 y370.length k9).ownBlock = (.slice k7 a5.length m5 : Value).ownBlock) := ⟨by rw [hA173]; split <;> (cases (k7 : Option Addr) <;> rfl)⟩; clear hy173 hi0173 hsz173 a3 hA173 hc173; have K7 := Aside0.mk hr173; clear hr173; replace q173 := eq_true q173; have n_ := Aside0.mk (Kd.S_mono (ok' := fun k_ => some k_ ≠ (.slice k8 y370.length k9 : Value).ownBlock) a4.out (fun k_ hk => (by rw [HE173.out]; exact hk))); clear a4; have a4 := n_; clear n_; obtain ⟨m6, m7, K8⟩ := Kd.S_slice a4.out; subst K8; have Y1 := b7.out; have Y2 := a7.out; have b8 := cz20 a8.out; have b9 := cz21 a8.out; have d0 := blk_frozen a8.out 0; have d1 := blk_frozen a8.out 1))
          refine bodyPost_ret (results_cell_row rfl _ _ b1 26 #[.slice m6 a2.length m7, .slice k8 y370.length k9] (0, 0) _ rfl (by (with_reducible repeat (first | refine blk_drewN ?_ _ | refine blk_drew ?_ | refine blk_alloc ?_ _)); refine blk_put (cs := #[.slice m6 a2.length m7, .slice none 0 0]) ?_ 1 _ rfl; (with_reducible repeat (first | refine blk_drewN ?_ _ | refine blk_drew ?_ | refine blk_alloc ?_ _)); refine blk_put (cs := #[.slice none 0 0, .slice none 0 0]) ?_ 0 _ rfl; (with_reducible repeat (first | refine blk_drewN ?_ _ | refine blk_drew ?_ | refine blk_alloc ?_ _)); refine blk_far ?_ b4.out _; (with_reducible repeat (first | refine blk_drewN ?_ _ | refine blk_drew ?_ | refine blk_alloc ?_ _)); exact a8.out) Try.underlying26 rfl (by kernel_rfl)) rfl ?_
          exact ⟨_, _, by first | rfl | (simp [errW_none, errW_some] <;> rfl) | (simp [*, errW_none, errW_some] <;> rfl), by (with_reducible repeat (first | apply Kd.S_alloc | apply Kd.S_drewN | apply Kd.S_drew)); exact Kd.S_mono (Kd.S_far (p := ⟨b1, 1, none⟩) (Kd.S_far (p := ⟨b1, 0, none⟩) (Kd.S_far (p := ⟨a9, 1, none⟩) (Kd.S_types (Kd.S_types a4.out a0.out z4_27) a8.out z4_27) (fun _ hk => hk.1.2) (.slice k8 y370.length k9)) (fun _ hk => hk.2) (.slice m6 a2.length m7)) (fun _ hk => hk.2) (.slice k8 y370.length k9)) (fun _ hk => hk.1.1), by (with_reducible repeat (first | apply Kd.Q_alloc | apply Kd.Q_drewN | apply Kd.Q_drew)); exact Kd.Q_mono (Kd.Q_far (p := ⟨b1, 1, none⟩) (Kd.Q_far (p := ⟨b1, 0, none⟩) (Kd.Q_far (p := ⟨a9, 1, none⟩) (Kd.Q_types (Kd.Q_types K7.out a0.out z4_27) a8.out z4_27) (fun _ hk => hk.1.2) (.slice k8 y370.length k9)) (fun _ hk => hk.2) (.slice m6 a2.length m7)) (fun _ hk => hk.2) (.slice k8 y370.length k9)) (fun _ hk => trivial), by repeat (first | (with_reducible first | exact b2.out | apply IsS70.alloc | apply IsS70.drewN | apply IsS70.drew | apply IsS70.set_1 | refine IsS70.far ?_ a7.out _ | refine IsS70.far ?_ a6.out _) | exact b2.out), by repeat (first | (with_reducible first | exact HB.out | apply below_alloc | apply pw_below_drewN | apply below_drew1 | refine below_set ?_ (IsS70.ge b2.out) | refine below_set ?_ d2.out | refine below_set ?_ d3.out) | exact HB.out), by repeat (first | (with_reducible first | exact HK.out | apply KeepBut.set_ | apply keep_drewN | apply keep_drew | apply keep_alloc | refine keep_far ?_ f4.out _ | refine keep_far ?_ g1.out _) | exact HK.out)⟩
         rw [if_neg u7] at H
         exact absurd H (by simp)
        rw [if_neg l7] at H
        have I0 := bv_ l7
        have I1 := bw_ l7
        by_cases l8 : l5 = 2
        ·
         rw [if_pos l8] at H
         have I2 := bt_ l8
         have I3 := bu_ l8
         clear l8
         obtain ⟨⟨e2, y5⟩, Y3, H⟩ := bd_ H
         try dsimp only at H
         obtain ⟨⟨f8, I4⟩, Y4, H⟩ := bd_ H
         try dsimp only at H
         by_cases y6 : 0 ≤ e2
         ·
          rw [if_pos y6] at H
          have Y5 : decide (0 ≤ e2) = true := decide_eq_true y6
          clear y6
          by_cases y7 : e2 < (a5.length : Int)
          ·
           rw [if_pos y7] at H
           have Y6 : decide (e2 < (a5.length : Int)) = true := decide_eq_true y7
           clear y7
           obtain ⟨y377, hy377⟩ : ∃ y_ : List Int, y_ = (a5.set (e2 : Int).toNat f8) := ⟨_, rfl⟩
           replace H : (some (a2, y377, I4)) = some (r1, r2, r3) := by first | (rw [hy377]; with_reducible exact H) | (have H2_ := (Option.bind_some _ _).symm.trans H; rw [hy377]; with_reducible exact H2_) | (have H2_ := (Option.bind_some _ _).symm.trans H; with_reducible exact H2_) | with_reducible exact H | (rw [hy377]; exact H) | exact H
           have Ny377 := Aside0.mk hy377
           clear hy377
           simp only [Option.some.injEq, Prod.mk.injEq] at H
           obtain ⟨rfl, rfl, rfl⟩ := H
           try go_wp2_with (first | ((with_reducible refine gate_callee (f := 82) rfl ?_); refine gl_ (some 88) Try.func82 #[.pointer (some ⟨g, 0, none⟩), .int .i64 a1] ?_; (with_reducible refine (spec_l20Rd_odd.calls e6 g s0_0 e4 a1 true e7 w0 _ ?side1 ?side2 o2.out).mono ?_); (case side1 => repeat (first | (with_reducible first | exact b2.out | apply IsS70.alloc | apply IsS70.drewN | apply IsS70.drew | apply IsS70.set_1 | refine IsS70.far ?_ a7.out _ | refine IsS70.far ?_ a6.out _) | exact b2.out)); (case side2 => repeat (first | (with_reducible first | exact HB.out | apply below_alloc | apply pw_below_drewN | apply below_drew1 | refine below_set ?_ (IsS70.ge b2.out) | refine below_set ?_ d2.out | refine below_set ?_ d3.out) | exact HB.out)); rintro e w' ⟨rfl, hi, hb, hk⟩; refine ⟨_, rfl, ?_⟩; replace a4 := Aside0.mk (Kd.S_mono (Kd.S_keep (IsS70.apartS (show IsS70 w0 _ g s0_0 e4 from by repeat (first | (with_reducible first | exact b2.out | apply IsS70.alloc | apply IsS70.drewN | apply IsS70.drew | apply IsS70.set_1 | refine IsS70.far ?_ a7.out _ | refine IsS70.far ?_ a6.out _) | exact b2.out)) z4_7 z4_27) hk (fun _ h => h.2)) (fun _ h => h.1)); replace a3 := Aside0.mk (Kd.Q_mono (Kd.Q_keep (IsS70.apartQ (show IsS70 w0 _ g s0_0 e4 from by repeat (first | (with_reducible first | exact b2.out | apply IsS70.alloc | apply IsS70.drewN | apply IsS70.drew | apply IsS70.set_1 | refine IsS70.far ?_ a7.out _ | refine IsS70.far ?_ a6.out _) | exact b2.out)) z4_6 z4_27) hk (fun _ h => h.2)) (fun _ h => h.1)); replace a8 := Aside0.mk (KeepBut.blk hk (g' := b1) (o := .cells #[.slice none 0 0, .slice none 0 0] 26 (0, 0)) z4_2 b7.out (by simp)); replace a0 := Aside0.mk (KeepBut.blk hk (g' := a9) (o := .cells #[u241000, u241001] 26 (0, 0)) z4_4 b3.out (by simp)); replace HK := Aside0.mk (KeepBut.trans z4_0 hk (.inl rfl)); replace HB := Aside0.mk (hb); replace b2 := Aside0.mk (hi); (try clear hb); (try clear hb2); (try clear hk); (try clear hi)) | ((with_reducible refine gate_callee (f := 76) rfl ?_); refine gl_ (some 90) Try.func76 #[.pointer (some ⟨g, 0, none⟩), .int .i64 4] ?_; (with_reducible refine (spec_l20Rd_pick.calls e6 g s0_0 e7 4 l5 g4 w0 _ ?side1 ?side2 u5.out).mono ?_); (case side1 => repeat (first | (with_reducible first | exact b2.out | apply IsS70.alloc | apply IsS70.drewN | apply IsS70.drew | apply IsS70.set_1 | refine IsS70.far ?_ a7.out _ | refine IsS70.far ?_ a6.out _) | exact b2.out)); (case side2 => repeat (first | (with_reducible first | exact HB.out | apply below_alloc | apply pw_below_drewN | apply below_drew1 | refine below_set ?_ (IsS70.ge b2.out) | refine below_set ?_ d2.out | refine below_set ?_ d3.out) | exact HB.out)); rintro e Y7 ⟨rfl, hi, hb, hk⟩; refine ⟨_, rfl, ?_⟩; replace a4 := Aside0.mk (Kd.S_mono (Kd.S_keep (IsS70.apartS (show IsS70 w0 _ g s0_0 e7 from by repeat (first | (with_reducible first | exact b2.out | apply IsS70.alloc | apply IsS70.drewN | apply IsS70.drew | apply IsS70.set_1 | refine IsS70.far ?_ a7.out _ | refine IsS70.far ?_ a6.out _) | exact b2.out)) z4_7 z4_27) hk (fun _ h => h.2)) (fun _ h => h.1)); replace a3 := Aside0.mk (Kd.Q_mono (Kd.Q_keep (IsS70.apartQ (show IsS70 w0 _ g s0_0 e7 from by repeat (first | (with_reducible first | exact b2.out | apply IsS70.alloc | apply IsS70.drewN | apply IsS70.drew | apply IsS70.set_1 | refine IsS70.far ?_ a7.out _ | refine IsS70.far ?_ a6.out _) | exact b2.out)) z4_6 z4_27) hk (fun _ h => h.2)) (fun _ h => h.1)); replace a8 := Aside0.mk (KeepBut.blk hk (g' := b1) (o := .cells #[.slice none 0 0, .slice none 0 0] 26 (0, 0)) z4_2 b7.out (by simp)); replace a0 := Aside0.mk (KeepBut.blk hk (g' := a9) (o := .cells #[u241000, u241001] 26 (0, 0)) z4_4 b3.out (by simp)); replace HK := Aside0.mk (KeepBut.trans z4_0 hk (.inl rfl)); replace HB := Aside0.mk (hb); replace b2 := Aside0.mk (hi); (try clear hb); (try clear hb2); (try clear hk); (try clear hi)))
           replace a4 := Aside0.mk (Kd.S_drew a4.out)
           replace a3 := Aside0.mk (Kd.Q_drew a3.out)
           replace a8 := Aside0.mk (blk_drew a8.out)
           replace a0 := Aside0.mk (blk_drew a0.out)
           replace b2 := Aside0.mk (IsS70.drew b2.out)
           replace HK := Aside0.mk (keep_drew HK.out)
           replace HB := Aside0.mk (below_drew1 HB.out)
           obtain ⟨u8, f1, B6, _⟩ := Kd.Q_slice a3.out
           (first | subst B6 | (injection B6 with f1_ f2_ f3_; have f4_ := f1_.symm; have f5_ := f3_.symm; clear f1_ f2_ f3_; subst f4_; subst f5_))
           refine start_ (n := 15) (S := fun w' => w'.cell? ⟨a9, 0, none⟩ = some (u241000) ∧ w'.cell? ⟨a9, 1, none⟩ = some (.slice u8 a5.length f1)) (ds := [14]) (bA 15 0) (by kernel_rfl) rfl rfl ⟨(blk_cell a0.out 0).trans rfl, (blk_cell a0.out 1).trans rfl⟩ (fun hHeld => ?_); refine with_tabW spec_l20Logic.tab39 spec_l20Logic.bits39 (fun HT_ HW_ => ?_)
           generalize Y7.drew = b2d at a4 a3 a8 a0 b2 HK HB hHeld ⊢
           refine pu_ (i := 0) (N := some 111) (bA 15 1) ?_
           refine pu_ (i := 2) (N := some 113) (bA 15 5) ?_
           refine pu_ (i := 3) (N := some 114) (bA 15 13) ?_
           refine pu_ (i := 7) (N := some 118) (bA 15 141) ?_
           refine pu_ (i := 8) (N := some 119) (bA 15 397) ?_
           refine tk_ (i := 1) (N := some 112) (bA 15 399) ?_
           refine tk_ (i := 4) (N := some 115) (bA 15 415) ?_
           refine pu_ (i := 5) (N := some 116) (bA 15 447) ?_
           refine tk_ (i := 9) (N := some 120) (bA 15 959) ?_
           refine pu_ (i := 10) (N := some 121) (bA 15 1983) ?_
           refine pu_ (i := 11) (N := some 122) (bA 15 4031) ?_
           refine one_ (i := 6) (N := some 117) (bA 15 4095) rfl rfl (one_of HT_.out (by kernel_rfl)) z4_27 (fun K hK => ?_)
           refine ge_ Try.func76 #[.pointer (some ⟨g, 0, none⟩), .int .i64 (a5.length : Int)] ?_
           with_reducible refine (spec_l20Rd_pick.calls e6 g s0_0 g4 (a5.length : Int) e2 y5 w0 _ ?side1 ?side2 Y3.out).mono ?_
           (case side1 => repeat (first | (with_reducible first | exact b2.out | apply IsS70.alloc | apply IsS70.drewN | apply IsS70.drew | apply IsS70.set_1 | refine IsS70.far ?_ a7.out _ | refine IsS70.far ?_ a6.out _) | exact b2.out))
           (case side2 => repeat (first | (with_reducible first | exact HB.out | apply below_alloc | apply pw_below_drewN | apply below_drew1 | refine below_set ?_ (IsS70.ge b2.out) | refine below_set ?_ d2.out | refine below_set ?_ d3.out) | exact HB.out))
           rintro e w' ⟨rfl, hi, hb, hk⟩
           refine ⟨_, rfl, ?_⟩
           replace a4 := Aside0.mk (Kd.S_mono (Kd.S_keep (IsS70.apartS (show IsS70 w0 _ g s0_0 g4 from by repeat (first | (with_reducible first | exact b2.out | apply IsS70.alloc | apply IsS70.drewN | apply IsS70.drew | apply IsS70.set_1 | refine IsS70.far ?_ a7.out _ | refine IsS70.far ?_ a6.out _) | exact b2.out)) z4_7 z4_27) hk (fun _ h => h.2)) (fun _ h => h.1))
           replace a3 := Aside0.mk (Kd.Q_mono (Kd.Q_keep (IsS70.apartQ (show IsS70 w0 _ g s0_0 g4 from by repeat (first | (with_reducible first | exact b2.out | apply IsS70.alloc | apply IsS70.drewN | apply IsS70.drew | apply IsS70.set_1 | refine IsS70.far ?_ a7.out _ | refine IsS70.far ?_ a6.out _) | exact b2.out)) z4_6 z4_27) hk (fun _ h => h.2)) (fun _ h => h.1))
           replace a8 := Aside0.mk (KeepBut.blk hk (g' := b1) (o := .cells #[.slice none 0 0, .slice none 0 0] 26 (0, 0)) z4_2 b7.out (by simp))
           replace a0 := Aside0.mk (KeepBut.blk hk (g' := a9) (o := .cells #[u241000, .slice u8 a5.length f1] 26 (0, 0)) z4_4 b3.out (by simp))
           replace HK := Aside0.mk (KeepBut.trans z4_0 hk (.inl rfl))
           replace HB := Aside0.mk (hb)
           replace b2 := Aside0.mk (hi)
           (try clear hb)
           (try clear hb2)
           (try clear hk)
           (try clear hi)
           refine hK.out _ _ ⟨(blk_cell a0.out 0).trans rfl, (blk_cell a0.out 1).trans rfl⟩ (fun hHeld => ?_)
           clear hK K
           refine no_ (N := some 117) ?_
           refine one_ (i := 12) (N := some 123) (bA 15 8191) rfl rfl (one_of HT_.out (by kernel_rfl)) z4_27 (fun K hK => ?_)
           refine ge_ Try.func76 #[.pointer (some ⟨g, 0, none⟩), .int .i64 (wrap64 ((a5.length : Int) + 1))] ?_
           with_reducible refine (spec_l20Rd_pick.calls e6 g s0_0 y5 (wrap64 ((a5.length : Int) + 1)) f8 I4 w0 _ ?side1 ?side2 Y4.out).mono ?_
           (case side1 => repeat (first | (with_reducible first | exact b2.out | apply IsS70.alloc | apply IsS70.drewN | apply IsS70.drew | apply IsS70.set_1 | refine IsS70.far ?_ a7.out _ | refine IsS70.far ?_ a6.out _) | exact b2.out))
           (case side2 => repeat (first | (with_reducible first | exact HB.out | apply below_alloc | apply pw_below_drewN | apply below_drew1 | refine below_set ?_ (IsS70.ge b2.out) | refine below_set ?_ d2.out | refine below_set ?_ d3.out) | exact HB.out))
           rintro e l2 ⟨rfl, hi, hb, hk⟩
           refine ⟨_, rfl, ?_⟩
           replace a4 := Aside0.mk (Kd.S_mono (Kd.S_keep (IsS70.apartS (show IsS70 w0 _ g s0_0 y5 from by repeat (first | (with_reducible first | exact b2.out | apply IsS70.alloc | apply IsS70.drewN | apply IsS70.drew | apply IsS70.set_1 | refine IsS70.far ?_ a7.out _ | refine IsS70.far ?_ a6.out _) | exact b2.out)) z4_7 z4_27) hk (fun _ h => h.2)) (fun _ h => h.1))
           replace a3 := Aside0.mk (Kd.Q_mono (Kd.Q_keep (IsS70.apartQ (show IsS70 w0 _ g s0_0 y5 from by repeat (first | (with_reducible first | exact b2.out | apply IsS70.alloc | apply IsS70.drewN | apply IsS70.drew | apply IsS70.set_1 | refine IsS70.far ?_ a7.out _ | refine IsS70.far ?_ a6.out _) | exact b2.out)) z4_6 z4_27) hk (fun _ h => h.2)) (fun _ h => h.1))
           replace a8 := Aside0.mk (KeepBut.blk hk (g' := b1) (o := .cells #[.slice none 0 0, .slice none 0 0] 26 (0, 0)) z4_2 b7.out (by simp))
           replace a0 := Aside0.mk (KeepBut.blk hk (g' := a9) (o := .cells #[u241000, .slice u8 a5.length f1] 26 (0, 0)) z4_4 b3.out (by simp))
           replace HK := Aside0.mk (KeepBut.trans z4_0 hk (.inl rfl))
           replace HB := Aside0.mk (hb)
           replace b2 := Aside0.mk (hi)
           (try clear hb)
           (try clear hb2)
           (try clear hk)
           (try clear hi)
           have I5 : 0 ≤ (e2 : Int) := of_decide_eq_true z4_10
           have q182 : (e2 : Int) < ((a5.length : Int) : Int) := of_decide_eq_true z4_10
           obtain ⟨go182, oo182, b0y, B7, B8, gl182, cl182, HG182⟩ := Kd.Q_form a3.out (by omega)
           (first | cases B7 | (injection B7 with ea_ en_ ec_; (first | subst ea_ | (injection ea_ with ea_; subst ea_)); subst ec_; clear en_))
           have GB182 := Aside0.mk B8
           have GG182 := Aside0.mk HG182
           clear B8 gl182 HG182
           obtain ⟨hx182_0, hf182_0⟩ := Kd.Q_cell 0 a3.out (e2 : Int) I5 q182
           replace I5 := eq_true I5
           replace q182 := eq_true q182
           have HN0_go182 := Aside0.mk (show g ≠ go182 from by have h_ := IsS70.own_neQ b2.out a3.out z4_27; intro e_; exact h_ (by rw [e_]; rfl))
           have HP189 := (Kd.Q_putg a3.out (e2 : Int) (of_decide_eq_true z4_10) (by have h_ : (e2 : Int) < ((a5.length : Int) : Int) := of_decide_eq_true z4_10; first | exact h_ | (have e_ := (Kd.Q_reads' a3.out).1; omega) | simpa using h_) f8).1
           rw [← Ny377.out] at HP189
           have HQ189 := Aside0.mk HP189
           clear HP189
           refine hK.out _ _ ⟨(blk_cell a0.out 0).trans rfl, (blk_cell a0.out 1).trans rfl⟩ (fun hHeld => ?_)
           clear hK K
           refine no_ (N := some 123) ?_
           refine pu_ (i := 13) (N := some 124) (bA 15 16383) ?_
           refine last_ (i := 14) (N := none) (bA 15 32767) rfl rfl (one_of HT_.out (by kernel_rfl)) z4_27 (fun K hK => ?_)
           refine skip_ (w1 := ?_) (by rfl) rfl ?_ ?_
           rotate_left
           ·
            go_simp
            rfl
           refine hK.out _ _ ?_
           clear hK K
           refine done_ (done_of HT_.out (by kernel_rfl)) ?_
           have n0_ : Aside0 (Kd.S (Kd.slice 3 (Kd.int .i64)) 24 (l2.setCell ⟨go182, oo182 + (e2 : Int).toNat, none⟩ (.int .i64 f8)) w.heap.size (fun k_ => some k_ ≠ (.slice (some ⟨go182, oo182, none⟩) a5.length f1 : Value).ownBlock) u241000 a2) := ⟨by (with_reducible repeat (first | apply Kd.S_alloc | apply Kd.S_drewN | apply Kd.S_drew)); exact Kd.S_mono (Kd.S_far (p := ⟨go182, oo182 + (e2 : Int).toNat, none⟩) (Kd.S_mono a4.out (fun k_ hk => (⟨hk, fun e_ => hk (by rw [e_]; rfl)⟩ : _ ∧ k_ ≠ go182))) (fun _ hk => hk.2) (.int .i64 f8)) (fun _ hk => hk.1)⟩
           have n1_ : Aside0 (Kd.Q (Kd.int .i64) 3 (l2.setCell ⟨go182, oo182 + (e2 : Int).toNat, none⟩ (.int .i64 f8)) w.heap.size (fun _ => True) (.slice (some ⟨go182, oo182, none⟩) a5.length f1) y377) := ⟨by (with_reducible repeat (first | apply Kd.Q_alloc | apply Kd.Q_drewN | apply Kd.Q_drew)); exact HQ189.out⟩
           have n2_ : Aside0 ((l2.setCell ⟨go182, oo182 + (e2 : Int).toNat, none⟩ (.int .i64 f8)).heap[b1]? = some (.cells #[.slice none 0 0, .slice none 0 0] 26 (0, 0))) := ⟨by (with_reducible repeat (first | refine blk_drewN ?_ _ | refine blk_drew ?_ | refine blk_alloc ?_ _)); refine blk_far ?_ (by have h_ := Kd.Q_ne a3.out a8.out z4_27; intro e_; exact h_ (by rw [e_]; rfl)) _; (with_reducible repeat (first | refine blk_drewN ?_ _ | refine blk_drew ?_ | refine blk_alloc ?_ _)); exact a8.out⟩
           have n3_ : Aside0 ((l2.setCell ⟨go182, oo182 + (e2 : Int).toNat, none⟩ (.int .i64 f8)).heap[a9]? = some (.cells #[u241000, .slice (some ⟨go182, oo182, none⟩) a5.length f1] 26 (0, 0))) := ⟨by (with_reducible repeat (first | refine blk_drewN ?_ _ | refine blk_drew ?_ | refine blk_alloc ?_ _)); refine blk_far ?_ (by have h_ := Kd.Q_ne a3.out a0.out z4_27; intro e_; exact h_ (by rw [e_]; rfl)) _; (with_reducible repeat (first | refine blk_drewN ?_ _ | refine blk_drew ?_ | refine blk_alloc ?_ _)); exact a0.out⟩
           have n4_ : Aside0 (IsS70 w0 (l2.setCell ⟨go182, oo182 + (e2 : Int).toNat, none⟩ (.int .i64 f8)) g s0_0 I4) := ⟨by repeat (first | (with_reducible first | exact b2.out | apply IsS70.alloc | apply IsS70.drewN | apply IsS70.drew | apply IsS70.set_1 | refine IsS70.far ?_ HN0_go182.out _ | refine IsS70.far ?_ a7.out _ | refine IsS70.far ?_ a6.out _) | exact b2.out)⟩
           have n5_ : Aside0 (KeepBut w (l2.setCell ⟨go182, oo182 + (e2 : Int).toNat, none⟩ (.int .i64 f8)) g none) := ⟨by repeat (first | (with_reducible first | exact HK.out | apply KeepBut.set_ | apply keep_drewN | apply keep_drew | apply keep_alloc | refine keep_far ?_ GB182.out _ | refine keep_far ?_ f4.out _ | refine keep_far ?_ g1.out _) | exact HK.out)⟩
           have n6_ : Aside0 (Below w0.heap.size w0 (l2.setCell ⟨go182, oo182 + (e2 : Int).toNat, none⟩ (.int .i64 f8))) := ⟨by repeat (first | (with_reducible first | exact HB.out | apply below_alloc | apply pw_below_drewN | apply below_drew1 | refine below_set ?_ (Nat.le_trans HL.out GB182.out) | refine below_set ?_ (IsS70.ge b2.out) | refine below_set ?_ d2.out | refine below_set ?_ d3.out) | exact HB.out)⟩
           (try clear a4)
           (try clear a3)
           (try clear a8)
           (try clear a0)
           (try clear b2)
           (try clear HK)
           (try clear HB)
           generalize (l2.setCell ⟨go182, oo182 + (e2 : Int).toNat, none⟩ (.int .i64 f8)) = b2e at n0_ n1_ n2_ n3_ n4_ n5_ n6_ ⊢
           have a4 := n0_
           have a3 := n1_
           have a8 := n2_
           have a0 := n3_
           have b2 := n4_
           have HK := n5_
           have HB := n6_
           clear n0_ n1_ n2_ n3_ n4_ n5_ n6_
           have Y8 := b6.out
           have Y9 := b4.out
           have Z0 := b3.out
           have Z1 := a6.out
           have b8 := cz20 a0.out
           have b9 := cz21 a0.out
           have d0 := blk_frozen a0.out 0
           have d1 := blk_frozen a0.out 1
           obtain ⟨m8, m9, K9⟩ := Kd.S_slice a4.out
           subst K9
           have Z2 := b7.out
           have Z3 := a7.out
           have b8 := cz20 a8.out
           have b9 := cz21 a8.out
           have d0 := blk_frozen a8.out 0
           have d1 := blk_frozen a8.out 1
           try go_wp2
           refine bodyPost_ret (results_cell_row rfl _ _ b1 26 #[.slice m8 a2.length m9, .slice (some ⟨go182, oo182, none⟩) a5.length f1] (0, 0) _ rfl (by (with_reducible repeat (first | refine blk_drewN ?_ _ | refine blk_drew ?_ | refine blk_alloc ?_ _)); refine blk_put (cs := #[.slice m8 a2.length m9, .slice none 0 0]) ?_ 1 _ rfl; (with_reducible repeat (first | refine blk_drewN ?_ _ | refine blk_drew ?_ | refine blk_alloc ?_ _)); refine blk_put (cs := #[.slice none 0 0, .slice none 0 0]) ?_ 0 _ rfl; (with_reducible repeat (first | refine blk_drewN ?_ _ | refine blk_drew ?_ | refine blk_alloc ?_ _)); exact a8.out) Try.underlying26 rfl (by kernel_rfl)) rfl ?_
           exact ⟨_, _, by first | rfl | (simp [errW_none, errW_some] <;> rfl) | (simp [*, errW_none, errW_some] <;> rfl), by (with_reducible repeat (first | apply Kd.S_alloc | apply Kd.S_drewN | apply Kd.S_drew)); exact Kd.S_mono (Kd.S_far (p := ⟨b1, 1, none⟩) (Kd.S_far (p := ⟨b1, 0, none⟩) (Kd.S_types a4.out a8.out z4_27) (fun _ hk => hk.2) (.slice m8 a2.length m9)) (fun _ hk => hk.2) (.slice (some ⟨go182, oo182, none⟩) a5.length f1)) (fun _ hk => hk.1), by (with_reducible repeat (first | apply Kd.Q_alloc | apply Kd.Q_drewN | apply Kd.Q_drew)); exact Kd.Q_mono (Kd.Q_far (p := ⟨b1, 1, none⟩) (Kd.Q_far (p := ⟨b1, 0, none⟩) (Kd.Q_types a3.out a8.out z4_27) (fun _ hk => hk.2) (.slice m8 a2.length m9)) (fun _ hk => hk.2) (.slice (some ⟨go182, oo182, none⟩) a5.length f1)) (fun _ hk => trivial), by repeat (first | (with_reducible first | exact b2.out | apply IsS70.alloc | apply IsS70.drewN | apply IsS70.drew | apply IsS70.set_1 | refine IsS70.far ?_ a7.out _ | refine IsS70.far ?_ a6.out _) | exact b2.out), by repeat (first | (with_reducible first | exact HB.out | apply below_alloc | apply pw_below_drewN | apply below_drew1 | refine below_set ?_ (IsS70.ge b2.out) | refine below_set ?_ d2.out | refine below_set ?_ d3.out) | exact HB.out), by repeat (first | (with_reducible first | exact HK.out | apply KeepBut.set_ | apply keep_drewN | apply keep_drew | apply keep_alloc | refine keep_far ?_ f4.out _ | refine keep_far ?_ g1.out _) | exact HK.out)⟩
          rw [if_neg y7] at H
          exact absurd H (by simp)
         rw [if_neg y6] at H
         exact absurd H (by simp)
        rw [if_neg l8] at H
        have I2 := bv_ l8
        have I3 := bw_ l8
        obtain ⟨ji197, hji197⟩ : ∃ j_ : Int, (wrap64 ((a2.length : Int) - 1)) = j_ := ⟨_, rfl⟩
        replace H : (if 0 ≤ (ji197) then (if (ji197) < (a2.length : Int) then (if 0 < ((rd_L1 a2 (ji197)).length : Int) then (some ((a2.set ((ji197) : Int).toNat ((rd_L1 a2 (ji197)).set (0 : Int).toNat 1)), a5, g4)) else (none)) else (none)) else (none)) = some (r1, r2, r3) := by first | (rw [hji197] at H; exact H) | (simp only [hji197] at H ⊢; exact H)
        (try rw [hji197] at o2)
        (try rw [hji197] at u5)
        have hji197w : (IntKind.i64.wrap ((a2.length : Int) - 1)) = ji197 := (i64_w _).trans hji197
        by_cases y8 : 0 ≤ (ji197)
        ·
         rw [if_pos y8] at H
         have Z4 : decide (0 ≤ (ji197)) = true := decide_eq_true y8
         clear y8
         by_cases y9 : (ji197) < (a2.length : Int)
         ·
          rw [if_pos y9] at H
          have Z5 : decide ((ji197) < (a2.length : Int)) = true := decide_eq_true y9
          clear y9
          by_cases z0 : 0 < ((rd_L1 a2 (ji197)).length : Int)
          ·
           rw [if_pos z0] at H
           have Z6 : decide (0 < ((rd_L1 a2 (ji197)).length : Int)) = true := decide_eq_true z0
           have Z7 : decide (0 < (rd_L1 a2 (ji197)).length) = true := decide_eq_true (by omega)
           clear z0
           obtain ⟨y379, hy379⟩ : ∃ y_ : List Int, y_ = ((rd_L1 a2 (ji197)).set (0 : Int).toNat 1) := ⟨_, rfl⟩
           replace H : (some ((a2.set ((ji197) : Int).toNat y379), a5, g4)) = some (r1, r2, r3) := by first | (rw [hy379]; with_reducible exact H) | (have H2_ := (Option.bind_some _ _).symm.trans H; rw [hy379]; with_reducible exact H2_) | (have H2_ := (Option.bind_some _ _).symm.trans H; with_reducible exact H2_) | with_reducible exact H | (rw [hy379]; exact H) | exact H
           have Ny379 := Aside0.mk hy379
           clear hy379
           obtain ⟨y381, hy381⟩ : ∃ y_ : List (List Int), y_ = (a2.set ((ji197) : Int).toNat y379) := ⟨_, rfl⟩
           replace H : (some (y381, a5, g4)) = some (r1, r2, r3) := by first | (rw [hy381]; with_reducible exact H) | (have H2_ := (Option.bind_some _ _).symm.trans H; rw [hy381]; with_reducible exact H2_) | (have H2_ := (Option.bind_some _ _).symm.trans H; with_reducible exact H2_) | with_reducible exact H | (rw [hy381]; exact H) | exact H
           have Ny381 := Aside0.mk hy381
           clear hy381
           simp only [Option.some.injEq, Prod.mk.injEq] at H
           obtain ⟨rfl, rfl, rfl⟩ := H
           go_wp2_with (first | ((with_reducible refine gate_callee (f := 82) rfl ?_); refine gl_ (some 88) Try.func82 #[.pointer (some ⟨g, 0, none⟩), .int .i64 a1] ?_; (with_reducible refine (spec_l20Rd_odd.calls e6 g s0_0 e4 a1 true e7 w0 _ ?side1 ?side2 o2.out).mono ?_); (case side1 => repeat (first | (with_reducible first | exact b2.out | apply IsS70.alloc | apply IsS70.drewN | apply IsS70.drew | apply IsS70.set_1 | refine IsS70.far ?_ a7.out _ | refine IsS70.far ?_ a6.out _) | exact b2.out)); (case side2 => repeat (first | (with_reducible first | exact HB.out | apply below_alloc | apply pw_below_drewN | apply below_drew1 | refine below_set ?_ (IsS70.ge b2.out) | refine below_set ?_ d2.out | refine below_set ?_ d3.out) | exact HB.out)); rintro e w' ⟨rfl, hi, hb, hk⟩; refine ⟨_, rfl, ?_⟩; replace a4 := Aside0.mk (Kd.S_mono (Kd.S_keep (IsS70.apartS (show IsS70 w0 _ g s0_0 e4 from by repeat (first | (with_reducible first | exact b2.out | apply IsS70.alloc | apply IsS70.drewN | apply IsS70.drew | apply IsS70.set_1 | refine IsS70.far ?_ a7.out _ | refine IsS70.far ?_ a6.out _) | exact b2.out)) z4_7 z4_27) hk (fun _ h => h.2)) (fun _ h => h.1)); replace a3 := Aside0.mk (Kd.Q_mono (Kd.Q_keep (IsS70.apartQ (show IsS70 w0 _ g s0_0 e4 from by repeat (first | (with_reducible first | exact b2.out | apply IsS70.alloc | apply IsS70.drewN | apply IsS70.drew | apply IsS70.set_1 | refine IsS70.far ?_ a7.out _ | refine IsS70.far ?_ a6.out _) | exact b2.out)) z4_6 z4_27) hk (fun _ h => h.2)) (fun _ h => h.1)); replace a8 := Aside0.mk (KeepBut.blk hk (g' := b1) (o := .cells #[.slice none 0 0, .slice none 0 0] 26 (0, 0)) z4_2 b7.out (by simp)); replace a0 := Aside0.mk (KeepBut.blk hk (g' := a9) (o := .cells #[u241000, u241001] 26 (0, 0)) z4_4 b3.out (by simp)); replace HK := Aside0.mk (KeepBut.trans z4_0 hk (.inl rfl)); replace HB := Aside0.mk (hb); replace b2 := Aside0.mk (hi); (try clear hb); (try clear hb2); (try clear hk); (try clear hi)) | ((with_reducible refine gate_callee (f := 76) rfl ?_); refine gl_ (some 90) Try.func76 #[.pointer (some ⟨g, 0, none⟩), .int .i64 4] ?_; (with_reducible refine (spec_l20Rd_pick.calls e6 g s0_0 e7 4 l5 g4 w0 _ ?side1 ?side2 u5.out).mono ?_); (case side1 => repeat (first | (with_reducible first | exact b2.out | apply IsS70.alloc | apply IsS70.drewN | apply IsS70.drew | apply IsS70.set_1 | refine IsS70.far ?_ a7.out _ | refine IsS70.far ?_ a6.out _) | exact b2.out)); (case side2 => repeat (first | (with_reducible first | exact HB.out | apply below_alloc | apply pw_below_drewN | apply below_drew1 | refine below_set ?_ (IsS70.ge b2.out) | refine below_set ?_ d2.out | refine below_set ?_ d3.out) | exact HB.out)); rintro e L0 ⟨rfl, hi, hb, hk⟩; refine ⟨_, rfl, ?_⟩; replace a4 := Aside0.mk (Kd.S_mono (Kd.S_keep (IsS70.apartS (show IsS70 w0 _ g s0_0 e7 from by repeat (first | (with_reducible first | exact b2.out | apply IsS70.alloc | apply IsS70.drewN | apply IsS70.drew | apply IsS70.set_1 | refine IsS70.far ?_ a7.out _ | refine IsS70.far ?_ a6.out _) | exact b2.out)) z4_7 z4_27) hk (fun _ h => h.2)) (fun _ h => h.1)); replace a3 := Aside0.mk (Kd.Q_mono (Kd.Q_keep (IsS70.apartQ (show IsS70 w0 _ g s0_0 e7 from by repeat (first | (with_reducible first | exact b2.out | apply IsS70.alloc | apply IsS70.drewN | apply IsS70.drew | apply IsS70.set_1 | refine IsS70.far ?_ a7.out _ | refine IsS70.far ?_ a6.out _) | exact b2.out)) z4_6 z4_27) hk (fun _ h => h.2)) (fun _ h => h.1)); replace a8 := Aside0.mk (KeepBut.blk hk (g' := b1) (o := .cells #[.slice none 0 0, .slice none 0 0] 26 (0, 0)) z4_2 b7.out (by simp)); replace a0 := Aside0.mk (KeepBut.blk hk (g' := a9) (o := .cells #[u241000, u241001] 26 (0, 0)) z4_4 b3.out (by simp)); replace HK := Aside0.mk (KeepBut.trans z4_0 hk (.inl rfl)); replace HB := Aside0.mk (hb); replace b2 := Aside0.mk (hi); (try clear hb); (try clear hb2); (try clear hk); (try clear hi); have Z8 := b6.out; have Z9 := b4.out; have b00 := b3.out; have b01 := a6.out; have b8 := cz20 a0.out; have b9 := cz21 a0.out; have d0 := blk_frozen a0.out 0; have d1 := blk_frozen a0.out 1; obtain ⟨b0z, i0, L1⟩ := Kd.S_slice a4.out; subst L1; have z1 : 0 ≤ ((ji197) : Int) := of_decide_eq_true z4_10; have q378 : (ji197) < (a2.length : Int) := of_decide_eq_true z4_10; obtain ⟨ad378, b02, I6, e378, hx378_0, hl378_0, hi378_0⟩ := at_L1 (Kd.S_reads' a4.out).2.2 (ji197) z1 q378; cases e378; obtain ⟨ce378, hce378, hMe378, hcc378⟩ := Kd.S_get a4.out [] (ji197) z1 (by first | exact q378 | exact of_decide_eq_true z4_10 | (have e_ := (Kd.S_reads' a4.out).1; omega)); obtain ⟨ve378_0, rfl, ge378_0⟩ := hMe378; have hv378_0 := hcc378 0 _ rfl; rw [Nat.add_zero, show ((Kd.slice 3 (Kd.int .i64))).sz = 1 from rfl, Nat.mul_one] at hv378_0; replace hv378_0 := Option.some.inj (hv378_0.symm.trans hx378_0); rw [hv378_0] at ge378_0; have HL378_0 := Aside0.mk (show Kd.R (Kd.int .i64) 3 _ _ _ _ (rd_L1 a2 (ji197)) from ge378_0); clear hv378_0 ge378_0; have HX378_0 := Aside0.mk hx378_0; clear hcc378 hce378; have HR378_0 := Aside0.mk hi378_0; have L7 := Aside0.mk hl378_0; clear hi378_0 hl378_0; replace z1 := eq_true z1; replace q378 := eq_true q378; have I7 : 0 ≤ (0 : Int) := (by omega); have q201 : (0 : Int) < (((rd_L1 a2 (ji197)).length : Int) : Int) := of_decide_eq_true z4_10; have qi201 : (0 < (rd_L1 a2 (ji197)).length) = True := eq_true (by omega); obtain ⟨go201, b10, B9, C0, gl201, cl201, HG201⟩ := Kd.R_form HL378_0.out (by omega); (first | cases B9 | (injection B9 with ea_ en_ ec_; (first | subst ea_ | (injection ea_ with ea_; subst ea_)); subst ec_; clear en_)); have GB201 := Aside0.mk C0; have GG201 := Aside0.mk HG201; clear C0 gl201 HG201; obtain ⟨hx201_0, hf201_0⟩ := Kd.R_celln 0 HL378_0.out (0 : Int) I7 q201; (try rw [show ((0 : Int)).toNat = 0 from rfl] at hx201_0); (try simp only [Nat.reduceMul, Nat.zero_mul, Nat.zero_add, Nat.reduceAdd] at hx201_0); (try rw [show ((0 : Int)).toNat = 0 from rfl] at hf201_0); (try simp only [Nat.reduceMul, Nat.zero_mul, Nat.zero_add, Nat.reduceAdd] at hf201_0); replace I7 := eq_true I7; replace q201 := eq_true q201; have hq208 : ((ji197) : Int) < (a2.length : Int) := (by have h_ : ((ji197) : Int) < ((a2.length : Int) : Int) := of_decide_eq_true z4_10; first | exact h_ | (have e_ := (Kd.S_reads' a4.out).1; omega) | simpa only [List.length_set, List.length_set] using h_); obtain ⟨oki208, ce208, hcl208, hM208, hcc208, hok208, hbk208⟩ := Kd.S_borrow a4.out [] ((ji197) : Int) (of_decide_eq_true z4_10) hq208; obtain ⟨ve208_0, rfl, ge208_0⟩ := hM208; have hv208 := hcc208 0 _ rfl; rw [Nat.add_zero, show ((Kd.slice 3 (Kd.int .i64))).sz = 1 from rfl, Nat.mul_one] at hv208; replace hv208 := Option.some.inj (hv208.symm.trans HX378_0.out); subst hv208; clear hcc208 hcl208; replace ge208_0 := (show Kd.R (Kd.int .i64) 3 _ _ _ _ (rd_L1 a2 (ji197)) from ge208_0); have HP208 := Kd.R_putg ge208_0 (0 : Int) 1) | ((with_reducible refine gate_store (t := 3) (p := 99) rfl ?_); refine store_event (t := 3) (p := 99) (v := ?vo_w209) (w1 := (L0.setCell ⟨go201, 0, none⟩ (.int .i64 1))) ?hg ?ho ?hn ?hr ?_; (case ho => rfl); (case hg => rfl); (case hn => rfl); (case hr => first | (go_simp; done) | (go_simp; rfl)); intro z2 hw; have hg : L0.grownBy z2 (some go201) := (by rw [hw]; exact HP208.2); have hz_ : Kd.R (Kd.int .i64) 3 z2 w.heap.size oki208 (.slice (some ⟨go201, 0, none⟩) (rd_L1 a2 (ji197)).length I6) y379 := (by rw [hw, Ny379.out]; exact HP208.1); have hp_ : Kd.S (Kd.slice 3 (Kd.int .i64)) 24 z2 w.heap.size (fun k_ => some k_ ≠ (u241001 : Value).ownBlock) (.slice (some ad378) a2.length i0) y381 := (by rw [Ny381.out]; exact hbk208 hg (fun k_ e_ => by injection e_ with e_; subst e_; exact ge208_0.1 _ rfl) (Kd.M_row hz_)); have hm_ := Kd.R_mono hz_ hok208; clear HP208 hbk208; replace a4 := Aside0.mk (hp_); replace a3 := Aside0.mk (Kd.Q_grown1 z4_6 rfl hg ((HL378_0.out.1 _ rfl).1)); replace a8 := Aside0.mk (blk_grown (g := b1) (o := .cells #[.slice none 0 0, .slice none 0 0] 26 (0, 0)) z4_2 hg (Kd.R_ne HL378_0.out a8.out z4_27)); replace a0 := Aside0.mk (blk_grown (g := a9) (o := .cells #[.slice (some ad378) a2.length i0, u241001] 26 (0, 0)) z4_4 hg (Kd.R_ne HL378_0.out a0.out z4_27)); replace b2 := Aside0.mk (IsS70.grown z4_1 hg (IsS70.own_ne b2.out HL378_0.out z4_27)); replace HB := Aside0.mk ((by rw [hw]; exact below_set (HB.out) (Nat.le_trans HL.out GB201.out) : Below w0.heap.size w0 z2)); replace HK := Aside0.mk (KeepBut.trans z4_0 (KeepBut.of_grown hg g) (Kd.R_base2 HL378_0.out)); have HL382 := Aside0.mk (hm_); have b11 := Aside0.mk ((Kd.R_reads' hm_).2.1); clear HL378_0; clear hg hw hp_ hz_ hm_ hok208; have b8 := cz20 a0.out; have b9 := cz21 a0.out; have d0 := blk_frozen a0.out 0; have d1 := blk_frozen a0.out 1; have b03 := b7.out; have b04 := a7.out; have b8 := cz20 a8.out; have b9 := cz21 a8.out; have d0 := blk_frozen a8.out 0; have d1 := blk_frozen a8.out 1; obtain ⟨u9, v0, L2, _⟩ := Kd.Q_slice a3.out; subst L2))
           refine bodyPost_ret (results_cell_row rfl _ _ b1 26 #[.slice (some ad378) a2.length i0, .slice u9 a5.length v0] (0, 0) _ rfl (by (with_reducible repeat (first | refine blk_drewN ?_ _ | refine blk_drew ?_ | refine blk_alloc ?_ _)); refine blk_put (cs := #[.slice (some ad378) a2.length i0, .slice none 0 0]) ?_ 1 _ rfl; (with_reducible repeat (first | refine blk_drewN ?_ _ | refine blk_drew ?_ | refine blk_alloc ?_ _)); refine blk_put (cs := #[.slice none 0 0, .slice none 0 0]) ?_ 0 _ rfl; (with_reducible repeat (first | refine blk_drewN ?_ _ | refine blk_drew ?_ | refine blk_alloc ?_ _)); exact a8.out) Try.underlying26 rfl (by kernel_rfl)) rfl ?_
           exact ⟨_, _, by first | rfl | (simp [errW_none, errW_some] <;> rfl) | (simp only [← hji197]; first | rfl | (simp [errW_none, errW_some] <;> rfl)) | (simp [*, errW_none, errW_some] <;> rfl), by (with_reducible repeat (first | apply Kd.S_alloc | apply Kd.S_drewN | apply Kd.S_drew)); exact Kd.S_mono (Kd.S_far (p := ⟨b1, 1, none⟩) (Kd.S_far (p := ⟨b1, 0, none⟩) (Kd.S_types a4.out a8.out z4_27) (fun _ hk => hk.2) (.slice (some ad378) a2.length i0)) (fun _ hk => hk.2) (.slice u9 a5.length v0)) (fun _ hk => hk.1), by (with_reducible repeat (first | apply Kd.Q_alloc | apply Kd.Q_drewN | apply Kd.Q_drew)); exact Kd.Q_mono (Kd.Q_far (p := ⟨b1, 1, none⟩) (Kd.Q_far (p := ⟨b1, 0, none⟩) (Kd.Q_types a3.out a8.out z4_27) (fun _ hk => hk.2) (.slice (some ad378) a2.length i0)) (fun _ hk => hk.2) (.slice u9 a5.length v0)) (fun _ hk => trivial), by repeat (first | (with_reducible first | exact b2.out | apply IsS70.alloc | apply IsS70.drewN | apply IsS70.drew | apply IsS70.set_1 | refine IsS70.far ?_ a7.out _ | refine IsS70.far ?_ a6.out _) | exact b2.out), by repeat (first | (with_reducible first | exact HB.out | apply below_alloc | apply pw_below_drewN | apply below_drew1 | refine below_set ?_ (IsS70.ge b2.out) | refine below_set ?_ d2.out | refine below_set ?_ d3.out) | exact HB.out), by repeat (first | (with_reducible first | exact HK.out | apply KeepBut.set_ | apply keep_drewN | apply keep_drew | apply keep_alloc | refine keep_far ?_ f4.out _ | refine keep_far ?_ g1.out _) | exact HK.out)⟩
          rw [if_neg z0] at H
          exact absurd H (by simp)
         rw [if_neg y9] at H
         exact absurd H (by simp)
        rw [if_neg y8] at H
        exact absurd H (by simp)
       replace y4 := Bool.eq_false_iff.mpr y4
       subst y4
       rw [if_neg nf_] at H
       simp only [Option.some.injEq, Prod.mk.injEq] at H
       obtain ⟨rfl, rfl, rfl⟩ := H
       go_wp2_with (first | ((with_reducible refine gate_callee (f := 82) rfl ?_); refine gl_ (some 88) Try.func82 #[.pointer (some ⟨g, 0, none⟩), .int .i64 a1] ?_; (with_reducible refine (spec_l20Rd_odd.calls e6 g s0_0 e4 a1 false e7 w0 _ ?side1 ?side2 o2.out).mono ?_); (case side1 => repeat (first | (with_reducible first | exact b2.out | apply IsS70.alloc | apply IsS70.drewN | apply IsS70.drew | apply IsS70.set_1 | refine IsS70.far ?_ a7.out _ | refine IsS70.far ?_ a6.out _) | exact b2.out)); (case side2 => repeat (first | (with_reducible first | exact HB.out | apply below_alloc | apply pw_below_drewN | apply below_drew1 | refine below_set ?_ (IsS70.ge b2.out) | refine below_set ?_ d2.out | refine below_set ?_ d3.out) | exact HB.out)); rintro e w' ⟨rfl, hi, hb, hk⟩; refine ⟨_, rfl, ?_⟩; replace a4 := Aside0.mk (Kd.S_mono (Kd.S_keep (IsS70.apartS (show IsS70 w0 _ g s0_0 e4 from by repeat (first | (with_reducible first | exact b2.out | apply IsS70.alloc | apply IsS70.drewN | apply IsS70.drew | apply IsS70.set_1 | refine IsS70.far ?_ a7.out _ | refine IsS70.far ?_ a6.out _) | exact b2.out)) z4_7 z4_27) hk (fun _ h => h.2)) (fun _ h => h.1)); replace a3 := Aside0.mk (Kd.Q_mono (Kd.Q_keep (IsS70.apartQ (show IsS70 w0 _ g s0_0 e4 from by repeat (first | (with_reducible first | exact b2.out | apply IsS70.alloc | apply IsS70.drewN | apply IsS70.drew | apply IsS70.set_1 | refine IsS70.far ?_ a7.out _ | refine IsS70.far ?_ a6.out _) | exact b2.out)) z4_6 z4_27) hk (fun _ h => h.2)) (fun _ h => h.1)); replace a8 := Aside0.mk (KeepBut.blk hk (g' := b1) (o := .cells #[.slice none 0 0, .slice none 0 0] 26 (0, 0)) z4_2 b7.out (by simp)); replace a0 := Aside0.mk (KeepBut.blk hk (g' := a9) (o := .cells #[u241000, u241001] 26 (0, 0)) z4_4 b3.out (by simp)); replace HK := Aside0.mk (KeepBut.trans z4_0 hk (.inl rfl)); replace HB := Aside0.mk (hb); replace b2 := Aside0.mk (hi); (try clear hb); (try clear hb2); (try clear hk); (try clear hi); have b05 := b6.out; have b06 := b4.out; have b07 := b3.out; have b08 := a6.out; have b8 := cz20 a0.out; have b9 := cz21 a0.out; have d0 := blk_frozen a0.out 0; have d1 := blk_frozen a0.out 1; obtain ⟨n0, n1, L3⟩ := Kd.S_slice a4.out; subst L3; have b09 := b7.out; have b0a := a7.out; have b8 := cz20 a8.out; have b9 := cz21 a8.out; have d0 := blk_frozen a8.out 0; have d1 := blk_frozen a8.out 1; obtain ⟨v2, v3, L4, _⟩ := Kd.Q_slice a3.out; subst L4))
       refine bodyPost_ret (results_cell_row rfl _ _ b1 26 #[.slice n0 a2.length n1, .slice v2 a5.length v3] (0, 0) _ rfl (by (with_reducible repeat (first | refine blk_drewN ?_ _ | refine blk_drew ?_ | refine blk_alloc ?_ _)); refine blk_put (cs := #[.slice n0 a2.length n1, .slice none 0 0]) ?_ 1 _ rfl; (with_reducible repeat (first | refine blk_drewN ?_ _ | refine blk_drew ?_ | refine blk_alloc ?_ _)); refine blk_put (cs := #[.slice none 0 0, .slice none 0 0]) ?_ 0 _ rfl; (with_reducible repeat (first | refine blk_drewN ?_ _ | refine blk_drew ?_ | refine blk_alloc ?_ _)); exact a8.out) Try.underlying26 rfl (by kernel_rfl)) rfl ?_
       exact ⟨_, _, by first | rfl | (simp [errW_none, errW_some] <;> rfl) | (simp [*, errW_none, errW_some] <;> rfl), by (with_reducible repeat (first | apply Kd.S_alloc | apply Kd.S_drewN | apply Kd.S_drew)); exact Kd.S_mono (Kd.S_far (p := ⟨b1, 1, none⟩) (Kd.S_far (p := ⟨b1, 0, none⟩) (Kd.S_types a4.out a8.out z4_27) (fun _ hk => hk.2) (.slice n0 a2.length n1)) (fun _ hk => hk.2) (.slice v2 a5.length v3)) (fun _ hk => hk.1), by (with_reducible repeat (first | apply Kd.Q_alloc | apply Kd.Q_drewN | apply Kd.Q_drew)); exact Kd.Q_mono (Kd.Q_far (p := ⟨b1, 1, none⟩) (Kd.Q_far (p := ⟨b1, 0, none⟩) (Kd.Q_types a3.out a8.out z4_27) (fun _ hk => hk.2) (.slice n0 a2.length n1)) (fun _ hk => hk.2) (.slice v2 a5.length v3)) (fun _ hk => trivial), by repeat (first | (with_reducible first | exact b2.out | apply IsS70.alloc | apply IsS70.drewN | apply IsS70.drew | apply IsS70.set_1 | refine IsS70.far ?_ a7.out _ | refine IsS70.far ?_ a6.out _) | exact b2.out), by repeat (first | (with_reducible first | exact HB.out | apply below_alloc | apply pw_below_drewN | apply below_drew1 | refine below_set ?_ (IsS70.ge b2.out) | refine below_set ?_ d2.out | refine below_set ?_ d3.out) | exact HB.out), by repeat (first | (with_reducible first | exact HK.out | apply KeepBut.set_ | apply keep_drewN | apply keep_drew | apply keep_alloc | refine keep_far ?_ f4.out _ | refine keep_far ?_ g1.out _) | exact HK.out)⟩

end Go.Proofs.Ytjgfpiilfnchnaa.P
