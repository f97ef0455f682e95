/- 5 texts of this seat joined: walks, and the laws of what they compute. -/
import Derived.Test.YtjgfpiilfnchnaaPk2
-- written by gen.py (a program of this session) out of the kit's print of this seat's translation
namespace Go.Proofs.Ytjgfpiilfnchnaa.P
open Go.RowKit Go.Proofs.YtjgfpiilfnchnaaW.PrintWords Go.Proofs.YtjgfpiilfnchnaaW.PrintLast Go.Proofs.YtjgfpiilfnchnaaW.PrintMore
attribute [local go_sem] max2_int min2_int max_two min_two max_three min_three max_four min_four
set_option linter.unusedVariables false
set_option linter.unusedSimpArgs false
def spec_l20Glued.T22 : Bool × List (List Nat × List Nat) := (true, [([], []), ([0], [0]), ([], []), ([2], [2]), ([], []), ([], []), ([4, 5], [4, 5]), ([6], [6]), ([3, 7], [3, 7]), ([8], [8]), ([], []), ([9, 10], [9, 10]), ([11], [11]), ([12], [12]), ([1, 13], [1, 13]), ([0, 1, 2, 3, 4, 5, 6, 7, 8, 9, 10, 11, 12, 13, 14], []), ([15, 14, 14, 0, 1, 2, 3, 4, 5, 6, 7, 8, 9, 10, 11, 12, 13, 14], [14, 15])])
def spec_l20Glued.B22 : List Nat := [0, 1, 0, 4, 0, 0, 48, 112, 252, 508, 0, 2044, 4092, 8188, 16383, 32767, 65535]
theorem spec_l20Glued.tab22 : rtab .any (opsOf Try.f78 22) = spec_l20Glued.T22 := by kernel_rfl
theorem spec_l20Glued.bits22 : waitsOk spec_l20Glued.T22.2 spec_l20Glued.B22 = true := by kernel_rfl
def spec_l20Glued.T28 : Bool × List (List Nat × List Nat) := (true, [([], []), ([0], [0]), ([], []), ([2], [2]), ([], []), ([3, 4], [3, 4]), ([5], [5]), ([6], [6]), ([1, 7], [1, 7]), ([0, 1, 2, 3, 4, 5, 6, 7, 8], []), ([9, 8, 8, 0, 1, 2, 3, 4, 5, 6, 7, 8], [8, 9])])
def spec_l20Glued.B28 : List Nat := [0, 1, 0, 4, 0, 28, 60, 124, 255, 511, 1023]
theorem spec_l20Glued.tab28 : rtab .any (opsOf Try.f78 28) = spec_l20Glued.T28 := by kernel_rfl
theorem spec_l20Glued.bits28 : waitsOk spec_l20Glued.T28.2 spec_l20Glued.B28 = true := by kernel_rfl
theorem z7_25 {p : Prop} (h : p := by (with_reducible repeat (first | apply Kd.S_alloc | apply Kd.S_drewN | apply Kd.S_drew)); exact Kd.S_mono b4.out (fun _ hk => ⟨trivial, hk⟩)) : p := h
theorem z7_24 {p : Prop} (h : p := by have := HK1.out; have := HK2.out; have := e8.out; have := f8.out; have := h7.out; omega) : p := h
theorem z7_23 {p : Prop} (h : p := by have := HK1.out; have := HK2.out; have := e8.out; have := f8.out; first | omega | exact Nat.le_refl _) : p := h
theorem z7_22 {p : Prop} (h : p := by repeat (first | (with_reducible first | exact HB.out | apply below_alloc | apply pw_below_drewN | apply below_drew1) | exact HB.out)) : p := h
theorem z7_21 {p : Prop} (h : p := by (with_reducible repeat (first | refine blk_drewN ?_ _ | refine blk_drew ?_ | refine blk_alloc ?_ _)); refine blk_put (cs := #[u131000, u131001]) ?_ 0 _ rfl; (with_reducible repeat (first | refine blk_drewN ?_ _ | refine blk_drew ?_ | refine blk_alloc ?_ _)); exact a0.out) : p := h
theorem z7_20 {p : Prop} (h : p := by repeat (first | (with_reducible first | exact HB.out | apply below_alloc | apply pw_below_drewN | apply below_drew1 | refine below_set ?_ f4.out) | exact HB.out)) : p := h
theorem z7_19 {p : Prop} (h : p := by repeat (first | (with_reducible first | exact HB.out | apply below_alloc | apply pw_below_drewN | apply below_drew1 | refine below_set ?_ f4.out | refine below_set ?_ f9.out) | exact HB.out)) : p := h
theorem z7_18 {p : Prop} (h : p := by decide) : p := h
theorem z7_17 {p : Prop} (h : p := by repeat (first | (with_reducible first | exact HB.out | apply below_alloc | apply pw_below_drewN | apply below_drew1 | refine below_set ?_ f4.out | refine below_set ?_ f9.out | refine below_set ?_ g4.out) | exact HB.out)) : p := h
theorem z7_16 {p : Prop} (h : p := by (with_reducible repeat (first | apply Kd.S_alloc | apply Kd.S_drewN | apply Kd.S_drew)); exact Kd.S_mono a3.out (fun k_ hk => ⟨hk.2, fun e_ => hk.1 e_⟩)) : p := h
theorem z7_15 {p : Prop} (h : p := by first | (with_reducible assumption) | assumption) : p := h
theorem z7_14 {p : Prop} (h : p := by (with_reducible repeat (first | apply Kd.R_alloc | apply Kd.R_drewN | apply Kd.R_drew)); exact Kd.R_mono a1.out (fun _ hk => ⟨trivial, hk⟩)) : p := h
theorem z7_13 {p : Prop} (h : p := by (with_reducible repeat (first | apply Kd.R_alloc | apply Kd.R_drewN | apply Kd.R_drew)); exact b5.out) : p := h
theorem z7_12 {p : Prop} (h : p := by (with_reducible repeat (first | apply Kd.S_alloc | apply Kd.S_drewN | apply Kd.S_drew)); exact a3.out) : p := h
theorem z7_11 {p : Prop} (h : p := by (with_reducible repeat (first | apply Kd.R_alloc | apply Kd.R_drewN | apply Kd.R_drew)); exact Kd.R_mono a1.out (fun _ hk => hk.2)) : p := h
theorem z7_10 {p : Prop} (h : p := by (with_reducible repeat (first | apply Kd.S_alloc | apply Kd.S_drewN | apply Kd.S_drew)); exact Kd.S_mono a3.out (fun _ hk => ⟨hk.2, hk.1⟩)) : p := h
theorem z7_9 {p : Prop} (h : p := by first | rfl | (simp; done) | (simp [*]; done)) : p := h
theorem z7_8 {p : Prop} (h : p := by (with_reducible repeat (first | refine blk_drewN ?_ _ | refine blk_drew ?_ | refine blk_alloc ?_ _)); refine blk_far ?_ b6.out _; (with_reducible repeat (first | refine blk_drewN ?_ _ | refine blk_drew ?_ | refine blk_alloc ?_ _)); exact a6.out) : p := h
theorem z7_7 {p : Prop} (h : p := by (with_reducible repeat (first | refine blk_drewN ?_ _ | refine blk_drew ?_ | refine blk_alloc ?_ _)); refine blk_far ?_ b7.out _; (with_reducible repeat (first | refine blk_drewN ?_ _ | refine blk_drew ?_ | refine blk_alloc ?_ _)); exact a7.out) : p := h
theorem z7_6 {p : Prop} (h : p := by (with_reducible repeat (first | refine blk_drewN ?_ _ | refine blk_drew ?_ | refine blk_alloc ?_ _)); refine blk_far ?_ b8.out _; (with_reducible repeat (first | refine blk_drewN ?_ _ | refine blk_drew ?_ | refine blk_alloc ?_ _)); exact a9.out) : p := h
theorem z7_5 {p : Prop} (h : p := by (with_reducible repeat (first | refine blk_drewN ?_ _ | refine blk_drew ?_ | refine blk_alloc ?_ _)); exact a0.out) : p := h
theorem z7_4 {p : Prop} (h : p := by (with_reducible repeat (first | refine blk_drewN ?_ _ | refine blk_drew ?_ | refine blk_alloc ?_ _)); exact a9.out) : p := h
theorem z7_3 {p : Prop} (h : p := by (with_reducible repeat (first | apply Kd.R_alloc | apply Kd.R_drewN | apply Kd.R_drew)); exact a1.out) : p := h
theorem z7_2 {p : Prop} (h : p := by (with_reducible repeat (first | refine blk_drewN ?_ _ | refine blk_drew ?_ | refine blk_alloc ?_ _)); exact a7.out) : p := h
theorem z7_1 {p : Prop} (h : p := by (with_reducible repeat (first | refine blk_drewN ?_ _ | refine blk_drew ?_ | refine blk_alloc ?_ _)); exact a6.out) : p := h
theorem z7_0 {p : Prop} (h : p := by repeat (first | (with_reducible first | exact HB.out | apply below_alloc | apply pw_below_drewN | apply below_drew1 | refine below_set ?_ f4.out | refine below_set ?_ f9.out | refine below_set ?_ g4.out | refine below_set ?_ i4.out) | exact HB.out)) : p := h
set_option maxHeartbeats 8000000 in
set_option maxRecDepth 100000 in
theorem spec_l20Glued.calls (k : Nat) (A0_0 : Option Addr) (c0_0 : Nat) (l0_0 : List (List Int)) (A0_1 : Option Addr) (c0_1 : Nat) (l0_1 : List Int) (A1_0 : Option Addr) (c1_0 : Nat) (l1_0 : List (List Int)) (A1_1 : Option Addr) (c1_1 : Nat) (l1_1 : List Int) (r1 : List (List Int)) (r2 : List Int) (w : World) (hr0_0 : Kd.C (Kd.slice 3 (Kd.int .i64)) w A0_0 l0_0.length l0_0) (hc0_0 : l0_0.length ≤ c0_0) (hr0_1 : Kd.C (Kd.int .i64) w A0_1 l0_1.length l0_1) (hc0_1 : l0_1.length ≤ c0_1) (hr1_0 : Kd.C (Kd.slice 3 (Kd.int .i64)) w A1_0 l1_0.length l1_0) (hc1_0 : l1_0.length ≤ c1_0) (hr1_1 : Kd.C (Kd.int .i64) w A1_1 l1_1.length l1_1) (hc1_1 : l1_1.length ≤ c1_1) (h : spec_l20Glued.f k l0_0 l0_1 l1_0 l1_1 = some (r1, r2)) :
  Calls Try.prog 78 #[.agg #[.slice A0_0 l0_0.length c0_0, .slice A0_1 l0_1.length c0_1], .agg #[.slice A1_0 l1_0.length c1_0, .slice A1_1 l1_1.length c1_1]] w fun e w' => ∃ v0_ v1_ : Value, e = .returned (.agg #[v0_, v1_]) ∧ Kd.S (Kd.slice 3 (Kd.int .i64)) 24 w' w.heap.size (fun k_ => some k_ ≠ (v1_ : Value).ownBlock) v0_ r1 ∧ Kd.R (Kd.int .i64) 3 w' w.heap.size (fun _ => True) v1_ r2 ∧ Below w.heap.size w w' := by
 have hu26 := Try.underlying26
 have HR0_0 := Aside0.mk hr0_0
 have z2 := Aside0.mk hc0_0
 clear hr0_0 hc0_0
 have HR0_1 := Aside0.mk hr0_1
 have z3 := Aside0.mk hc0_1
 clear hr0_1 hc0_1
 have HR1_0 := Aside0.mk hr1_0
 have z4 := Aside0.mk hc1_0
 clear hr1_0 hc1_0
 have HR1_1 := Aside0.mk hr1_1
 have z5 := Aside0.mk hc1_1
 clear hr1_1 hc1_1
 have HB := Aside0.mk (Below.refl w.heap.size w)
 have H : (spec_l20Glued.l0 k (l0_1.length : Int) (l1_1.length : Int) 0 l0_0 l0_1 l1_0 l1_1 ([] : List (List Int)) ([] : List Int)) = some (r1, r2) := h
 clear h
 have H' := Aside0.mk H
 clear H
 go_enter Try.func78, Try.ntmps78
 go_wp2_with (first | ((with_reducible refine gate_dst (N := 2) rfl ?_); refine bx_ (N := 2) (cs := #[.slice A0_0 l0_0.length c0_0, .slice A0_1 l0_1.length c0_1]) (t := 26) ?_; intro b1 hg w3 hbox hb; have a6 := Aside0.mk (hbox); have z6 := Aside0.mk ((by rw [hg]; exact (below_size z7_22) : w.heap.size ≤ b1)); have f4 := Aside0.mk ((by rw [hg]; exact (below_size z7_22) : w.heap.size ≤ b1)); replace HB := Aside0.mk (below_step z7_22 hb); clear hb hbox hg) | ((with_reducible refine gate_dst (N := 3) rfl ?_); refine bx_ (N := 3) (cs := #[.slice A1_0 l1_0.length c1_0, .slice A1_1 l1_1.length c1_1]) (t := 26) ?_; intro b2 hg w4 hbox hb; have a7 := Aside0.mk (hbox); have z7 := Aside0.mk ((by rw [hg]; exact (below_size z7_20) : w.heap.size ≤ b2)); have f9 := Aside0.mk ((by rw [hg]; exact (below_size z7_20) : w.heap.size ≤ b2)); replace HB := Aside0.mk (below_step z7_20 hb); have e1 := Aside0.mk ((by rw [hg]; exact Nat.ne_of_lt (blk_lt (g := b1) (o := .cells #[.slice A0_0 l0_0.length c0_0, .slice A0_1 l0_1.length c0_1] 26 (0, 0)) z7_1) : b1 ≠ b2)); have e2 := Aside0.mk ((by rw [hg]; exact Nat.ne_of_gt (blk_lt (g := b1) (o := .cells #[.slice A0_0 l0_0.length c0_0, .slice A0_1 l0_1.length c0_1] 26 (0, 0)) z7_1) : b2 ≠ b1)); replace a6 := Aside0.mk (blk_below (g := b1) (o := .cells #[.slice A0_0 l0_0.length c0_0, .slice A0_1 l0_1.length c0_1] 26 (0, 0)) z7_1 hb); clear hb hbox hg) | ((with_reducible refine gate_dst (N := 4) rfl ?_); refine bx_ (N := 4) (cs := #[.slice none 0 0, .slice none 0 0]) (t := 26) ?_; intro b3 hg w5 hbox hb; have a9 := Aside0.mk (hbox); have z8 := Aside0.mk ((by rw [hg]; exact (below_size z7_19) : w.heap.size ≤ b3)); have g4 := Aside0.mk ((by rw [hg]; exact (below_size z7_19) : w.heap.size ≤ b3)); replace HB := Aside0.mk (below_step z7_19 hb); have e3 := Aside0.mk ((by rw [hg]; exact Nat.ne_of_lt (blk_lt (g := b1) (o := .cells #[.slice A0_0 l0_0.length c0_0, .slice A0_1 l0_1.length c0_1] 26 (0, 0)) z7_1) : b1 ≠ b3)); have e4 := Aside0.mk ((by rw [hg]; exact Nat.ne_of_gt (blk_lt (g := b1) (o := .cells #[.slice A0_0 l0_0.length c0_0, .slice A0_1 l0_1.length c0_1] 26 (0, 0)) z7_1) : b3 ≠ b1)); replace a6 := Aside0.mk (blk_below (g := b1) (o := .cells #[.slice A0_0 l0_0.length c0_0, .slice A0_1 l0_1.length c0_1] 26 (0, 0)) z7_1 hb); have e5 := Aside0.mk ((by rw [hg]; exact Nat.ne_of_lt (blk_lt (g := b2) (o := .cells #[.slice A1_0 l1_0.length c1_0, .slice A1_1 l1_1.length c1_1] 26 (0, 0)) z7_2) : b2 ≠ b3)); have e6 := Aside0.mk ((by rw [hg]; exact Nat.ne_of_gt (blk_lt (g := b2) (o := .cells #[.slice A1_0 l1_0.length c1_0, .slice A1_1 l1_1.length c1_1] 26 (0, 0)) z7_2) : b3 ≠ b2)); replace a7 := Aside0.mk (blk_below (g := b2) (o := .cells #[.slice A1_0 l1_0.length c1_0, .slice A1_1 l1_1.length c1_1] 26 (0, 0)) z7_2 hb); clear hb hbox hg; have E2 := e1.out; have E3 := e2.out; have E4 := e3.out; have E5 := e4.out; have d2 := cz20 a6.out; have d3 := cz21 a6.out; have d4 := blk_frozen a6.out 0; have d5 := blk_frozen a6.out 1; have E6 := e5.out; have E7 := e6.out; have d2 := cz20 a7.out; have d3 := cz21 a7.out; have d4 := blk_frozen a7.out 0; have d5 := blk_frozen a7.out 1) | ((with_reducible refine gate_dst (N := 7) rfl ?_); refine bx_ (N := 7) (cs := #[.slice none 0 0, .slice none 0 0]) (t := 26) ?_; intro a5 hg G6 hbox hb; have a0 := Aside0.mk (hbox); have z9 := Aside0.mk ((by rw [hg]; exact (below_size z7_17) : w.heap.size ≤ a5)); have i4 := Aside0.mk ((by rw [hg]; exact (below_size z7_17) : w.heap.size ≤ a5)); replace HB := Aside0.mk (below_step z7_17 hb); have b6 := Aside0.mk ((by rw [hg]; exact Nat.ne_of_lt (blk_lt (g := b1) (o := .cells #[.slice A0_0 l0_0.length c0_0, .slice A0_1 l0_1.length c0_1] 26 (0, 0)) z7_1) : b1 ≠ a5)); have d0 := Aside0.mk ((by rw [hg]; exact Nat.ne_of_gt (blk_lt (g := b1) (o := .cells #[.slice A0_0 l0_0.length c0_0, .slice A0_1 l0_1.length c0_1] 26 (0, 0)) z7_1) : a5 ≠ b1)); replace a6 := Aside0.mk (blk_below (g := b1) (o := .cells #[.slice A0_0 l0_0.length c0_0, .slice A0_1 l0_1.length c0_1] 26 (0, 0)) z7_1 hb); have b7 := Aside0.mk ((by rw [hg]; exact Nat.ne_of_lt (blk_lt (g := b2) (o := .cells #[.slice A1_0 l1_0.length c1_0, .slice A1_1 l1_1.length c1_1] 26 (0, 0)) z7_2) : b2 ≠ a5)); have d1 := Aside0.mk ((by rw [hg]; exact Nat.ne_of_gt (blk_lt (g := b2) (o := .cells #[.slice A1_0 l1_0.length c1_0, .slice A1_1 l1_1.length c1_1] 26 (0, 0)) z7_2) : a5 ≠ b2)); replace a7 := Aside0.mk (blk_below (g := b2) (o := .cells #[.slice A1_0 l1_0.length c1_0, .slice A1_1 l1_1.length c1_1] 26 (0, 0)) z7_2 hb); have b8 := Aside0.mk ((by rw [hg]; exact Nat.ne_of_lt (blk_lt (g := b3) (o := .cells #[.slice none 0 0, .slice none 0 0] 26 (0, 0)) z7_4) : b3 ≠ a5)); have d6 := Aside0.mk ((by rw [hg]; exact Nat.ne_of_gt (blk_lt (g := b3) (o := .cells #[.slice none 0 0, .slice none 0 0] 26 (0, 0)) z7_4) : a5 ≠ b3)); replace a9 := Aside0.mk (blk_below (g := b3) (o := .cells #[.slice none 0 0, .slice none 0 0] 26 (0, 0)) z7_4 hb); clear hb hbox hg; have A0 := d0.out; have A1 := b6.out; have A2 := d1.out; have A3 := b7.out; have A4 := d6.out; have A5 := b8.out; have d2 := cz20 a0.out; have d3 := cz21 a0.out; have d4 := blk_frozen a0.out 0; have d5 := blk_frozen a0.out 1))
 go_loopg [8] k (fun kq v8 w' => ∃ (a8 : Int) (a4 : List (List Int)) (a2 : List Int) (u131000 : Value) (u131001 : Value), v8 = .int .i64 a8 ∧ Aside0 (spec_l20Glued.l0 kq (l0_1.length : Int) (l1_1.length : Int) a8 l0_0 l0_1 l1_0 l1_1 a4 a2 = some (r1, r2)) ∧ Aside0 (kq ≤ k) ∧ Aside0 (Kd.S (Kd.slice 3 (Kd.int .i64)) 24 w' w.heap.size (fun k_ => some k_ ≠ (u131001 : Value).ownBlock) u131000 a4) ∧ Aside0 (Kd.R (Kd.int .i64) 3 w' w.heap.size (fun _ => True) u131001 a2) ∧ Aside0 (w'.heap[b1]? = some (.cells #[(.slice A0_0 l0_0.length c0_0), (.slice A0_1 l0_1.length c0_1)] 26 (0, 0))) ∧ Aside0 (w'.heap[b2]? = some (.cells #[(.slice A1_0 l1_0.length c1_0), (.slice A1_1 l1_1.length c1_1)] 26 (0, 0))) ∧ Aside0 (w'.heap[b3]? = some (.cells #[(.slice none 0 0), (.slice none 0 0)] 26 (0, 0))) ∧ Aside0 (w'.heap[a5]? = some (.cells #[u131000, u131001] 26 (0, 0))) ∧ Aside0 (Below w.heap.size w w'))
 case atStart => exact ⟨(0), (([] : List (List Int))), (([] : List Int)), (.slice none 0 0), (.slice none 0 0), z7_9, H', ⟨Nat.le_refl _⟩, ⟨by first | exact Kd.S_nil _ _ _ _ _ | exact Kd.N_nil _ _ _ _ _ | exact Kd.V_nil _ _ _ _ _ | exact Kd.Q_nil _ _ _ _ _ | exact Kd.R_nil _ _ _ _ _⟩, ⟨by first | exact Kd.R_nil _ _ _ _ _ | exact Kd.N_nil _ _ _ _ _ | exact Kd.V_nil _ _ _ _ _ | exact Kd.Q_nil _ _ _ _ _ | exact Kd.S_nil _ _ _ _ _⟩, ⟨by (with_reducible repeat (first | refine blk_drewN ?_ _ | refine blk_drew ?_ | refine blk_alloc ?_ _)); refine blk_far ?_ b6.out _; (with_reducible repeat (first | refine blk_drewN ?_ _ | refine blk_drew ?_ | refine blk_alloc ?_ _)); refine blk_far ?_ b6.out _; (with_reducible repeat (first | refine blk_drewN ?_ _ | refine blk_drew ?_ | refine blk_alloc ?_ _)); exact a6.out⟩, ⟨by (with_reducible repeat (first | refine blk_drewN ?_ _ | refine blk_drew ?_ | refine blk_alloc ?_ _)); refine blk_far ?_ b7.out _; (with_reducible repeat (first | refine blk_drewN ?_ _ | refine blk_drew ?_ | refine blk_alloc ?_ _)); refine blk_far ?_ b7.out _; (with_reducible repeat (first | refine blk_drewN ?_ _ | refine blk_drew ?_ | refine blk_alloc ?_ _)); exact a7.out⟩, ⟨by (with_reducible repeat (first | refine blk_drewN ?_ _ | refine blk_drew ?_ | refine blk_alloc ?_ _)); refine blk_far ?_ b8.out _; (with_reducible repeat (first | refine blk_drewN ?_ _ | refine blk_drew ?_ | refine blk_alloc ?_ _)); refine blk_far ?_ b8.out _; (with_reducible repeat (first | refine blk_drewN ?_ _ | refine blk_drew ?_ | refine blk_alloc ?_ _)); exact a9.out⟩, ⟨by (with_reducible repeat (first | refine blk_drewN ?_ _ | refine blk_drew ?_ | refine blk_alloc ?_ _)); refine blk_put (cs := #[.slice none 0 0, .slice none 0 0]) ?_ 1 _ rfl; (with_reducible repeat (first | refine blk_drewN ?_ _ | refine blk_drew ?_ | refine blk_alloc ?_ _)); refine blk_put (cs := #[.slice none 0 0, .slice none 0 0]) ?_ 0 _ rfl; (with_reducible repeat (first | refine blk_drewN ?_ _ | refine blk_drew ?_ | refine blk_alloc ?_ _)); exact a0.out⟩, ⟨z7_0⟩⟩
 case round =>
  clear H'
  try clear c1
  try clear p2
  try clear c6
  try clear c7
  try clear c9
  try clear q9
  try clear s0
  try clear s1
  try clear d2
  try clear d3
  try clear d4
  try clear d5
  obtain ⟨a8, a4, a2, u131000, u131001, rfl, HA, HK1, a3, a1, a6, a7, a9, a0, HB⟩ := hrel
  cases gk with
  | zero => exact absurd HA.out (by simp [spec_l20Glued.l0])
  | succ k1 =>
   have H := HA.out
   clear HA
   simp only [spec_l20Glued.l0] at H
   by_cases h5 : a8 < (wrap64 ((wrap64 ((l0_1.length : Int) + (l1_1.length : Int))) - 2))
   ·
    rw [if_pos h5] at H
    have f5 : decide (a8 < (wrap64 ((wrap64 ((l0_1.length : Int) + (l1_1.length : Int))) - 2))) = true := decide_eq_true h5
    clear h5
    obtain ⟨y131, hy131⟩ : ∃ y_ : List Int, y_ = (([] : List Int)) := ⟨_, rfl⟩
    replace H : (spec_l20Glued.l1 k1 (l0_1.length : Int) (l1_1.length : Int) a8 y131 0 l0_0 l0_1 l1_0 l1_1 a4 a2) = some (r1, r2) := by first | (rw [hy131]; with_reducible exact H) | (have H2_ := (Option.bind_some _ _).symm.trans H; rw [hy131]; with_reducible exact H2_) | (have H2_ := (Option.bind_some _ _).symm.trans H; with_reducible exact H2_) | with_reducible exact H | (rw [hy131]; exact H) | exact H
    have Ny131 := Aside0.mk hy131
    clear hy131
    have H' := Aside0.mk H
    clear H
    go_wp2_with (first | ((with_reducible refine gate_dst (N := 27) rfl ?_); refine Kd.R_lit (Kd.int .i64) _ 3 ?hg (N := 27) ?hd (xs := ([] : List Int)) (inner := []) (ok := fun _ => True) (okp := fun _ => True) ?hr ?hp (fun _ hk => hk) trivial (Below.refl _ _) (Nat.le_refl _) (by simp) ?_; (case hd => rfl); (case hg => rfl); (case hr => first | (go_simp; done) | (go_simp; rfl)); (case hp => exact (Reps.none _ _)); intro E8 G7 ho18 hb hg_ hnew_; clear hg_ hnew_; (first | rw [← Ny131.out] at ho18 | (simp only [Int.reduceToNat] at ho18; rw [← Ny131.out] at ho18)); replace a3 := Aside0.mk (Kd.S_elder' z7_12 (Kd.R_base ho18) hb); have m5 := Aside0.mk (Kd.R_lower (Kd.R_new' ho18 (Kd.R_lt z7_3)) (below_size z7_0)); replace a1 := Aside0.mk (Kd.R_elder' z7_3 (Kd.R_base ho18) hb); replace a6 := Aside0.mk (blk_below (g := b1) (o := .cells #[.slice A0_0 l0_0.length c0_0, .slice A0_1 l0_1.length c0_1] 26 (0, 0)) z7_1 hb); replace a7 := Aside0.mk (blk_below (g := b2) (o := .cells #[.slice A1_0 l1_0.length c1_0, .slice A1_1 l1_1.length c1_1] 26 (0, 0)) z7_2 hb); replace a9 := Aside0.mk (blk_below (g := b3) (o := .cells #[.slice none 0 0, .slice none 0 0] 26 (0, 0)) z7_4 hb); replace a0 := Aside0.mk (blk_below (g := a5) (o := .cells #[u131000, u131001] 26 (0, 0)) z7_5 hb); replace HB := Aside0.mk (below_step z7_0 hb); clear hb ho18))
    go_loopg [9, 10] k1 (fun kq v9 E9 w' => ∃ (b9 : List Int) (b0 : Int), E9 = .int .i64 b0 ∧ Aside0 (spec_l20Glued.l1 kq (l0_1.length : Int) (l1_1.length : Int) a8 b9 b0 l0_0 l0_1 l1_0 l1_1 a4 a2 = some (r1, r2)) ∧ Aside0 (kq ≤ k1) ∧ Aside0 (Kd.R (Kd.int .i64) 3 w' w.heap.size (fun k_ => some k_ ≠ (u131001 : Value).ownBlock) v9 b9) ∧ Aside0 (Kd.S (Kd.slice 3 (Kd.int .i64)) 24 w' w.heap.size (fun k_ => some k_ ≠ (v9 : Value).ownBlock ∧ some k_ ≠ (u131001 : Value).ownBlock) u131000 a4) ∧ Aside0 (Kd.R (Kd.int .i64) 3 w' w.heap.size (fun k_ => some k_ ≠ (v9 : Value).ownBlock) u131001 a2) ∧ Aside0 (w'.heap[b1]? = some (.cells #[(.slice A0_0 l0_0.length c0_0), (.slice A0_1 l0_1.length c0_1)] 26 (0, 0))) ∧ Aside0 (w'.heap[b2]? = some (.cells #[(.slice A1_0 l1_0.length c1_0), (.slice A1_1 l1_1.length c1_1)] 26 (0, 0))) ∧ Aside0 (w'.heap[b3]? = some (.cells #[(.slice none 0 0), (.slice none 0 0)] 26 (0, 0))) ∧ Aside0 (w'.heap[a5]? = some (.cells #[u131000, u131001] 26 (0, 0))) ∧ Aside0 (Below w.heap.size w w'))
    case atStart => exact ⟨(y131), (0), z7_9, H', ⟨Nat.le_refl _⟩, ⟨by (with_reducible repeat (first | apply Kd.R_alloc | apply Kd.R_drewN | apply Kd.R_drew)); exact Kd.R_mono m5.out (fun _ hk => hk.2)⟩, ⟨z7_10⟩, ⟨z7_11⟩, ⟨z7_1⟩, ⟨z7_2⟩, ⟨z7_4⟩, ⟨z7_5⟩, ⟨z7_0⟩⟩
    case round =>
     clear H'
     try clear c1
     try clear p2
     try clear c6
     try clear p6
     try clear c7
     try clear c9
     try clear q9
     try clear s0
     try clear s1
     try clear h5
     try clear f5
     try clear d2
     try clear d3
     try clear d4
     try clear d5
     obtain ⟨b9, b0, rfl, HA, HK2, b5, a3, a1, a6, a7, a9, a0, HB⟩ := hrel
     cases gk with
     | zero => exact absurd HA.out (by simp [spec_l20Glued.l1])
     | succ k2 =>
      have H := HA.out
      clear HA
      simp only [spec_l20Glued.l1] at H
      by_cases h8 : b0 < (wrap64 ((wrap64 ((l0_1.length : Int) + (l1_1.length : Int))) - 2))
      ·
       rw [if_pos h8] at H
       have g0 : decide (b0 < (wrap64 ((wrap64 ((l0_1.length : Int) + (l1_1.length : Int))) - 2))) = true := decide_eq_true h8
       clear h8
       have j9 := Aside0.mk H
       clear H
       go_upto_region 12 with (fail)
       go_cut [36] (fun F0 wc => ∃ (kq : Nat) (f1 : Bool), F0 = .bool f1 ∧ Aside0 (spec_l20Glued.j2 kq (l0_1.length : Int) (l1_1.length : Int) a8 b9 b0 0 f1 l0_0 l0_1 l1_0 l1_1 a4 a2 = some (r1, r2)) ∧ Aside0 (kq ≤ k2) ∧ Aside0 (Kd.R (Kd.int .i64) 3 wc w.heap.size (fun k_ => some k_ ≠ (u131001 : Value).ownBlock) u9 b9) ∧ Aside0 (Kd.S (Kd.slice 3 (Kd.int .i64)) 24 wc w.heap.size (fun k_ => some k_ ≠ (u9 : Value).ownBlock ∧ some k_ ≠ (u131001 : Value).ownBlock) u131000 a4) ∧ Aside0 (Kd.R (Kd.int .i64) 3 wc w.heap.size (fun k_ => some k_ ≠ (u9 : Value).ownBlock) u131001 a2) ∧ Aside0 (wc.heap[b1]? = some (.cells #[(.slice A0_0 l0_0.length c0_0), (.slice A0_1 l0_1.length c0_1)] 26 (0, 0))) ∧ Aside0 (wc.heap[b2]? = some (.cells #[(.slice A1_0 l1_0.length c1_0), (.slice A1_1 l1_1.length c1_1)] 26 (0, 0))) ∧ Aside0 (wc.heap[b3]? = some (.cells #[(.slice none 0 0), (.slice none 0 0)] 26 (0, 0))) ∧ Aside0 (wc.heap[a5]? = some (.cells #[u131000, u131001] 26 (0, 0))) ∧ Aside0 (Below w.heap.size w wc))
       case first =>
        have H := j9.out
        clear j9
        by_cases h6 : a8 = 0
        ·
         rw [if_pos h6] at H
         have e7 := bt_ h6
         have g1 := bu_ h6
         clear h6
         (first | rw [e7] | (simp only [i64_w, i32_w]; rw [e7]) | skip)
         have H' := Aside0.mk H
         clear H
         go_wp2
         go_meet
         case rel => exact ⟨_, (true), z7_9, H', ⟨by have := HK1.out; have := HK2.out; first | omega | exact Nat.le_refl _⟩, ⟨z7_13⟩, ⟨z7_12⟩, ⟨z7_3⟩, ⟨z7_1⟩, ⟨z7_2⟩, ⟨z7_4⟩, ⟨z7_5⟩, ⟨z7_0⟩⟩
        rw [if_neg h6] at H
        have e7 := bv_ h6
        have g1 := bw_ h6
        (first | rw [e7] | (simp only [i64_w, i32_w]; rw [e7]) | skip)
        have H' := Aside0.mk H
        clear H
        go_wp2
        go_meet
        case rel => exact ⟨_, ((b0 == (wrap64 ((wrap64 ((l0_1.length : Int) + (l1_1.length : Int))) - 3)))), z7_9, H', ⟨by have := HK1.out; have := HK2.out; first | omega | exact Nat.le_refl _⟩, ⟨z7_13⟩, ⟨z7_12⟩, ⟨z7_3⟩, ⟨z7_1⟩, ⟨z7_2⟩, ⟨z7_4⟩, ⟨z7_5⟩, ⟨z7_0⟩⟩
       case rest =>
        clear j9
        try clear c1
        try clear c2
        try clear p2
        try clear c6
        try clear p6
        try clear c7
        try clear c9
        try clear q9
        try clear s0
        try clear s1
        try clear h5
        try clear f5
        try clear h8
        try clear g0
        try clear h6
        try clear e7
        try clear g1
        try clear d2
        try clear d3
        try clear d4
        try clear d5
        obtain ⟨kq, f1, rfl, HA, e8, b5, a3, a1, a6, a7, a9, a0, HB⟩ := hcut
        cases kq with
        | zero => exact absurd HA.out (by simp [spec_l20Glued.j2])
        | succ k0 =>
         have H := HA.out
         clear HA
         simp only [spec_l20Glued.j2] at H
         by_cases m2 : f1 = true
         ·
          subst m2
          rw [if_pos rfl] at H
          by_cases m3 : b9.length < 17592186044416
          ·
           rw [if_pos m3] at H
           have LMc23 := Aside0.mk m3
           clear m3
           obtain ⟨y134, hy134⟩ : ∃ y_ : List Int, y_ = (b9 ++ [1]) := ⟨_, rfl⟩
           replace H : (spec_l20Glued.l1 k0 (l0_1.length : Int) (l1_1.length : Int) a8 y134 (wrap64 (b0 + 1)) l0_0 l0_1 l1_0 l1_1 a4 a2) = some (r1, r2) := by first | (rw [hy134]; with_reducible exact H) | (have H2_ := (Option.bind_some _ _).symm.trans H; rw [hy134]; with_reducible exact H2_) | (have H2_ := (Option.bind_some _ _).symm.trans H; with_reducible exact H2_) | with_reducible exact H | (rw [hy134]; exact H) | exact H
           have Ny134 := Aside0.mk hy134
           clear hy134
           have H' := Aside0.mk H
           clear H
           go_wp2_with (first | ((with_reducible refine gate_builtin (b := .append) (xs := #[.tmp 103, .tmp 105]) rfl ?_); at_builtin; refine Kd.R_append (Kd.int .i64) (w0 := w) w.heap.size rfl (.tmp 103) (.tmp 105) 24 3 (.int .i64 0) 8 rfl Try.underlying24 info3 rfl z7_18 (by omega) u9 b9 1 [.int .i64 1] (fun k_ => some k_ ≠ (u131001 : Value).ownBlock) (fun _ => False) rfl rfl ?aP (fun _ hk => hk.elim) ?aF ?aO ?aB ?aS ?aL ?_; (case aP => exact rfl); (case aB => exact z7_0); (case aF => exact (fun k_ hk => Kd.fresh' (Kd.R_lt z7_3) k_ hk)); (case aO => exact z7_13); (case aS => exact (below_size z7_0)); (case aL => have := LMc23.out; omega); intro F1 G8 ho hb hg hat; rw [← Ny134.out] at ho; replace a3 := Aside0.mk (Kd.S_after (ok := (fun k_ => some k_ ≠ (u131001 : Value).ownBlock)) z7_10 hg hat); replace a1 := Aside0.mk (Kd.R_after (ok := (fun _ => True)) z7_14 hg hat); replace a6 := Aside0.mk (blk_grown (g := b1) (o := .cells #[.slice A0_0 l0_0.length c0_0, .slice A0_1 l0_1.length c0_1] 26 (0, 0)) z7_1 hg (Kd.R_ne b5.out a6.out z7_18)); replace a7 := Aside0.mk (blk_grown (g := b2) (o := .cells #[.slice A1_0 l1_0.length c1_0, .slice A1_1 l1_1.length c1_1] 26 (0, 0)) z7_2 hg (Kd.R_ne b5.out a7.out z7_18)); replace a9 := Aside0.mk (blk_grown (g := b3) (o := .cells #[.slice none 0 0, .slice none 0 0] 26 (0, 0)) z7_4 hg (Kd.R_ne b5.out a9.out z7_18)); replace a0 := Aside0.mk (blk_grown (g := a5) (o := .cells #[u131000, u131001] 26 (0, 0)) z7_5 hg (Kd.R_ne b5.out a0.out z7_18)); replace HB := Aside0.mk (hb); have m6 := Aside0.mk (ho); clear b5; clear ho hb hg hat))
           go_roundg k0
           case measure => have := HK1.out; have := HK2.out; have := e8.out; omega
           case rel => exact ⟨(y134), (wrap64 (b0 + 1)), z7_9, H', ⟨by have := HK1.out; have := HK2.out; have := e8.out; omega⟩, ⟨by (with_reducible repeat (first | apply Kd.R_alloc | apply Kd.R_drewN | apply Kd.R_drew)); exact m6.out⟩, ⟨z7_10⟩, ⟨z7_11⟩, ⟨z7_1⟩, ⟨z7_2⟩, ⟨z7_4⟩, ⟨z7_5⟩, ⟨z7_0⟩⟩
          rw [if_neg m3] at H
          exact absurd H (by simp)
         replace m2 := Bool.eq_false_iff.mpr m2
         subst m2
         rw [if_neg nf_] at H
         have k3 := Aside0.mk H
         clear H
         go_upto_region 14 with (fail)
         go_cut [47] (fun F2 wc => ∃ (kq : Nat) (f2 : Bool), F2 = .bool f2 ∧ Aside0 (spec_l20Glued.j3 kq (l0_1.length : Int) (l1_1.length : Int) a8 b9 b0 0 f2 l0_0 l0_1 l1_0 l1_1 a4 a2 = some (r1, r2)) ∧ Aside0 (kq ≤ k0) ∧ Aside0 (Kd.R (Kd.int .i64) 3 wc w.heap.size (fun k_ => some k_ ≠ (u131001 : Value).ownBlock) u9 b9) ∧ Aside0 (Kd.S (Kd.slice 3 (Kd.int .i64)) 24 wc w.heap.size (fun k_ => some k_ ≠ (u9 : Value).ownBlock ∧ some k_ ≠ (u131001 : Value).ownBlock) u131000 a4) ∧ Aside0 (Kd.R (Kd.int .i64) 3 wc w.heap.size (fun k_ => some k_ ≠ (u9 : Value).ownBlock) u131001 a2) ∧ Aside0 (wc.heap[b1]? = some (.cells #[(.slice A0_0 l0_0.length c0_0), (.slice A0_1 l0_1.length c0_1)] 26 (0, 0))) ∧ Aside0 (wc.heap[b2]? = some (.cells #[(.slice A1_0 l1_0.length c1_0), (.slice A1_1 l1_1.length c1_1)] 26 (0, 0))) ∧ Aside0 (wc.heap[b3]? = some (.cells #[(.slice none 0 0), (.slice none 0 0)] 26 (0, 0))) ∧ Aside0 (wc.heap[a5]? = some (.cells #[u131000, u131001] 26 (0, 0))) ∧ Aside0 (Below w.heap.size w wc))
         case first =>
          have H := k3.out
          clear k3
          by_cases i5 : a8 < (wrap64 ((l0_1.length : Int) - 1))
          ·
           rw [if_pos i5] at H
           have e9 : decide (a8 < (wrap64 ((l0_1.length : Int) - 1))) = true := decide_eq_true i5
           clear i5
           (first | rw [e9] | (simp only [i64_w, i32_w]; rw [e9]) | skip)
           have H' := Aside0.mk H
           clear H
           go_wp2
           go_meet
           case rel => exact ⟨_, (decide (b0 < (wrap64 ((l0_1.length : Int) - 1)))), z7_9, H', ⟨by have := HK1.out; have := HK2.out; have := e8.out; first | omega | exact Nat.le_refl _⟩, ⟨z7_13⟩, ⟨z7_12⟩, ⟨z7_3⟩, ⟨z7_1⟩, ⟨z7_2⟩, ⟨z7_4⟩, ⟨z7_5⟩, ⟨z7_0⟩⟩
          rw [if_neg i5] at H
          have e9 : decide (a8 < (wrap64 ((l0_1.length : Int) - 1))) = false := decide_eq_false i5
          clear i5
          (first | rw [e9] | (simp only [i64_w, i32_w]; rw [e9]) | skip)
          have H' := Aside0.mk H
          clear H
          go_wp2
          go_meet
          case rel => exact ⟨_, (false), z7_9, H', ⟨by have := HK1.out; have := HK2.out; have := e8.out; first | omega | exact Nat.le_refl _⟩, ⟨z7_13⟩, ⟨z7_12⟩, ⟨z7_3⟩, ⟨z7_1⟩, ⟨z7_2⟩, ⟨z7_4⟩, ⟨z7_5⟩, ⟨z7_0⟩⟩
         case rest =>
          clear k3
          try clear c1
          try clear c2
          try clear p2
          try clear c6
          try clear p6
          try clear c7
          try clear c9
          try clear q9
          try clear s0
          try clear s1
          try clear h5
          try clear f5
          try clear h8
          try clear g0
          try clear h6
          try clear e7
          try clear g1
          try clear m2
          try clear m3
          try clear i5
          try clear e9
          try clear d2
          try clear d3
          try clear d4
          try clear d5
          obtain ⟨kq, f2, rfl, HA, f8, b5, a3, a1, a6, a7, a9, a0, HB⟩ := hcut
          cases kq with
          | zero => exact absurd HA.out (by simp [spec_l20Glued.j3])
          | succ k4 =>
           have H := HA.out
           clear HA
           simp only [spec_l20Glued.j3] at H
           by_cases m7 : f2 = true
           ·
            subst m7
            rw [if_pos rfl] at H
            by_cases m8 : 0 ≤ a8
            ·
             rw [if_pos m8] at H
             have m9 : decide (0 ≤ a8) = true := decide_eq_true m8
             clear m8
             by_cases n0 : a8 < (l0_0.length : Int)
             ·
              rw [if_pos n0] at H
              have n1 : decide (a8 < (l0_0.length : Int)) = true := decide_eq_true n0
              clear n0
              by_cases n2 : 0 ≤ b0
              ·
               rw [if_pos n2] at H
               have n3 : decide (0 ≤ b0) = true := decide_eq_true n2
               clear n2
               by_cases n4 : b0 < ((rd_L1 l0_0 a8).length : Int)
               ·
                rw [if_pos n4] at H
                have n5 : decide (b0 < ((rd_L1 l0_0 a8).length : Int)) = true := decide_eq_true n4
                clear n4
                by_cases n6 : b9.length < 17592186044416
                ·
                 rw [if_pos n6] at H
                 have LMc32 := Aside0.mk n6
                 clear n6
                 obtain ⟨y139, hy139⟩ : ∃ y_ : List Int, y_ = (b9 ++ [rd (rd_L1 l0_0 a8) b0]) := ⟨_, rfl⟩
                 replace H : (spec_l20Glued.l1 k4 (l0_1.length : Int) (l1_1.length : Int) a8 y139 (wrap64 (b0 + 1)) l0_0 l0_1 l1_0 l1_1 a4 a2) = some (r1, r2) := by first | (rw [hy139]; with_reducible exact H) | (have H2_ := (Option.bind_some _ _).symm.trans H; rw [hy139]; with_reducible exact H2_) | (have H2_ := (Option.bind_some _ _).symm.trans H; with_reducible exact H2_) | with_reducible exact H | (rw [hy139]; exact H) | exact H
                 have Ny139 := Aside0.mk hy139
                 clear hy139
                 have H' := Aside0.mk H
                 clear H
                 have A6 := e1.out
                 have A7 := e2.out
                 have A8 := e3.out
                 have A9 := e4.out
                 have B0 := b6.out
                 have B1 := d0.out
                 have d2 := cz20 a6.out
                 have d3 := cz21 a6.out
                 have d4 := blk_frozen a6.out 0
                 have d5 := blk_frozen a6.out 1
                 have h9 : 0 ≤ (a8 : Int) := of_decide_eq_true z7_15
                 have q137 : a8 < (l0_0.length : Int) := of_decide_eq_true z7_15
                 obtain ⟨ad137, u8, v0, e137, hx137_0, hl137_0, hi137_0⟩ := at_L1 HR0_0.out a8 h9 q137
                 cases e137
                 replace hx137_0 := (HB.out.cell (World.block_lt_of_cell? w _ hx137_0)).trans hx137_0
                 have HR137_0 := Aside0.mk hi137_0
                 have s2 := Aside0.mk hl137_0
                 clear hi137_0 hl137_0
                 replace h9 := eq_true h9
                 replace q137 := eq_true q137
                 have i0 : 0 ≤ (b0 : Int) := of_decide_eq_true z7_15
                 have q138 : b0 < ((rd_L1 l0_0 a8).length : Int) := of_decide_eq_true z7_15
                 obtain ⟨ad138, e138, hx138_0⟩ := Kd.at_int HR137_0.out b0 i0 q138
                 cases e138
                 replace hx138_0 := (HB.out.cell (World.block_lt_of_cell? w _ hx138_0)).trans hx138_0
                 replace i0 := eq_true i0
                 replace q138 := eq_true q138
                 go_wp2_with (first | ((with_reducible refine gate_builtin (b := .append) (xs := #[.tmp 103, .tmp 105]) rfl ?_); at_builtin; refine Kd.R_append (Kd.int .i64) (w0 := w) w.heap.size rfl (.tmp 103) (.tmp 105) 24 3 (.int .i64 0) 8 rfl Try.underlying24 info3 rfl z7_18 (by omega) u9 b9 (rd (rd_L1 l0_0 a8) b0) [.int .i64 (rd (rd_L1 l0_0 a8) b0)] (fun k_ => some k_ ≠ (u131001 : Value).ownBlock) (fun _ => False) rfl rfl ?aP (fun _ hk => hk.elim) ?aF ?aO ?aB ?aS ?aL ?_; (case aP => exact rfl); (case aB => exact z7_0); (case aF => exact (fun k_ hk => Kd.fresh' (Kd.R_lt z7_3) k_ hk)); (case aO => exact z7_13); (case aS => exact (below_size z7_0)); (case aL => have := LMc32.out; omega); intro F3 G9 ho hb hg hat; rw [← Ny139.out] at ho; replace a3 := Aside0.mk (Kd.S_after (ok := (fun k_ => some k_ ≠ (u131001 : Value).ownBlock)) z7_10 hg hat); replace a1 := Aside0.mk (Kd.R_after (ok := (fun _ => True)) z7_14 hg hat); replace a6 := Aside0.mk (blk_grown (g := b1) (o := .cells #[.slice (some ad137) l0_0.length c0_0, .slice A0_1 l0_1.length c0_1] 26 (0, 0)) z7_1 hg (Kd.R_ne b5.out a6.out z7_18)); replace a7 := Aside0.mk (blk_grown (g := b2) (o := .cells #[.slice A1_0 l1_0.length c1_0, .slice A1_1 l1_1.length c1_1] 26 (0, 0)) z7_2 hg (Kd.R_ne b5.out a7.out z7_18)); replace a9 := Aside0.mk (blk_grown (g := b3) (o := .cells #[.slice none 0 0, .slice none 0 0] 26 (0, 0)) z7_4 hg (Kd.R_ne b5.out a9.out z7_18)); replace a0 := Aside0.mk (blk_grown (g := a5) (o := .cells #[u131000, u131001] 26 (0, 0)) z7_5 hg (Kd.R_ne b5.out a0.out z7_18)); replace HB := Aside0.mk (hb); have n7 := Aside0.mk (ho); clear b5; clear ho hb hg hat))
                 go_roundg k4
                 case measure => have := HK1.out; have := HK2.out; have := e8.out; have := f8.out; omega
                 case rel => exact ⟨(y139), (wrap64 (b0 + 1)), z7_9, H', ⟨by have := HK1.out; have := HK2.out; have := e8.out; have := f8.out; omega⟩, ⟨by (with_reducible repeat (first | apply Kd.R_alloc | apply Kd.R_drewN | apply Kd.R_drew)); exact n7.out⟩, ⟨z7_10⟩, ⟨z7_11⟩, ⟨z7_1⟩, ⟨z7_2⟩, ⟨z7_4⟩, ⟨z7_5⟩, ⟨z7_0⟩⟩
                rw [if_neg n6] at H
                exact absurd H (by simp)
               rw [if_neg n4] at H
               exact absurd H (by simp)
              rw [if_neg n2] at H
              exact absurd H (by simp)
             rw [if_neg n0] at H
             exact absurd H (by simp)
            rw [if_neg m8] at H
            exact absurd H (by simp)
           replace m7 := Bool.eq_false_iff.mpr m7
           subst m7
           rw [if_neg nf_] at H
           have k5 := Aside0.mk H
           clear H
           go_upto_region 16 with (fail)
           go_cut [66] (fun F4 wc => ∃ (kq : Nat) (f3 : Bool), F4 = .bool f3 ∧ Aside0 (spec_l20Glued.j4 kq (l0_1.length : Int) (l1_1.length : Int) a8 b9 b0 0 f3 l0_0 l0_1 l1_0 l1_1 a4 a2 = some (r1, r2)) ∧ Aside0 (kq ≤ k4) ∧ Aside0 (Kd.R (Kd.int .i64) 3 wc w.heap.size (fun k_ => some k_ ≠ (u131001 : Value).ownBlock) u9 b9) ∧ Aside0 (Kd.S (Kd.slice 3 (Kd.int .i64)) 24 wc w.heap.size (fun k_ => some k_ ≠ (u9 : Value).ownBlock ∧ some k_ ≠ (u131001 : Value).ownBlock) u131000 a4) ∧ Aside0 (Kd.R (Kd.int .i64) 3 wc w.heap.size (fun k_ => some k_ ≠ (u9 : Value).ownBlock) u131001 a2) ∧ Aside0 (wc.heap[b1]? = some (.cells #[(.slice A0_0 l0_0.length c0_0), (.slice A0_1 l0_1.length c0_1)] 26 (0, 0))) ∧ Aside0 (wc.heap[b2]? = some (.cells #[(.slice A1_0 l1_0.length c1_0), (.slice A1_1 l1_1.length c1_1)] 26 (0, 0))) ∧ Aside0 (wc.heap[b3]? = some (.cells #[(.slice none 0 0), (.slice none 0 0)] 26 (0, 0))) ∧ Aside0 (wc.heap[a5]? = some (.cells #[u131000, u131001] 26 (0, 0))) ∧ Aside0 (Below w.heap.size w wc))
           case first =>
            have H := k5.out
            clear k5
            by_cases k6 : a8 ≥ (wrap64 ((l0_1.length : Int) - 1))
            ·
             rw [if_pos k6] at H
             have f0 : decide ((wrap64 ((l0_1.length : Int) - 1)) ≤ a8) = true := decide_eq_true k6
             clear k6
             (first | rw [f0] | (simp only [i64_w, i32_w]; rw [f0]) | skip)
             by_cases k7 : b0 ≥ (wrap64 ((l0_1.length : Int) - 1))
             ·
              rw [if_pos k7] at H
              have i6 : decide ((wrap64 ((l0_1.length : Int) - 1)) ≤ b0) = true := decide_eq_true k7
              clear k7
              have H' := Aside0.mk H
              clear H
              go_wp2
              go_meet
              case rel => exact ⟨_, (decide (a8 < (wrap64 ((wrap64 ((l0_1.length : Int) + (l1_1.length : Int))) - 3)))), z7_9, H', ⟨z7_23⟩, ⟨z7_13⟩, ⟨z7_12⟩, ⟨z7_3⟩, ⟨z7_1⟩, ⟨z7_2⟩, ⟨z7_4⟩, ⟨z7_5⟩, ⟨z7_0⟩⟩
             rw [if_neg k7] at H
             have i6 : decide ((wrap64 ((l0_1.length : Int) - 1)) ≤ b0) = false := decide_eq_false k7
             clear k7
             have H' := Aside0.mk H
             clear H
             go_wp2
             go_meet
             case rel => exact ⟨_, (false), z7_9, H', ⟨z7_23⟩, ⟨z7_13⟩, ⟨z7_12⟩, ⟨z7_3⟩, ⟨z7_1⟩, ⟨z7_2⟩, ⟨z7_4⟩, ⟨z7_5⟩, ⟨z7_0⟩⟩
            rw [if_neg k6] at H
            have f0 : decide ((wrap64 ((l0_1.length : Int) - 1)) ≤ a8) = false := decide_eq_false k6
            clear k6
            (first | rw [f0] | (simp only [i64_w, i32_w]; rw [f0]) | skip)
            have H' := Aside0.mk H
            clear H
            go_wp2
            go_meet
            case rel => exact ⟨_, (false), z7_9, H', ⟨z7_23⟩, ⟨z7_13⟩, ⟨z7_12⟩, ⟨z7_3⟩, ⟨z7_1⟩, ⟨z7_2⟩, ⟨z7_4⟩, ⟨z7_5⟩, ⟨z7_0⟩⟩
           case rest =>
            clear k5
            try clear c1
            try clear p1
            try clear q1
            try clear hx1
            try clear c2
            try clear p2
            try clear c3
            try clear c4
            try clear c6
            try clear p6
            try clear c7
            try clear c9
            try clear q9
            try clear s0
            try clear I0
            try clear q13
            try clear hx13
            try clear s1
            try clear h5
            try clear f5
            try clear h8
            try clear g0
            try clear h6
            try clear e7
            try clear g1
            try clear m2
            try clear m3
            try clear i5
            try clear e9
            try clear m7
            try clear m8
            try clear m9
            try clear n0
            try clear n1
            try clear n2
            try clear n3
            try clear n4
            try clear n5
            try clear n6
            try clear I1
            try clear I2
            try clear I3
            try clear k6
            try clear f0
            try clear k7
            try clear i6
            try clear d2
            try clear d3
            try clear d4
            try clear d5
            try clear hx137_0
            try clear hx138_0
            try clear h9
            try clear i0
            try clear q137
            try clear q138
            obtain ⟨kq, f3, rfl, HA, h7, b5, a3, a1, a6, a7, a9, a0, HB⟩ := hcut
            cases kq with
            | zero => exact absurd HA.out (by simp [spec_l20Glued.j4])
            | succ f6 =>
             have H := HA.out
             clear HA
             simp only [spec_l20Glued.j4] at H
             by_cases s3 : f3 = true
             ·
              subst s3
              rw [if_pos rfl] at H
              obtain ⟨ji42, hji42⟩ : ∃ j_ : Int, (wrap64 ((wrap64 (a8 - (l0_1.length : Int))) + 2)) = j_ := ⟨_, rfl⟩
              replace H : (if 0 ≤ (ji42) then (if (ji42) < (l1_0.length : Int) then (if 0 ≤ (wrap64 ((wrap64 (b0 - (l0_1.length : Int))) + 2)) then (if (wrap64 ((wrap64 (b0 - (l0_1.length : Int))) + 2)) < ((rd_L1 l1_0 (ji42)).length : Int) then (if b9.length < 17592186044416 then (spec_l20Glued.l1 f6 (l0_1.length : Int) (l1_1.length : Int) a8 (b9 ++ [rd (rd_L1 l1_0 (ji42)) (wrap64 ((wrap64 (b0 - (l0_1.length : Int))) + 2))]) (wrap64 (b0 + 1)) l0_0 l0_1 l1_0 l1_1 a4 a2) else (none)) else (none)) else (none)) else (none)) else (none)) = some (r1, r2) := by first | (rw [hji42] at H; exact H) | (simp only [hji42] at H ⊢; exact H)
              have hji42w : (IntKind.i64.wrap ((wrap64 (a8 - (l0_1.length : Int))) + 2)) = ji42 := (i64_w _).trans hji42
              by_cases s4 : 0 ≤ (ji42)
              ·
               rw [if_pos s4] at H
               have B2 : decide (0 ≤ (ji42)) = true := decide_eq_true s4
               clear s4
               by_cases s5 : (ji42) < (l1_0.length : Int)
               ·
                rw [if_pos s5] at H
                have B3 : decide ((ji42) < (l1_0.length : Int)) = true := decide_eq_true s5
                clear s5
                obtain ⟨ji45, hji45⟩ : ∃ j_ : Int, (wrap64 ((wrap64 (b0 - (l0_1.length : Int))) + 2)) = j_ := ⟨_, rfl⟩
                replace H : (if 0 ≤ (ji45) then (if (ji45) < ((rd_L1 l1_0 (ji42)).length : Int) then (if b9.length < 17592186044416 then (spec_l20Glued.l1 f6 (l0_1.length : Int) (l1_1.length : Int) a8 (b9 ++ [rd (rd_L1 l1_0 (ji42)) (ji45)]) (wrap64 (b0 + 1)) l0_0 l0_1 l1_0 l1_1 a4 a2) else (none)) else (none)) else (none)) = some (r1, r2) := by first | (rw [hji45] at H; exact H) | (simp only [hji45] at H ⊢; exact H)
                have hji45w : (IntKind.i64.wrap ((wrap64 (b0 - (l0_1.length : Int))) + 2)) = ji45 := (i64_w _).trans hji45
                by_cases s6 : 0 ≤ (ji45)
                ·
                 rw [if_pos s6] at H
                 have B4 : decide (0 ≤ (ji45)) = true := decide_eq_true s6
                 clear s6
                 by_cases s7 : (ji45) < ((rd_L1 l1_0 (ji42)).length : Int)
                 ·
                  rw [if_pos s7] at H
                  have B5 : decide ((ji45) < ((rd_L1 l1_0 (ji42)).length : Int)) = true := decide_eq_true s7
                  clear s7
                  by_cases s8 : b9.length < 17592186044416
                  ·
                   rw [if_pos s8] at H
                   have LMc48 := Aside0.mk s8
                   clear s8
                   obtain ⟨y144, hy144⟩ : ∃ y_ : List Int, y_ = (b9 ++ [rd (rd_L1 l1_0 (ji42)) (ji45)]) := ⟨_, rfl⟩
                   replace H : (spec_l20Glued.l1 f6 (l0_1.length : Int) (l1_1.length : Int) a8 y144 (wrap64 (b0 + 1)) l0_0 l0_1 l1_0 l1_1 a4 a2) = some (r1, r2) := by first | (rw [hy144]; with_reducible exact H) | (have H2_ := (Option.bind_some _ _).symm.trans H; rw [hy144]; with_reducible exact H2_) | (have H2_ := (Option.bind_some _ _).symm.trans H; with_reducible exact H2_) | with_reducible exact H | (rw [hy144]; exact H) | exact H
                   have Ny144 := Aside0.mk hy144
                   clear hy144
                   have H' := Aside0.mk H
                   clear H
                   have B6 := e2.out
                   have B7 := e1.out
                   have B8 := e5.out
                   have B9 := e6.out
                   have C0 := b7.out
                   have C1 := d1.out
                   have d2 := cz20 a7.out
                   have d3 := cz21 a7.out
                   have d4 := blk_frozen a7.out 0
                   have d5 := blk_frozen a7.out 1
                   have k8 : 0 ≤ ((ji42) : Int) := of_decide_eq_true z7_15
                   have q142 : (ji42) < (l1_0.length : Int) := of_decide_eq_true z7_15
                   obtain ⟨ad142, v1, v2, e142, hx142_0, hl142_0, hi142_0⟩ := at_L1 HR1_0.out (ji42) k8 q142
                   cases e142
                   replace hx142_0 := (HB.out.cell (World.block_lt_of_cell? w _ hx142_0)).trans hx142_0
                   have HR142_0 := Aside0.mk hi142_0
                   have s9 := Aside0.mk hl142_0
                   clear hi142_0 hl142_0
                   replace k8 := eq_true k8
                   replace q142 := eq_true q142
                   have k9 : 0 ≤ ((ji45) : Int) := of_decide_eq_true z7_15
                   have q143 : (ji45) < ((rd_L1 l1_0 (ji42)).length : Int) := of_decide_eq_true z7_15
                   obtain ⟨ad143, e143, hx143_0⟩ := Kd.at_int HR142_0.out (ji45) k9 q143
                   cases e143
                   replace hx143_0 := (HB.out.cell (World.block_lt_of_cell? w _ hx143_0)).trans hx143_0
                   replace k9 := eq_true k9
                   replace q143 := eq_true q143
                   go_wp2_with (first | ((with_reducible refine gate_builtin (b := .append) (xs := #[.tmp 103, .tmp 105]) rfl ?_); at_builtin; refine Kd.R_append (Kd.int .i64) (w0 := w) w.heap.size rfl (.tmp 103) (.tmp 105) 24 3 (.int .i64 0) 8 rfl Try.underlying24 info3 rfl z7_18 (by omega) u9 b9 (rd (rd_L1 l1_0 (ji42)) (ji45)) [.int .i64 (rd (rd_L1 l1_0 (ji42)) (ji45))] (fun k_ => some k_ ≠ (u131001 : Value).ownBlock) (fun _ => False) rfl rfl ?aP (fun _ hk => hk.elim) ?aF ?aO ?aB ?aS ?aL ?_; (case aP => exact rfl); (case aB => exact z7_0); (case aF => exact (fun k_ hk => Kd.fresh' (Kd.R_lt z7_3) k_ hk)); (case aO => exact z7_13); (case aS => exact (below_size z7_0)); (case aL => have := LMc48.out; omega); intro F5 I4 ho hb hg hat; rw [← Ny144.out] at ho; replace a3 := Aside0.mk (Kd.S_after (ok := (fun k_ => some k_ ≠ (u131001 : Value).ownBlock)) z7_10 hg hat); replace a1 := Aside0.mk (Kd.R_after (ok := (fun _ => True)) z7_14 hg hat); replace a6 := Aside0.mk (blk_grown (g := b1) (o := .cells #[.slice A0_0 l0_0.length c0_0, .slice A0_1 l0_1.length c0_1] 26 (0, 0)) z7_1 hg (Kd.R_ne b5.out a6.out z7_18)); replace a7 := Aside0.mk (blk_grown (g := b2) (o := .cells #[.slice (some ad142) l1_0.length c1_0, .slice A1_1 l1_1.length c1_1] 26 (0, 0)) z7_2 hg (Kd.R_ne b5.out a7.out z7_18)); replace a9 := Aside0.mk (blk_grown (g := b3) (o := .cells #[.slice none 0 0, .slice none 0 0] 26 (0, 0)) z7_4 hg (Kd.R_ne b5.out a9.out z7_18)); replace a0 := Aside0.mk (blk_grown (g := a5) (o := .cells #[u131000, u131001] 26 (0, 0)) z7_5 hg (Kd.R_ne b5.out a0.out z7_18)); replace HB := Aside0.mk (hb); have n8 := Aside0.mk (ho); clear b5; clear ho hb hg hat))
                   go_roundg f6
                   case measure => have := HK1.out; have := HK2.out; have := e8.out; have := f8.out; have := h7.out; omega
                   case rel => exact ⟨(y144), (wrap64 (b0 + 1)), z7_9, H', ⟨z7_24⟩, ⟨by (with_reducible repeat (first | apply Kd.R_alloc | apply Kd.R_drewN | apply Kd.R_drew)); exact n8.out⟩, ⟨z7_10⟩, ⟨z7_11⟩, ⟨z7_1⟩, ⟨z7_2⟩, ⟨z7_4⟩, ⟨z7_5⟩, ⟨z7_0⟩⟩
                  rw [if_neg s8] at H
                  exact absurd H (by simp)
                 rw [if_neg s7] at H
                 exact absurd H (by simp)
                rw [if_neg s6] at H
                exact absurd H (by simp)
               rw [if_neg s5] at H
               exact absurd H (by simp)
              rw [if_neg s4] at H
              exact absurd H (by simp)
             replace s3 := Bool.eq_false_iff.mpr s3
             subst s3
             rw [if_neg nf_] at H
             by_cases l2 : a8 = b0
             ·
              rw [if_pos l2] at H
              have n9 := bt_ l2
              have o0 := bu_ l2
              clear l2
              by_cases u0 : b9.length < 17592186044416
              ·
               rw [if_pos u0] at H
               have LMc55 := Aside0.mk u0
               clear u0
               obtain ⟨y147, hy147⟩ : ∃ y_ : List Int, y_ = (b9 ++ [1]) := ⟨_, rfl⟩
               replace H : (spec_l20Glued.l1 f6 (l0_1.length : Int) (l1_1.length : Int) a8 y147 (wrap64 (b0 + 1)) l0_0 l0_1 l1_0 l1_1 a4 a2) = some (r1, r2) := by first | (rw [hy147]; with_reducible exact H) | (have H2_ := (Option.bind_some _ _).symm.trans H; rw [hy147]; with_reducible exact H2_) | (have H2_ := (Option.bind_some _ _).symm.trans H; with_reducible exact H2_) | with_reducible exact H | (rw [hy147]; exact H) | exact H
               have Ny147 := Aside0.mk hy147
               clear hy147
               have H' := Aside0.mk H
               clear H
               go_wp2_with (first | ((with_reducible refine gate_builtin (b := .append) (xs := #[.tmp 103, .tmp 105]) rfl ?_); at_builtin; refine Kd.R_append (Kd.int .i64) (w0 := w) w.heap.size rfl (.tmp 103) (.tmp 105) 24 3 (.int .i64 0) 8 rfl Try.underlying24 info3 rfl z7_18 (by omega) u9 b9 1 [.int .i64 1] (fun k_ => some k_ ≠ (u131001 : Value).ownBlock) (fun _ => False) rfl rfl ?aP (fun _ hk => hk.elim) ?aF ?aO ?aB ?aS ?aL ?_; (case aP => exact rfl); (case aB => exact z7_0); (case aF => exact (fun k_ hk => Kd.fresh' (Kd.R_lt z7_3) k_ hk)); (case aO => exact z7_13); (case aS => exact (below_size z7_0)); (case aL => have := LMc55.out; omega); intro F6 I5 ho hb hg hat; rw [← Ny147.out] at ho; replace a3 := Aside0.mk (Kd.S_after (ok := (fun k_ => some k_ ≠ (u131001 : Value).ownBlock)) z7_10 hg hat); replace a1 := Aside0.mk (Kd.R_after (ok := (fun _ => True)) z7_14 hg hat); replace a6 := Aside0.mk (blk_grown (g := b1) (o := .cells #[.slice A0_0 l0_0.length c0_0, .slice A0_1 l0_1.length c0_1] 26 (0, 0)) z7_1 hg (Kd.R_ne b5.out a6.out z7_18)); replace a7 := Aside0.mk (blk_grown (g := b2) (o := .cells #[.slice A1_0 l1_0.length c1_0, .slice A1_1 l1_1.length c1_1] 26 (0, 0)) z7_2 hg (Kd.R_ne b5.out a7.out z7_18)); replace a9 := Aside0.mk (blk_grown (g := b3) (o := .cells #[.slice none 0 0, .slice none 0 0] 26 (0, 0)) z7_4 hg (Kd.R_ne b5.out a9.out z7_18)); replace a0 := Aside0.mk (blk_grown (g := a5) (o := .cells #[u131000, u131001] 26 (0, 0)) z7_5 hg (Kd.R_ne b5.out a0.out z7_18)); replace HB := Aside0.mk (hb); have o1 := Aside0.mk (ho); clear b5; clear ho hb hg hat))
               go_roundg f6
               case measure => have := HK1.out; have := HK2.out; have := e8.out; have := f8.out; have := h7.out; omega
               case rel => exact ⟨(y147), (wrap64 (b0 + 1)), z7_9, H', ⟨z7_24⟩, ⟨by (with_reducible repeat (first | apply Kd.R_alloc | apply Kd.R_drewN | apply Kd.R_drew)); exact o1.out⟩, ⟨z7_10⟩, ⟨z7_11⟩, ⟨z7_1⟩, ⟨z7_2⟩, ⟨z7_4⟩, ⟨z7_5⟩, ⟨z7_0⟩⟩
              rw [if_neg u0] at H
              exact absurd H (by simp)
             rw [if_neg l2] at H
             have n9 := bv_ l2
             have o0 := bw_ l2
             by_cases u1 : b9.length < 17592186044416
             ·
              rw [if_pos u1] at H
              have LMc57 := Aside0.mk u1
              clear u1
              obtain ⟨y150, hy150⟩ : ∃ y_ : List Int, y_ = (b9 ++ [0]) := ⟨_, rfl⟩
              replace H : (spec_l20Glued.l1 f6 (l0_1.length : Int) (l1_1.length : Int) a8 y150 (wrap64 (b0 + 1)) l0_0 l0_1 l1_0 l1_1 a4 a2) = some (r1, r2) := by first | (rw [hy150]; with_reducible exact H) | (have H2_ := (Option.bind_some _ _).symm.trans H; rw [hy150]; with_reducible exact H2_) | (have H2_ := (Option.bind_some _ _).symm.trans H; with_reducible exact H2_) | with_reducible exact H | (rw [hy150]; exact H) | exact H
              have Ny150 := Aside0.mk hy150
              clear hy150
              have H' := Aside0.mk H
              clear H
              go_wp2_with (first | ((with_reducible refine gate_builtin (b := .append) (xs := #[.tmp 103, .tmp 105]) rfl ?_); at_builtin; refine Kd.R_append (Kd.int .i64) (w0 := w) w.heap.size rfl (.tmp 103) (.tmp 105) 24 3 (.int .i64 0) 8 rfl Try.underlying24 info3 rfl z7_18 (by omega) u9 b9 0 [.int .i64 0] (fun k_ => some k_ ≠ (u131001 : Value).ownBlock) (fun _ => False) rfl rfl ?aP (fun _ hk => hk.elim) ?aF ?aO ?aB ?aS ?aL ?_; (case aP => exact rfl); (case aB => exact z7_0); (case aF => exact (fun k_ hk => Kd.fresh' (Kd.R_lt z7_3) k_ hk)); (case aO => exact z7_13); (case aS => exact (below_size z7_0)); (case aL => have := LMc57.out; omega); intro F7 I6 ho hb hg hat; rw [← Ny150.out] at ho; replace a3 := Aside0.mk (Kd.S_after (ok := (fun k_ => some k_ ≠ (u131001 : Value).ownBlock)) z7_10 hg hat); replace a1 := Aside0.mk (Kd.R_after (ok := (fun _ => True)) z7_14 hg hat); replace a6 := Aside0.mk (blk_grown (g := b1) (o := .cells #[.slice A0_0 l0_0.length c0_0, .slice A0_1 l0_1.length c0_1] 26 (0, 0)) z7_1 hg (Kd.R_ne b5.out a6.out z7_18)); replace a7 := Aside0.mk (blk_grown (g := b2) (o := .cells #[.slice A1_0 l1_0.length c1_0, .slice A1_1 l1_1.length c1_1] 26 (0, 0)) z7_2 hg (Kd.R_ne b5.out a7.out z7_18)); replace a9 := Aside0.mk (blk_grown (g := b3) (o := .cells #[.slice none 0 0, .slice none 0 0] 26 (0, 0)) z7_4 hg (Kd.R_ne b5.out a9.out z7_18)); replace a0 := Aside0.mk (blk_grown (g := a5) (o := .cells #[u131000, u131001] 26 (0, 0)) z7_5 hg (Kd.R_ne b5.out a0.out z7_18)); replace HB := Aside0.mk (hb); have o2 := Aside0.mk (ho); clear b5; clear ho hb hg hat))
              go_roundg f6
              case measure => have := HK1.out; have := HK2.out; have := e8.out; have := f8.out; have := h7.out; omega
              case rel => exact ⟨(y150), (wrap64 (b0 + 1)), z7_9, H', ⟨z7_24⟩, ⟨by (with_reducible repeat (first | apply Kd.R_alloc | apply Kd.R_drewN | apply Kd.R_drew)); exact o2.out⟩, ⟨z7_10⟩, ⟨z7_11⟩, ⟨z7_1⟩, ⟨z7_2⟩, ⟨z7_4⟩, ⟨z7_5⟩, ⟨z7_0⟩⟩
             rw [if_neg u1] at H
             exact absurd H (by simp)
      rw [if_neg h8] at H
      have g0 : decide (b0 < (wrap64 ((wrap64 ((l0_1.length : Int) + (l1_1.length : Int))) - 2))) = false := decide_eq_false h8
      clear h8
      by_cases u2 : a4.length < 5864062014805
      ·
       rw [if_pos u2] at H
       have LMc59 := Aside0.mk u2
       clear u2
       obtain ⟨y153, hy153⟩ : ∃ y_ : List (List Int), y_ = (a4 ++ [b9]) := ⟨_, rfl⟩
       replace H : (if a8 = 0 then (if a2.length < 17592186044416 then (spec_l20Glued.l0 k2 (l0_1.length : Int) (l1_1.length : Int) (wrap64 (a8 + 1)) l0_0 l0_1 l1_0 l1_1 y153 (a2 ++ [wrap64 ((wrap64 ((l0_1.length : Int) + (l1_1.length : Int))) - 3)])) else (none)) else (if a8 = (wrap64 ((wrap64 ((l0_1.length : Int) + (l1_1.length : Int))) - 3)) then (if a2.length < 17592186044416 then (spec_l20Glued.l0 k2 (l0_1.length : Int) (l1_1.length : Int) (wrap64 (a8 + 1)) l0_0 l0_1 l1_0 l1_1 y153 (a2 ++ [0])) else (none)) else (if a8 < (wrap64 ((l0_1.length : Int) - 1)) then (if 0 ≤ a8 then (if a8 < (l0_1.length : Int) then (if a2.length < 17592186044416 then (spec_l20Glued.l0 k2 (l0_1.length : Int) (l1_1.length : Int) (wrap64 (a8 + 1)) l0_0 l0_1 l1_0 l1_1 y153 (a2 ++ [rd l0_1 a8])) else (none)) else (none)) else (none)) else (if 0 ≤ (wrap64 ((wrap64 (a8 - (l0_1.length : Int))) + 2)) then (if (wrap64 ((wrap64 (a8 - (l0_1.length : Int))) + 2)) < (l1_1.length : Int) then (if a2.length < 17592186044416 then (spec_l20Glued.l0 k2 (l0_1.length : Int) (l1_1.length : Int) (wrap64 (a8 + 1)) l0_0 l0_1 l1_0 l1_1 y153 (a2 ++ [wrap64 ((wrap64 ((rd l1_1 (wrap64 ((wrap64 (a8 - (l0_1.length : Int))) + 2))) + (l0_1.length : Int))) - 2)])) else (none)) else (none)) else (none))))) = some (r1, r2) := by first | (rw [hy153]; with_reducible exact H) | (have H2_ := (Option.bind_some _ _).symm.trans H; rw [hy153]; with_reducible exact H2_) | (have H2_ := (Option.bind_some _ _).symm.trans H; with_reducible exact H2_) | with_reducible exact H | (rw [hy153]; exact H) | exact H
       have Ny153 := Aside0.mk hy153
       clear hy153
       by_cases l3 : a8 = 0
       ·
        rw [if_pos l3] at H
        have o3 := bt_ l3
        have o4 := bu_ l3
        clear l3
        by_cases u3 : a2.length < 17592186044416
        ·
         rw [if_pos u3] at H
         have LMc61 := Aside0.mk u3
         clear u3
         obtain ⟨y156, hy156⟩ : ∃ y_ : List Int, y_ = (a2 ++ [wrap64 ((wrap64 ((l0_1.length : Int) + (l1_1.length : Int))) - 3)]) := ⟨_, rfl⟩
         replace H : (spec_l20Glued.l0 k2 (l0_1.length : Int) (l1_1.length : Int) (wrap64 (a8 + 1)) l0_0 l0_1 l1_0 l1_1 y153 y156) = some (r1, r2) := by first | (rw [hy156]; with_reducible exact H) | (have H2_ := (Option.bind_some _ _).symm.trans H; rw [hy156]; with_reducible exact H2_) | (have H2_ := (Option.bind_some _ _).symm.trans H; with_reducible exact H2_) | with_reducible exact H | (rw [hy156]; exact H) | exact H
         have Ny156 := Aside0.mk hy156
         clear hy156
         have H' := Aside0.mk H
         clear H
         have C2 := d0.out
         have C3 := b6.out
         have C4 := d1.out
         have C5 := b7.out
         have C6 := d6.out
         have C7 := b8.out
         have d2 := cz20 a0.out
         have d3 := cz21 a0.out
         have d4 := blk_frozen a0.out 0
         have d5 := blk_frozen a0.out 1
         obtain ⟨o5, o6, v3⟩ := Kd.R_slice b5.out
         subst v3
         go_wp2_with (first | ((with_reducible refine gate_builtin (b := .append) (xs := #[.tmp 108, .tmp 110]) rfl ?_); at_builtin; refine Kd.S_append (Kd.slice 3 (Kd.int .i64)) (w0 := w) w.heap.size rfl (.tmp 108) (.tmp 110) 23 24 (.slice none 0 0) 24 rfl Try.underlying23 info24 rfl z7_18 (by omega) u131000 a4 b9 [.slice o5 b9.length o6] (fun k_ => some k_ ≠ (u131001 : Value).ownBlock) (fun k_ => some k_ = (.slice o5 b9.length o6 : Value).ownBlock) rfl rfl ?aP (fun k_ hk_ => ((Kd.R_mono (ok' := fun k_ => ((fun k_ => some k_ ≠ (u131001 : Value).ownBlock)) k_ ∧ some k_ ≠ (u131000 : Value).ownBlock) (Kd.R_apart' (b5.out) (Kd.S_typed a3.out) z7_18) (fun k_ hk => ⟨hk.1, hk.2⟩))).1 k_ hk_.symm) ?aF ?aO ?aB ?aS ?aL ?_; (case aP => exact Kd.M_row (Kd.R_mono (Kd.R_tight rfl (Kd.R_mono (ok' := fun k_ => ((fun k_ => some k_ ≠ (u131001 : Value).ownBlock)) k_ ∧ some k_ ≠ (u131000 : Value).ownBlock) (Kd.R_apart' (b5.out) (Kd.S_typed a3.out) z7_18) (fun k_ hk => ⟨hk.1, hk.2⟩))) (fun _ h_ => h_))); (case aB => exact z7_0); (case aF => exact (fun k_ hk => Kd.fresh' (Kd.R_lt z7_3) k_ hk)); (case aO => exact z7_16); (case aS => exact (below_size z7_0)); (case aL => have := LMc59.out; omega); intro l4 I7 ho hb hg hat; rw [← Ny153.out] at ho; replace a1 := Aside0.mk (Kd.R_over' z7_3 (Kd.S_typed z7_12) z7_18 hg); replace a6 := Aside0.mk (blk_grown (g := b1) (o := .cells #[.slice A0_0 l0_0.length c0_0, .slice A0_1 l0_1.length c0_1] 26 (0, 0)) z7_1 hg (Kd.S_ne a3.out a6.out z7_18)); replace a7 := Aside0.mk (blk_grown (g := b2) (o := .cells #[.slice A1_0 l1_0.length c1_0, .slice A1_1 l1_1.length c1_1] 26 (0, 0)) z7_2 hg (Kd.S_ne a3.out a7.out z7_18)); replace a9 := Aside0.mk (blk_grown (g := b3) (o := .cells #[.slice none 0 0, .slice none 0 0] 26 (0, 0)) z7_4 hg (Kd.S_ne a3.out a9.out z7_18)); replace a0 := Aside0.mk (blk_grown (g := a5) (o := .cells #[u131000, u131001] 26 (0, 0)) z7_5 hg (Kd.S_ne a3.out a0.out z7_18)); replace HB := Aside0.mk (hb); have b4 := Aside0.mk (ho); clear a3 b5; clear ho hb hg hat; obtain ⟨g5, g6, v4⟩ := Kd.S_slice b4.out; subst v4; have d2 := cz20 a0.out; have d3 := cz21 a0.out; have d4 := blk_frozen a0.out 0; have d5 := blk_frozen a0.out 1) | ((with_reducible refine gate_builtin (b := .append) (xs := #[.tmp 133, .tmp 138]) rfl ?_); at_builtin; refine Kd.R_append (Kd.int .i64) (w0 := w) w.heap.size rfl (.tmp 133) (.tmp 138) 24 3 (.int .i64 0) 8 rfl Try.underlying24 info3 rfl z7_18 (by omega) u131001 a2 (wrap64 ((wrap64 ((l0_1.length : Int) + (l1_1.length : Int))) - 3)) [.int .i64 (wrap64 ((wrap64 ((l0_1.length : Int) + (l1_1.length : Int))) - 3))] (fun _ => True) (fun _ => False) rfl (by first | (go_simp; done) | (go_simp; rfl)) ?aP (fun _ hk => hk.elim) ?aF ?aO ?aB ?aS ?aL ?_; (case aP => exact rfl); (case aB => exact z7_0); (case aF => exact (fun _ _ => trivial)); (case aO => exact (by (with_reducible repeat (first | apply Kd.R_alloc | apply Kd.R_drewN | apply Kd.R_drew)); exact Kd.R_mono (Kd.R_far (p := ⟨a5, 0, none⟩) (Kd.R_types a1.out a0.out z7_18) (fun _ hk => hk.2) (.slice g5 y153.length g6)) (fun _ hk => trivial))); (case aS => exact (below_size z7_0)); (case aL => have := LMc61.out; omega); intro F8 I8 ho hb hg hat; rw [← Ny156.out] at ho; replace a6 := Aside0.mk (blk_grown (g := b1) (o := .cells #[.slice A0_0 l0_0.length c0_0, .slice A0_1 l0_1.length c0_1] 26 (0, 0)) z7_8 hg (Kd.R_ne a1.out a6.out z7_18)); replace a7 := Aside0.mk (blk_grown (g := b2) (o := .cells #[.slice A1_0 l1_0.length c1_0, .slice A1_1 l1_1.length c1_1] 26 (0, 0)) z7_7 hg (Kd.R_ne a1.out a7.out z7_18)); replace a9 := Aside0.mk (blk_grown (g := b3) (o := .cells #[.slice none 0 0, .slice none 0 0] 26 (0, 0)) z7_6 hg (Kd.R_ne a1.out a9.out z7_18)); replace b4 := Aside0.mk (Kd.S_after (ok := (fun _ => True)) (by (with_reducible repeat (first | apply Kd.S_alloc | apply Kd.S_drewN | apply Kd.S_drew)); exact Kd.S_mono (Kd.S_far (p := ⟨a5, 0, none⟩) (Kd.S_types b4.out a0.out z7_18) (fun _ hk => hk.2) (.slice g5 y153.length g6)) (fun _ hk => ⟨trivial, hk.1⟩)) hg hat); replace a0 := Aside0.mk (blk_grown (g := a5) (o := .cells #[.slice g5 y153.length g6, u131001] 26 (0, 0)) z7_21 hg (Kd.R_ne a1.out a0.out z7_18)); replace HB := Aside0.mk (hb); have i7 := Aside0.mk (ho); clear a1; clear ho hb hg hat; obtain ⟨l5, l6, v5⟩ := Kd.R_slice i7.out; subst v5; have d2 := cz20 a0.out; have d3 := cz21 a0.out; have d4 := blk_frozen a0.out 0; have d5 := blk_frozen a0.out 1))
         go_roundg k2
         case measure => have := HK1.out; have := HK2.out; omega
         case rel => exact ⟨(wrap64 (a8 + 1)), (y153), (y156), (.slice g5 y153.length g6), (.slice l5 y156.length l6), z7_9, H', ⟨by have := HK1.out; have := HK2.out; omega⟩, ⟨by (with_reducible repeat (first | apply Kd.S_alloc | apply Kd.S_drewN | apply Kd.S_drew)); exact Kd.S_mono (Kd.S_far (p := ⟨a5, 1, none⟩) (Kd.S_types b4.out a0.out z7_18) (fun _ hk => hk.2) (.slice l5 y156.length l6)) (fun _ hk => hk.1.2)⟩, ⟨by (with_reducible repeat (first | apply Kd.R_alloc | apply Kd.R_drewN | apply Kd.R_drew)); exact Kd.R_mono (Kd.R_far (p := ⟨a5, 1, none⟩) (Kd.R_types i7.out a0.out z7_18) (fun _ hk => hk.2) (.slice l5 y156.length l6)) (fun _ hk => trivial)⟩, ⟨z7_8⟩, ⟨z7_7⟩, ⟨z7_6⟩, ⟨by (with_reducible repeat (first | refine blk_drewN ?_ _ | refine blk_drew ?_ | refine blk_alloc ?_ _)); refine blk_put (cs := #[.slice g5 y153.length g6, u131001]) ?_ 1 _ rfl; (with_reducible repeat (first | refine blk_drewN ?_ _ | refine blk_drew ?_ | refine blk_alloc ?_ _)); exact a0.out⟩, ⟨z7_0⟩⟩
        rw [if_neg u3] at H
        exact absurd H (by simp)
       rw [if_neg l3] at H
       have o3 := bv_ l3
       have o4 := bw_ l3
       by_cases l7 : a8 = (wrap64 ((wrap64 ((l0_1.length : Int) + (l1_1.length : Int))) - 3))
       ·
        rw [if_pos l7] at H
        have o7 := bt_ l7
        have o8 := bu_ l7
        clear l7
        by_cases u4 : a2.length < 17592186044416
        ·
         rw [if_pos u4] at H
         have LMc74 := Aside0.mk u4
         clear u4
         obtain ⟨y159, hy159⟩ : ∃ y_ : List Int, y_ = (a2 ++ [0]) := ⟨_, rfl⟩
         replace H : (spec_l20Glued.l0 k2 (l0_1.length : Int) (l1_1.length : Int) (wrap64 (a8 + 1)) l0_0 l0_1 l1_0 l1_1 y153 y159) = some (r1, r2) := by first | (rw [hy159]; with_reducible exact H) | (have H2_ := (Option.bind_some _ _).symm.trans H; rw [hy159]; with_reducible exact H2_) | (have H2_ := (Option.bind_some _ _).symm.trans H; with_reducible exact H2_) | with_reducible exact H | (rw [hy159]; exact H) | exact H
         have Ny159 := Aside0.mk hy159
         clear hy159
         have H' := Aside0.mk H
         clear H
         have C8 := d0.out
         have C9 := b6.out
         have D0 := d1.out
         have D1 := b7.out
         have D2 := d6.out
         have D3 := b8.out
         have d2 := cz20 a0.out
         have d3 := cz21 a0.out
         have d4 := blk_frozen a0.out 0
         have d5 := blk_frozen a0.out 1
         obtain ⟨o9, q0, v6⟩ := Kd.R_slice b5.out
         subst v6
         go_wp2_with (first | ((with_reducible refine gate_builtin (b := .append) (xs := #[.tmp 108, .tmp 110]) rfl ?_); at_builtin; refine Kd.S_append (Kd.slice 3 (Kd.int .i64)) (w0 := w) w.heap.size rfl (.tmp 108) (.tmp 110) 23 24 (.slice none 0 0) 24 rfl Try.underlying23 info24 rfl z7_18 (by omega) u131000 a4 b9 [.slice o9 b9.length q0] (fun k_ => some k_ ≠ (u131001 : Value).ownBlock) (fun k_ => some k_ = (.slice o9 b9.length q0 : Value).ownBlock) rfl rfl ?aP (fun k_ hk_ => ((Kd.R_mono (ok' := fun k_ => ((fun k_ => some k_ ≠ (u131001 : Value).ownBlock)) k_ ∧ some k_ ≠ (u131000 : Value).ownBlock) (Kd.R_apart' (b5.out) (Kd.S_typed a3.out) z7_18) (fun k_ hk => ⟨hk.1, hk.2⟩))).1 k_ hk_.symm) ?aF ?aO ?aB ?aS ?aL ?_; (case aP => exact Kd.M_row (Kd.R_mono (Kd.R_tight rfl (Kd.R_mono (ok' := fun k_ => ((fun k_ => some k_ ≠ (u131001 : Value).ownBlock)) k_ ∧ some k_ ≠ (u131000 : Value).ownBlock) (Kd.R_apart' (b5.out) (Kd.S_typed a3.out) z7_18) (fun k_ hk => ⟨hk.1, hk.2⟩))) (fun _ h_ => h_))); (case aB => exact z7_0); (case aF => exact (fun k_ hk => Kd.fresh' (Kd.R_lt z7_3) k_ hk)); (case aO => exact z7_16); (case aS => exact (below_size z7_0)); (case aL => have := LMc59.out; omega); intro l4 I9 ho hb hg hat; rw [← Ny153.out] at ho; replace a1 := Aside0.mk (Kd.R_over' z7_3 (Kd.S_typed z7_12) z7_18 hg); replace a6 := Aside0.mk (blk_grown (g := b1) (o := .cells #[.slice A0_0 l0_0.length c0_0, .slice A0_1 l0_1.length c0_1] 26 (0, 0)) z7_1 hg (Kd.S_ne a3.out a6.out z7_18)); replace a7 := Aside0.mk (blk_grown (g := b2) (o := .cells #[.slice A1_0 l1_0.length c1_0, .slice A1_1 l1_1.length c1_1] 26 (0, 0)) z7_2 hg (Kd.S_ne a3.out a7.out z7_18)); replace a9 := Aside0.mk (blk_grown (g := b3) (o := .cells #[.slice none 0 0, .slice none 0 0] 26 (0, 0)) z7_4 hg (Kd.S_ne a3.out a9.out z7_18)); replace a0 := Aside0.mk (blk_grown (g := a5) (o := .cells #[u131000, u131001] 26 (0, 0)) z7_5 hg (Kd.S_ne a3.out a0.out z7_18)); replace HB := Aside0.mk (hb); have b4 := Aside0.mk (ho); clear a3 b5; clear ho hb hg hat; obtain ⟨g7, g8, v7⟩ := Kd.S_slice b4.out; subst v7; have d2 := cz20 a0.out; have d3 := cz21 a0.out; have d4 := blk_frozen a0.out 0; have d5 := blk_frozen a0.out 1) | ((with_reducible refine gate_builtin (b := .append) (xs := #[.tmp 149, .tmp 150]) rfl ?_); at_builtin; refine Kd.R_append (Kd.int .i64) (w0 := w) w.heap.size rfl (.tmp 149) (.tmp 150) 24 3 (.int .i64 0) 8 rfl Try.underlying24 info3 rfl z7_18 (by omega) u131001 a2 0 [.int .i64 0] (fun _ => True) (fun _ => False) rfl (by first | (go_simp; done) | (go_simp; rfl)) ?aP (fun _ hk => hk.elim) ?aF ?aO ?aB ?aS ?aL ?_; (case aP => exact rfl); (case aB => exact z7_0); (case aF => exact (fun _ _ => trivial)); (case aO => exact (by (with_reducible repeat (first | apply Kd.R_alloc | apply Kd.R_drewN | apply Kd.R_drew)); exact Kd.R_mono (Kd.R_far (p := ⟨a5, 0, none⟩) (Kd.R_types a1.out a0.out z7_18) (fun _ hk => hk.2) (.slice g7 y153.length g8)) (fun _ hk => trivial))); (case aS => exact (below_size z7_0)); (case aL => have := LMc74.out; omega); intro F9 J0 ho hb hg hat; rw [← Ny159.out] at ho; replace a6 := Aside0.mk (blk_grown (g := b1) (o := .cells #[.slice A0_0 l0_0.length c0_0, .slice A0_1 l0_1.length c0_1] 26 (0, 0)) z7_8 hg (Kd.R_ne a1.out a6.out z7_18)); replace a7 := Aside0.mk (blk_grown (g := b2) (o := .cells #[.slice A1_0 l1_0.length c1_0, .slice A1_1 l1_1.length c1_1] 26 (0, 0)) z7_7 hg (Kd.R_ne a1.out a7.out z7_18)); replace a9 := Aside0.mk (blk_grown (g := b3) (o := .cells #[.slice none 0 0, .slice none 0 0] 26 (0, 0)) z7_6 hg (Kd.R_ne a1.out a9.out z7_18)); replace b4 := Aside0.mk (Kd.S_after (ok := (fun _ => True)) (by (with_reducible repeat (first | apply Kd.S_alloc | apply Kd.S_drewN | apply Kd.S_drew)); exact Kd.S_mono (Kd.S_far (p := ⟨a5, 0, none⟩) (Kd.S_types b4.out a0.out z7_18) (fun _ hk => hk.2) (.slice g7 y153.length g8)) (fun _ hk => ⟨trivial, hk.1⟩)) hg hat); replace a0 := Aside0.mk (blk_grown (g := a5) (o := .cells #[.slice g7 y153.length g8, u131001] 26 (0, 0)) z7_21 hg (Kd.R_ne a1.out a0.out z7_18)); replace HB := Aside0.mk (hb); have i8 := Aside0.mk (ho); clear a1; clear ho hb hg hat; obtain ⟨l8, l9, x0⟩ := Kd.R_slice i8.out; subst x0; have d2 := cz20 a0.out; have d3 := cz21 a0.out; have d4 := blk_frozen a0.out 0; have d5 := blk_frozen a0.out 1))
         go_roundg k2
         case measure => have := HK1.out; have := HK2.out; omega
         case rel => exact ⟨(wrap64 (a8 + 1)), (y153), (y159), (.slice g7 y153.length g8), (.slice l8 y159.length l9), z7_9, H', ⟨by have := HK1.out; have := HK2.out; omega⟩, ⟨by (with_reducible repeat (first | apply Kd.S_alloc | apply Kd.S_drewN | apply Kd.S_drew)); exact Kd.S_mono (Kd.S_far (p := ⟨a5, 1, none⟩) (Kd.S_types b4.out a0.out z7_18) (fun _ hk => hk.2) (.slice l8 y159.length l9)) (fun _ hk => hk.1.2)⟩, ⟨by (with_reducible repeat (first | apply Kd.R_alloc | apply Kd.R_drewN | apply Kd.R_drew)); exact Kd.R_mono (Kd.R_far (p := ⟨a5, 1, none⟩) (Kd.R_types i8.out a0.out z7_18) (fun _ hk => hk.2) (.slice l8 y159.length l9)) (fun _ hk => trivial)⟩, ⟨z7_8⟩, ⟨z7_7⟩, ⟨z7_6⟩, ⟨by (with_reducible repeat (first | refine blk_drewN ?_ _ | refine blk_drew ?_ | refine blk_alloc ?_ _)); refine blk_put (cs := #[.slice g7 y153.length g8, u131001]) ?_ 1 _ rfl; (with_reducible repeat (first | refine blk_drewN ?_ _ | refine blk_drew ?_ | refine blk_alloc ?_ _)); exact a0.out⟩, ⟨z7_0⟩⟩
        rw [if_neg u4] at H
        exact absurd H (by simp)
       rw [if_neg l7] at H
       have o7 := bv_ l7
       have o8 := bw_ l7
       by_cases m4 : a8 < (wrap64 ((l0_1.length : Int) - 1))
       ·
        rw [if_pos m4] at H
        have q2 : decide (a8 < (wrap64 ((l0_1.length : Int) - 1))) = true := decide_eq_true m4
        clear m4
        by_cases u5 : 0 ≤ a8
        ·
         rw [if_pos u5] at H
         have D4 : decide (0 ≤ a8) = true := decide_eq_true u5
         clear u5
         by_cases u6 : a8 < (l0_1.length : Int)
         ·
          rw [if_pos u6] at H
          have D5 : decide (a8 < (l0_1.length : Int)) = true := decide_eq_true u6
          clear u6
          by_cases u7 : a2.length < 17592186044416
          ·
           rw [if_pos u7] at H
           have LMc89 := Aside0.mk u7
           clear u7
           obtain ⟨y163, hy163⟩ : ∃ y_ : List Int, y_ = (a2 ++ [rd l0_1 a8]) := ⟨_, rfl⟩
           replace H : (spec_l20Glued.l0 k2 (l0_1.length : Int) (l1_1.length : Int) (wrap64 (a8 + 1)) l0_0 l0_1 l1_0 l1_1 y153 y163) = some (r1, r2) := by first | (rw [hy163]; with_reducible exact H) | (have H2_ := (Option.bind_some _ _).symm.trans H; rw [hy163]; with_reducible exact H2_) | (have H2_ := (Option.bind_some _ _).symm.trans H; with_reducible exact H2_) | with_reducible exact H | (rw [hy163]; exact H) | exact H
           have Ny163 := Aside0.mk hy163
           clear hy163
           have H' := Aside0.mk H
           clear H
           have D6 := d0.out
           have D7 := b6.out
           have D8 := d1.out
           have D9 := b7.out
           have E0 := d6.out
           have E1 := b8.out
           have d2 := cz20 a0.out
           have d3 := cz21 a0.out
           have d4 := blk_frozen a0.out 0
           have d5 := blk_frozen a0.out 1
           obtain ⟨q3, q4, x1⟩ := Kd.R_slice b5.out
           subst x1
           try go_wp2_with (first | ((with_reducible refine gate_builtin (b := .append) (xs := #[.tmp 108, .tmp 110]) rfl ?_); at_builtin; refine Kd.S_append (Kd.slice 3 (Kd.int .i64)) (w0 := w) w.heap.size rfl (.tmp 108) (.tmp 110) 23 24 (.slice none 0 0) 24 rfl Try.underlying23 info24 rfl z7_18 (by omega) u131000 a4 b9 [.slice q3 b9.length q4] (fun k_ => some k_ ≠ (u131001 : Value).ownBlock) (fun k_ => some k_ = (.slice q3 b9.length q4 : Value).ownBlock) rfl rfl ?aP (fun k_ hk_ => ((Kd.R_mono (ok' := fun k_ => ((fun k_ => some k_ ≠ (u131001 : Value).ownBlock)) k_ ∧ some k_ ≠ (u131000 : Value).ownBlock) (Kd.R_apart' (b5.out) (Kd.S_typed a3.out) z7_18) (fun k_ hk => ⟨hk.1, hk.2⟩))).1 k_ hk_.symm) ?aF ?aO ?aB ?aS ?aL ?_; (case aP => exact Kd.M_row (Kd.R_mono (Kd.R_tight rfl (Kd.R_mono (ok' := fun k_ => ((fun k_ => some k_ ≠ (u131001 : Value).ownBlock)) k_ ∧ some k_ ≠ (u131000 : Value).ownBlock) (Kd.R_apart' (b5.out) (Kd.S_typed a3.out) z7_18) (fun k_ hk => ⟨hk.1, hk.2⟩))) (fun _ h_ => h_))); (case aB => exact z7_0); (case aF => exact (fun k_ hk => Kd.fresh' (Kd.R_lt z7_3) k_ hk)); (case aO => exact z7_16); (case aS => exact (below_size z7_0)); (case aL => have := LMc59.out; omega); intro l4 i9 ho hb hg hat; rw [← Ny153.out] at ho; replace a1 := Aside0.mk (Kd.R_over' z7_3 (Kd.S_typed z7_12) z7_18 hg); replace a6 := Aside0.mk (blk_grown (g := b1) (o := .cells #[.slice A0_0 l0_0.length c0_0, .slice A0_1 l0_1.length c0_1] 26 (0, 0)) z7_1 hg (Kd.S_ne a3.out a6.out z7_18)); replace a7 := Aside0.mk (blk_grown (g := b2) (o := .cells #[.slice A1_0 l1_0.length c1_0, .slice A1_1 l1_1.length c1_1] 26 (0, 0)) z7_2 hg (Kd.S_ne a3.out a7.out z7_18)); replace a9 := Aside0.mk (blk_grown (g := b3) (o := .cells #[.slice none 0 0, .slice none 0 0] 26 (0, 0)) z7_4 hg (Kd.S_ne a3.out a9.out z7_18)); replace a0 := Aside0.mk (blk_grown (g := a5) (o := .cells #[u131000, u131001] 26 (0, 0)) z7_5 hg (Kd.S_ne a3.out a0.out z7_18)); replace HB := Aside0.mk (hb); have b4 := Aside0.mk (ho); clear a3 b5; clear ho hb hg hat; obtain ⟨d9, e0, x2⟩ := Kd.S_slice b4.out; subst x2; have d2 := cz20 a0.out; have d3 := cz21 a0.out; have d4 := blk_frozen a0.out 0; have d5 := blk_frozen a0.out 1))
           have n0_ : Aside0 (Kd.R (Kd.int .i64) 3 (i9.setCell ⟨a5, 0, none⟩ (.slice d9 y153.length e0)) w.heap.size (fun _ => True) u131001 a2) := ⟨by (with_reducible repeat (first | apply Kd.R_alloc | apply Kd.R_drewN | apply Kd.R_drew)); exact Kd.R_mono (Kd.R_far (p := ⟨a5, 0, none⟩) (Kd.R_types a1.out a0.out z7_18) (fun _ hk => hk.2) (.slice d9 y153.length e0)) (fun _ hk => trivial)⟩
           have n1_ : Aside0 (Kd.S (Kd.slice 3 (Kd.int .i64)) 24 (i9.setCell ⟨a5, 0, none⟩ (.slice d9 y153.length e0)) w.heap.size (fun k_ => some k_ ≠ (u131001 : Value).ownBlock) (.slice d9 y153.length e0) y153) := ⟨by (with_reducible repeat (first | apply Kd.S_alloc | apply Kd.S_drewN | apply Kd.S_drew)); exact Kd.S_mono (Kd.S_far (p := ⟨a5, 0, none⟩) (Kd.S_types b4.out a0.out z7_18) (fun _ hk => hk.2) (.slice d9 y153.length e0)) (fun _ hk => hk.1)⟩
           have n2_ : Aside0 ((i9.setCell ⟨a5, 0, none⟩ (.slice d9 y153.length e0)).heap[b1]? = some (.cells #[.slice A0_0 l0_0.length c0_0, .slice A0_1 l0_1.length c0_1] 26 (0, 0))) := ⟨z7_8⟩
           have n3_ : Aside0 ((i9.setCell ⟨a5, 0, none⟩ (.slice d9 y153.length e0)).heap[b2]? = some (.cells #[.slice A1_0 l1_0.length c1_0, .slice A1_1 l1_1.length c1_1] 26 (0, 0))) := ⟨z7_7⟩
           have n4_ : Aside0 ((i9.setCell ⟨a5, 0, none⟩ (.slice d9 y153.length e0)).heap[b3]? = some (.cells #[.slice none 0 0, .slice none 0 0] 26 (0, 0))) := ⟨z7_6⟩
           have n5_ : Aside0 ((i9.setCell ⟨a5, 0, none⟩ (.slice d9 y153.length e0)).heap[a5]? = some (.cells #[.slice d9 y153.length e0, u131001] 26 (0, 0))) := ⟨z7_21⟩
           have n6_ : Aside0 (Below w.heap.size w (i9.setCell ⟨a5, 0, none⟩ (.slice d9 y153.length e0))) := ⟨z7_0⟩
           (try clear a1)
           (try clear b4)
           (try clear a6)
           (try clear a7)
           (try clear a9)
           (try clear a0)
           (try clear HB)
           generalize (i9.setCell ⟨a5, 0, none⟩ (.slice d9 y153.length e0)) = G0 at n0_ n1_ n2_ n3_ n4_ n5_ n6_ ⊢
           have a1 := n0_
           have b4 := n1_
           have a6 := n2_
           have a7 := n3_
           have a9 := n4_
           have a0 := n5_
           have HB := n6_
           clear n0_ n1_ n2_ n3_ n4_ n5_ n6_
           replace a1 := Aside0.mk (Kd.R_drew a1.out)
           replace b4 := Aside0.mk (Kd.S_drew b4.out)
           replace a6 := Aside0.mk (blk_drew a6.out)
           replace a7 := Aside0.mk (blk_drew a7.out)
           replace a9 := Aside0.mk (blk_drew a9.out)
           replace a0 := Aside0.mk (blk_drew a0.out)
           replace HB := Aside0.mk (below_drew1 HB.out)
           have m0 : 0 ≤ (a8 : Int) := of_decide_eq_true z7_15
           have q162 : a8 < (l0_1.length : Int) := of_decide_eq_true z7_15
           obtain ⟨ad162, e162, hx162_0⟩ := Kd.at_int HR0_1.out a8 m0 q162
           have hw162_0 := hx162_0
           cases e162
           replace hx162_0 := (HB.out.cell (World.block_lt_of_cell? w _ hx162_0)).trans hx162_0
           replace m0 := eq_true m0
           replace q162 := eq_true q162
           refine start_ (n := 11) (S := fun w' => w'.cell? ⟨a5, 0, none⟩ = some (.slice d9 y153.length e0) ∧ w'.cell? ⟨a5, 1, none⟩ = some (u131001) ∧ w'.cell? ⟨b1, 0, none⟩ = some (.slice A0_0 l0_0.length c0_0) ∧ w'.cell? ⟨b1, 1, none⟩ = some (.slice (some ad162) l0_1.length c0_1) ∧ w'.cell? (ad162.add (a8).toNat) = some (.int .i64 (rd l0_1 a8))) (ds := [10]) (bA 11 0) (by kernel_rfl) rfl rfl ⟨(blk_cell a0.out 0).trans rfl, (blk_cell a0.out 1).trans rfl, (blk_cell a6.out 0).trans rfl, (blk_cell a6.out 1).trans rfl, ((HB.out.cell (World.block_lt_of_cell? w _ hw162_0)).trans hw162_0)⟩ (fun hHeld => ?_); refine with_tabW spec_l20Glued.tab28 spec_l20Glued.bits28 (fun HT_ HW_ => ?_)
           generalize G0.drew = J1 at a1 b4 a6 a7 a9 a0 HB hx162_0 hHeld ⊢
           refine pu_ (i := 0) (N := some 158) (bA 11 1) ?_
           refine pu_ (i := 2) (N := some 160) (bA 11 5) ?_
           refine pu_ (i := 4) (N := some 162) (bA 11 21) ?_
           refine tk_ (i := 1) (N := some 159) (bA 11 23) ?_
           refine tk_ (i := 3) (N := some 161) (bA 11 31) ?_
           refine pu_ (i := 5) (N := some 163) (bA 11 63) ?_
           refine tk_ (i := 6) (N := some 164) (bA 11 127) ?_
           refine one_ (i := 7) (N := some 165) (bA 11 255) rfl rfl (one_of HT_.out (by kernel_rfl)) z7_18 (fun K hK => ?_)
           refine value_ (w1 := ?_) (v := ?_) (by rfl) rfl ?_ ?_
           rotate_left 2
           ·
            go_simp
            constructor
            ·
             rfl
            rfl
           refine hK.out _ _ ⟨(blk_cell (blk_alloc a0.out _) 0).trans rfl, (blk_cell (blk_alloc a0.out _) 1).trans rfl, (blk_cell (blk_alloc a6.out _) 0).trans rfl, (blk_cell (blk_alloc a6.out _) 1).trans rfl, (World.cell?_alloc_lt _ _ _ (World.block_lt_of_cell? _ _ (((HB.out.cell (World.block_lt_of_cell? w _ hw162_0)).trans hw162_0)))).trans (((HB.out.cell (World.block_lt_of_cell? w _ hw162_0)).trans hw162_0))⟩ (fun hHeld => ?_)
           clear hK K
           refine no_ (N := some 165) ?_
           refine one_ (i := 8) (N := some 166) (bA 11 511) rfl rfl (one_of HT_.out (by kernel_rfl)) z7_18 (fun K hK => ?_)
           refine Kd.R_append_step (Kd.int .i64) (w0 := w) w.heap.size (by rfl) (.tmp 159) (.tmp 165) 24 3 (.int .i64 0) 8 rfl Try.underlying24 info3 rfl z7_18 (by omega) u131001 a2 (rd l0_1 a8) [.int .i64 (rd l0_1 a8)] (fun _ => True) (fun _ => False) rfl rfl ?aP (fun _ hk => hk.elim) ?aF ?aO ?aB ?aS ?aL ?_
           (case aP => exact rfl)
           (case aB => exact z7_0)
           (case aF => exact (fun _ _ => trivial))
           (case aO => exact z7_3)
           (case aS => exact (below_size z7_0))
           (case aL => have := LMc89.out; omega)
           intro G1 G2 ho hb hg hat
           rw [← Ny163.out] at ho
           replace a6 := Aside0.mk (blk_grown (g := b1) (o := .cells #[.slice A0_0 l0_0.length c0_0, .slice (some ad162) l0_1.length c0_1] 26 (0, 0)) z7_1 hg (Kd.R_ne a1.out a6.out z7_18))
           replace a7 := Aside0.mk (blk_grown (g := b2) (o := .cells #[.slice A1_0 l1_0.length c1_0, .slice A1_1 l1_1.length c1_1] 26 (0, 0)) z7_2 hg (Kd.R_ne a1.out a7.out z7_18))
           replace a9 := Aside0.mk (blk_grown (g := b3) (o := .cells #[.slice none 0 0, .slice none 0 0] 26 (0, 0)) z7_4 hg (Kd.R_ne a1.out a9.out z7_18))
           replace a0 := Aside0.mk (blk_grown (g := a5) (o := .cells #[.slice d9 y153.length e0, u131001] 26 (0, 0)) z7_5 hg (Kd.R_ne a1.out a0.out z7_18))
           replace b4 := Aside0.mk (Kd.S_after (ok := (fun _ => True)) z7_25 hg hat)
           replace HB := Aside0.mk (hb)
           have j0 := Aside0.mk (ho)
           clear a1 ho hb hg hat
           obtain ⟨g9, h0, j1⟩ := Kd.R_slice j0.out
           (first | subst j1 | (injection j1 with f1_ f2_ f3_; have f4_ := f1_.symm; have f5_ := f3_.symm; clear f1_ f2_ f3_; subst f4_; subst f5_))
           refine hK.out _ _ ⟨(blk_cell a0.out 0).trans rfl, (blk_cell a0.out 1).trans rfl, (blk_cell a6.out 0).trans rfl, (blk_cell a6.out 1).trans rfl, ((HB.out.cell (World.block_lt_of_cell? w _ hw162_0)).trans hw162_0)⟩ (fun hHeld => ?_)
           clear hK K
           refine no_ (N := some 166) ?_
           refine pu_ (i := 9) (N := some 167) (bA 11 1023) ?_
           refine last_ (i := 10) (N := none) (bA 11 2047) rfl rfl (one_of HT_.out (by kernel_rfl)) z7_18 (fun K hK => ?_)
           have hs102 : _ := cz21 a0.out
           have hfs102 := blk_frozen a0.out 1
           have hns102_0 := b6.out
           have hns102_1 := b7.out
           have hns102_2 := b8.out
           have hms102_0 := d0.out
           have hms102_1 := d1.out
           have hms102_2 := d6.out
           refine skip_ (w1 := ?_) (by rfl) rfl ?_ ?_
           rotate_left
           ·
            go_simp
            rfl
           refine hK.out _ _ ?_
           clear hK K
           refine done_ (done_of HT_.out (by kernel_rfl)) ?_
           try go_wp2
           go_roundg k2
           case measure => have := HK1.out; have := HK2.out; omega
           case rel => exact ⟨(wrap64 (a8 + 1)), (y153), (y163), (.slice d9 y153.length e0), (.slice g9 y163.length h0), z7_9, H', ⟨by have := HK1.out; have := HK2.out; omega⟩, ⟨by (with_reducible repeat (first | apply Kd.S_alloc | apply Kd.S_drewN | apply Kd.S_drew)); exact Kd.S_mono (Kd.S_far (p := ⟨a5, 1, none⟩) (Kd.S_types b4.out a0.out z7_18) (fun _ hk => hk.2) (.slice g9 y163.length h0)) (fun _ hk => hk.1.2)⟩, ⟨by (with_reducible repeat (first | apply Kd.R_alloc | apply Kd.R_drewN | apply Kd.R_drew)); exact Kd.R_mono (Kd.R_far (p := ⟨a5, 1, none⟩) (Kd.R_types j0.out a0.out z7_18) (fun _ hk => hk.2) (.slice g9 y163.length h0)) (fun _ hk => trivial)⟩, ⟨z7_8⟩, ⟨z7_7⟩, ⟨z7_6⟩, ⟨by (with_reducible repeat (first | refine blk_drewN ?_ _ | refine blk_drew ?_ | refine blk_alloc ?_ _)); refine blk_put (cs := #[.slice d9 y153.length e0, u131001]) ?_ 1 _ rfl; (with_reducible repeat (first | refine blk_drewN ?_ _ | refine blk_drew ?_ | refine blk_alloc ?_ _)); exact a0.out⟩, ⟨z7_0⟩⟩
          rw [if_neg u7] at H
          exact absurd H (by simp)
         rw [if_neg u6] at H
         exact absurd H (by simp)
        rw [if_neg u5] at H
        exact absurd H (by simp)
       rw [if_neg m4] at H
       have q2 : decide (a8 < (wrap64 ((l0_1.length : Int) - 1))) = false := decide_eq_false m4
       clear m4
       obtain ⟨ji103, hji103⟩ : ∃ j_ : Int, (wrap64 ((wrap64 (a8 - (l0_1.length : Int))) + 2)) = j_ := ⟨_, rfl⟩
       replace H : (if 0 ≤ (ji103) then (if (ji103) < (l1_1.length : Int) then (if a2.length < 17592186044416 then (spec_l20Glued.l0 k2 (l0_1.length : Int) (l1_1.length : Int) (wrap64 (a8 + 1)) l0_0 l0_1 l1_0 l1_1 y153 (a2 ++ [wrap64 ((wrap64 ((rd l1_1 (ji103)) + (l0_1.length : Int))) - 2)])) else (none)) else (none)) else (none)) = some (r1, r2) := by first | (rw [hji103] at H; exact H) | (simp only [hji103] at H ⊢; exact H)
       have hji103w : (IntKind.i64.wrap ((wrap64 (a8 - (l0_1.length : Int))) + 2)) = ji103 := (i64_w _).trans hji103
       by_cases i1 : 0 ≤ (ji103)
       ·
        rw [if_pos i1] at H
        have x3 : decide (0 ≤ (ji103)) = true := decide_eq_true i1
        clear i1
        by_cases i2 : (ji103) < (l1_1.length : Int)
        ·
         rw [if_pos i2] at H
         have x4 : decide ((ji103) < (l1_1.length : Int)) = true := decide_eq_true i2
         clear i2
         by_cases i3 : a2.length < 17592186044416
         ·
          rw [if_pos i3] at H
          have LMc106 := Aside0.mk i3
          clear i3
          obtain ⟨y167, hy167⟩ : ∃ y_ : List Int, y_ = (a2 ++ [wrap64 ((wrap64 ((rd l1_1 (ji103)) + (l0_1.length : Int))) - 2)]) := ⟨_, rfl⟩
          replace H : (spec_l20Glued.l0 k2 (l0_1.length : Int) (l1_1.length : Int) (wrap64 (a8 + 1)) l0_0 l0_1 l1_0 l1_1 y153 y167) = some (r1, r2) := by first | (rw [hy167]; with_reducible exact H) | (have H2_ := (Option.bind_some _ _).symm.trans H; rw [hy167]; with_reducible exact H2_) | (have H2_ := (Option.bind_some _ _).symm.trans H; with_reducible exact H2_) | with_reducible exact H | (rw [hy167]; exact H) | exact H
          have Ny167 := Aside0.mk hy167
          clear hy167
          have H' := Aside0.mk H
          clear H
          have x5 := d0.out
          have x6 := b6.out
          have x7 := d1.out
          have x8 := b7.out
          have x9 := d6.out
          have y0 := b8.out
          have d2 := cz20 a0.out
          have d3 := cz21 a0.out
          have d4 := blk_frozen a0.out 0
          have d5 := blk_frozen a0.out 1
          obtain ⟨j5, j6, q5⟩ := Kd.R_slice b5.out
          subst q5
          try go_wp2_with (first | ((with_reducible refine gate_builtin (b := .append) (xs := #[.tmp 108, .tmp 110]) rfl ?_); at_builtin; refine Kd.S_append (Kd.slice 3 (Kd.int .i64)) (w0 := w) w.heap.size rfl (.tmp 108) (.tmp 110) 23 24 (.slice none 0 0) 24 rfl Try.underlying23 info24 rfl z7_18 (by omega) u131000 a4 b9 [.slice j5 b9.length j6] (fun k_ => some k_ ≠ (u131001 : Value).ownBlock) (fun k_ => some k_ = (.slice j5 b9.length j6 : Value).ownBlock) rfl rfl ?aP (fun k_ hk_ => ((Kd.R_mono (ok' := fun k_ => ((fun k_ => some k_ ≠ (u131001 : Value).ownBlock)) k_ ∧ some k_ ≠ (u131000 : Value).ownBlock) (Kd.R_apart' (b5.out) (Kd.S_typed a3.out) z7_18) (fun k_ hk => ⟨hk.1, hk.2⟩))).1 k_ hk_.symm) ?aF ?aO ?aB ?aS ?aL ?_; (case aP => exact Kd.M_row (Kd.R_mono (Kd.R_tight rfl (Kd.R_mono (ok' := fun k_ => ((fun k_ => some k_ ≠ (u131001 : Value).ownBlock)) k_ ∧ some k_ ≠ (u131000 : Value).ownBlock) (Kd.R_apart' (b5.out) (Kd.S_typed a3.out) z7_18) (fun k_ hk => ⟨hk.1, hk.2⟩))) (fun _ h_ => h_))); (case aB => exact z7_0); (case aF => exact (fun k_ hk => Kd.fresh' (Kd.R_lt z7_3) k_ hk)); (case aO => exact z7_16); (case aS => exact (below_size z7_0)); (case aL => have := LMc59.out; omega); intro l4 f7 ho hb hg hat; rw [← Ny153.out] at ho; replace a1 := Aside0.mk (Kd.R_over' z7_3 (Kd.S_typed z7_12) z7_18 hg); replace a6 := Aside0.mk (blk_grown (g := b1) (o := .cells #[.slice A0_0 l0_0.length c0_0, .slice A0_1 l0_1.length c0_1] 26 (0, 0)) z7_1 hg (Kd.S_ne a3.out a6.out z7_18)); replace a7 := Aside0.mk (blk_grown (g := b2) (o := .cells #[.slice A1_0 l1_0.length c1_0, .slice A1_1 l1_1.length c1_1] 26 (0, 0)) z7_2 hg (Kd.S_ne a3.out a7.out z7_18)); replace a9 := Aside0.mk (blk_grown (g := b3) (o := .cells #[.slice none 0 0, .slice none 0 0] 26 (0, 0)) z7_4 hg (Kd.S_ne a3.out a9.out z7_18)); replace a0 := Aside0.mk (blk_grown (g := a5) (o := .cells #[u131000, u131001] 26 (0, 0)) z7_5 hg (Kd.S_ne a3.out a0.out z7_18)); replace HB := Aside0.mk (hb); have b4 := Aside0.mk (ho); clear a3 b5; clear ho hb hg hat; obtain ⟨d7, d8, q6⟩ := Kd.S_slice b4.out; subst q6; have d2 := cz20 a0.out; have d3 := cz21 a0.out; have d4 := blk_frozen a0.out 0; have d5 := blk_frozen a0.out 1))
          have n0_ : Aside0 (Kd.R (Kd.int .i64) 3 (f7.setCell ⟨a5, 0, none⟩ (.slice d7 y153.length d8)) w.heap.size (fun _ => True) u131001 a2) := ⟨by (with_reducible repeat (first | apply Kd.R_alloc | apply Kd.R_drewN | apply Kd.R_drew)); exact Kd.R_mono (Kd.R_far (p := ⟨a5, 0, none⟩) (Kd.R_types a1.out a0.out z7_18) (fun _ hk => hk.2) (.slice d7 y153.length d8)) (fun _ hk => trivial)⟩
          have n1_ : Aside0 (Kd.S (Kd.slice 3 (Kd.int .i64)) 24 (f7.setCell ⟨a5, 0, none⟩ (.slice d7 y153.length d8)) w.heap.size (fun k_ => some k_ ≠ (u131001 : Value).ownBlock) (.slice d7 y153.length d8) y153) := ⟨by (with_reducible repeat (first | apply Kd.S_alloc | apply Kd.S_drewN | apply Kd.S_drew)); exact Kd.S_mono (Kd.S_far (p := ⟨a5, 0, none⟩) (Kd.S_types b4.out a0.out z7_18) (fun _ hk => hk.2) (.slice d7 y153.length d8)) (fun _ hk => hk.1)⟩
          have n2_ : Aside0 ((f7.setCell ⟨a5, 0, none⟩ (.slice d7 y153.length d8)).heap[b1]? = some (.cells #[.slice A0_0 l0_0.length c0_0, .slice A0_1 l0_1.length c0_1] 26 (0, 0))) := ⟨z7_8⟩
          have n3_ : Aside0 ((f7.setCell ⟨a5, 0, none⟩ (.slice d7 y153.length d8)).heap[b2]? = some (.cells #[.slice A1_0 l1_0.length c1_0, .slice A1_1 l1_1.length c1_1] 26 (0, 0))) := ⟨z7_7⟩
          have n4_ : Aside0 ((f7.setCell ⟨a5, 0, none⟩ (.slice d7 y153.length d8)).heap[b3]? = some (.cells #[.slice none 0 0, .slice none 0 0] 26 (0, 0))) := ⟨z7_6⟩
          have n5_ : Aside0 ((f7.setCell ⟨a5, 0, none⟩ (.slice d7 y153.length d8)).heap[a5]? = some (.cells #[.slice d7 y153.length d8, u131001] 26 (0, 0))) := ⟨z7_21⟩
          have n6_ : Aside0 (Below w.heap.size w (f7.setCell ⟨a5, 0, none⟩ (.slice d7 y153.length d8))) := ⟨z7_0⟩
          (try clear a1)
          (try clear b4)
          (try clear a6)
          (try clear a7)
          (try clear a9)
          (try clear a0)
          (try clear HB)
          generalize (f7.setCell ⟨a5, 0, none⟩ (.slice d7 y153.length d8)) = y1 at n0_ n1_ n2_ n3_ n4_ n5_ n6_ ⊢
          have a1 := n0_
          have b4 := n1_
          have a6 := n2_
          have a7 := n3_
          have a9 := n4_
          have a0 := n5_
          have HB := n6_
          clear n0_ n1_ n2_ n3_ n4_ n5_ n6_
          replace a1 := Aside0.mk (Kd.R_drew a1.out)
          replace b4 := Aside0.mk (Kd.S_drew b4.out)
          replace a6 := Aside0.mk (blk_drew a6.out)
          replace a7 := Aside0.mk (blk_drew a7.out)
          replace a9 := Aside0.mk (blk_drew a9.out)
          replace a0 := Aside0.mk (blk_drew a0.out)
          replace HB := Aside0.mk (below_drew1 HB.out)
          have m1 : 0 ≤ ((ji103) : Int) := of_decide_eq_true z7_15
          have q166 : (ji103) < (l1_1.length : Int) := of_decide_eq_true z7_15
          obtain ⟨ad166, e166, hx166_0⟩ := Kd.at_int HR1_1.out (ji103) m1 q166
          have hw166_0 := hx166_0
          cases e166
          replace hx166_0 := (HB.out.cell (World.block_lt_of_cell? w _ hx166_0)).trans hx166_0
          replace m1 := eq_true m1
          replace q166 := eq_true q166
          refine start_ (n := 17) (S := fun w' => w'.cell? ⟨a5, 0, none⟩ = some (.slice d7 y153.length d8) ∧ w'.cell? ⟨a5, 1, none⟩ = some (u131001) ∧ w'.cell? ⟨b2, 0, none⟩ = some (.slice A1_0 l1_0.length c1_0) ∧ w'.cell? ⟨b2, 1, none⟩ = some (.slice (some ad166) l1_1.length c1_1) ∧ w'.cell? (ad166.add ((ji103)).toNat) = some (.int .i64 (rd l1_1 (ji103)))) (ds := [16]) (bA 17 0) (by kernel_rfl) rfl rfl ⟨(blk_cell a0.out 0).trans rfl, (blk_cell a0.out 1).trans rfl, (blk_cell a7.out 0).trans rfl, (blk_cell a7.out 1).trans rfl, ((HB.out.cell (World.block_lt_of_cell? w _ hw166_0)).trans hw166_0)⟩ (fun hHeld => ?_); refine with_tabW spec_l20Glued.tab22 spec_l20Glued.bits22 (fun HT_ HW_ => ?_)
          generalize y1.drew = G3 at a1 b4 a6 a7 a9 a0 HB hx166_0 hHeld ⊢
          refine pu_ (i := 0) (N := some 113) (bA 17 1) ?_
          refine pu_ (i := 2) (N := some 115) (bA 17 5) ?_
          refine pu_ (i := 4) (N := some 117) (bA 17 21) ?_
          refine pu_ (i := 5) (N := some 118) (bA 17 53) ?_
          refine pu_ (i := 6) (N := some 119) (bA 17 117) ?_
          refine pu_ (i := 7) (N := some 120) (bA 17 245) ?_
          refine pu_ (i := 10) (N := some 123) (bA 17 1269) ?_
          refine tk_ (i := 1) (N := some 114) (bA 17 1271) ?_
          refine tk_ (i := 3) (N := some 116) (bA 17 1279) ?_
          refine pu_ (i := 8) (N := some 121) (bA 17 1535) ?_
          refine tk_ (i := 9) (N := some 122) (bA 17 2047) ?_
          refine pu_ (i := 11) (N := some 124) (bA 17 4095) ?_
          refine pu_ (i := 12) (N := some 125) (bA 17 8191) ?_
          refine one_ (i := 13) (N := some 126) (bA 17 16383) rfl rfl (one_of HT_.out (by kernel_rfl)) z7_18 (fun K hK => ?_)
          refine value_ (w1 := ?_) (v := ?_) (by rfl) rfl ?_ ?_
          rotate_left 2
          ·
           go_simp
           constructor
           ·
            rfl
           rfl
          refine hK.out _ _ ⟨(blk_cell (blk_alloc a0.out _) 0).trans rfl, (blk_cell (blk_alloc a0.out _) 1).trans rfl, (blk_cell (blk_alloc a7.out _) 0).trans rfl, (blk_cell (blk_alloc a7.out _) 1).trans rfl, (World.cell?_alloc_lt _ _ _ (World.block_lt_of_cell? _ _ (((HB.out.cell (World.block_lt_of_cell? w _ hw166_0)).trans hw166_0)))).trans (((HB.out.cell (World.block_lt_of_cell? w _ hw166_0)).trans hw166_0))⟩ (fun hHeld => ?_)
          clear hK K
          refine no_ (N := some 126) ?_
          refine one_ (i := 14) (N := some 127) (bA 17 32767) rfl rfl (one_of HT_.out (by kernel_rfl)) z7_18 (fun K hK => ?_)
          refine Kd.R_append_step (Kd.int .i64) (w0 := w) w.heap.size (by rfl) (.tmp 114) (.tmp 126) 24 3 (.int .i64 0) 8 rfl Try.underlying24 info3 rfl z7_18 (by omega) u131001 a2 (wrap64 ((wrap64 ((rd l1_1 (ji103)) + (l0_1.length : Int))) - 2)) [.int .i64 (wrap64 ((wrap64 ((rd l1_1 (ji103)) + (l0_1.length : Int))) - 2))] (fun _ => True) (fun _ => False) rfl rfl ?aP (fun _ hk => hk.elim) ?aF ?aO ?aB ?aS ?aL ?_
          (case aP => exact rfl)
          (case aB => exact z7_0)
          (case aF => exact (fun _ _ => trivial))
          (case aO => exact z7_3)
          (case aS => exact (below_size z7_0))
          (case aL => have := LMc106.out; omega)
          intro G4 G5 ho hb hg hat
          rw [← Ny167.out] at ho
          replace a6 := Aside0.mk (blk_grown (g := b1) (o := .cells #[.slice A0_0 l0_0.length c0_0, .slice A0_1 l0_1.length c0_1] 26 (0, 0)) z7_1 hg (Kd.R_ne a1.out a6.out z7_18))
          replace a7 := Aside0.mk (blk_grown (g := b2) (o := .cells #[.slice A1_0 l1_0.length c1_0, .slice (some ad166) l1_1.length c1_1] 26 (0, 0)) z7_2 hg (Kd.R_ne a1.out a7.out z7_18))
          replace a9 := Aside0.mk (blk_grown (g := b3) (o := .cells #[.slice none 0 0, .slice none 0 0] 26 (0, 0)) z7_4 hg (Kd.R_ne a1.out a9.out z7_18))
          replace a0 := Aside0.mk (blk_grown (g := a5) (o := .cells #[.slice d7 y153.length d8, u131001] 26 (0, 0)) z7_5 hg (Kd.R_ne a1.out a0.out z7_18))
          replace b4 := Aside0.mk (Kd.S_after (ok := (fun _ => True)) z7_25 hg hat)
          replace HB := Aside0.mk (hb)
          have j7 := Aside0.mk (ho)
          clear a1 ho hb hg hat
          obtain ⟨h1, h2, j8⟩ := Kd.R_slice j7.out
          (first | subst j8 | (injection j8 with f1_ f2_ f3_; have f4_ := f1_.symm; have f5_ := f3_.symm; clear f1_ f2_ f3_; subst f4_; subst f5_))
          refine hK.out _ _ ⟨(blk_cell a0.out 0).trans rfl, (blk_cell a0.out 1).trans rfl, (blk_cell a7.out 0).trans rfl, (blk_cell a7.out 1).trans rfl, ((HB.out.cell (World.block_lt_of_cell? w _ hw166_0)).trans hw166_0)⟩ (fun hHeld => ?_)
          clear hK K
          refine no_ (N := some 127) ?_
          refine pu_ (i := 15) (N := some 128) (bA 17 65535) ?_
          refine last_ (i := 16) (N := none) (bA 17 131071) rfl rfl (one_of HT_.out (by kernel_rfl)) z7_18 (fun K hK => ?_)
          have hs119 : _ := cz21 a0.out
          have hfs119 := blk_frozen a0.out 1
          have hns119_0 := b6.out
          have hns119_1 := b7.out
          have hns119_2 := b8.out
          have hms119_0 := d0.out
          have hms119_1 := d1.out
          have hms119_2 := d6.out
          refine skip_ (w1 := ?_) (by rfl) rfl ?_ ?_
          rotate_left
          ·
           go_simp
           rfl
          refine hK.out _ _ ?_
          clear hK K
          refine done_ (done_of HT_.out (by kernel_rfl)) ?_
          try go_wp2
          go_roundg k2
          case measure => have := HK1.out; have := HK2.out; omega
          case rel => exact ⟨(wrap64 (a8 + 1)), (y153), (y167), (.slice d7 y153.length d8), (.slice h1 y167.length h2), z7_9, H', ⟨by have := HK1.out; have := HK2.out; omega⟩, ⟨by (with_reducible repeat (first | apply Kd.S_alloc | apply Kd.S_drewN | apply Kd.S_drew)); exact Kd.S_mono (Kd.S_far (p := ⟨a5, 1, none⟩) (Kd.S_types b4.out a0.out z7_18) (fun _ hk => hk.2) (.slice h1 y167.length h2)) (fun _ hk => hk.1.2)⟩, ⟨by (with_reducible repeat (first | apply Kd.R_alloc | apply Kd.R_drewN | apply Kd.R_drew)); exact Kd.R_mono (Kd.R_far (p := ⟨a5, 1, none⟩) (Kd.R_types j7.out a0.out z7_18) (fun _ hk => hk.2) (.slice h1 y167.length h2)) (fun _ hk => trivial)⟩, ⟨z7_8⟩, ⟨z7_7⟩, ⟨z7_6⟩, ⟨by (with_reducible repeat (first | refine blk_drewN ?_ _ | refine blk_drew ?_ | refine blk_alloc ?_ _)); refine blk_put (cs := #[.slice d7 y153.length d8, u131001]) ?_ 1 _ rfl; (with_reducible repeat (first | refine blk_drewN ?_ _ | refine blk_drew ?_ | refine blk_alloc ?_ _)); exact a0.out⟩, ⟨z7_0⟩⟩
         rw [if_neg i3] at H
         exact absurd H (by simp)
        rw [if_neg i2] at H
        exact absurd H (by simp)
       rw [if_neg i1] at H
       exact absurd H (by simp)
      rw [if_neg u2] at H
      exact absurd H (by simp)
   rw [if_neg h5] at H
   have f5 : decide (a8 < (wrap64 ((wrap64 ((l0_1.length : Int) + (l1_1.length : Int))) - 2))) = false := decide_eq_false h5
   clear h5
   simp only [Option.some.injEq, Prod.mk.injEq] at H
   obtain ⟨rfl, rfl⟩ := H
   have y2 := d0.out
   have y3 := b6.out
   have y4 := d1.out
   have y5 := b7.out
   have y6 := d6.out
   have y7 := b8.out
   have d2 := cz20 a0.out
   have d3 := cz21 a0.out
   have d4 := blk_frozen a0.out 0
   have d5 := blk_frozen a0.out 1
   obtain ⟨g2, g3, q7⟩ := Kd.S_slice a3.out
   subst q7
   have y8 := e4.out
   have y9 := e3.out
   have z0 := e6.out
   have z1 := e5.out
   have d2 := cz20 a9.out
   have d3 := cz21 a9.out
   have d4 := blk_frozen a9.out 0
   have d5 := blk_frozen a9.out 1
   obtain ⟨h3, h4, q8⟩ := Kd.R_slice a1.out
   subst q8
   go_wp2
   refine bodyPost_ret (results_cell_row rfl _ _ b3 26 #[.slice g2 a4.length g3, .slice h3 a2.length h4] (0, 0) _ rfl (by (with_reducible repeat (first | refine blk_drewN ?_ _ | refine blk_drew ?_ | refine blk_alloc ?_ _)); refine blk_put (cs := #[.slice g2 a4.length g3, .slice none 0 0]) ?_ 1 _ rfl; (with_reducible repeat (first | refine blk_drewN ?_ _ | refine blk_drew ?_ | refine blk_alloc ?_ _)); refine blk_put (cs := #[.slice none 0 0, .slice none 0 0]) ?_ 0 _ rfl; (with_reducible repeat (first | refine blk_drewN ?_ _ | refine blk_drew ?_ | refine blk_alloc ?_ _)); exact a9.out) Try.underlying26 rfl (by kernel_rfl)) rfl ?_
   exact ⟨_, _, by first | rfl | (simp [errW_none, errW_some] <;> rfl) | (simp [*, errW_none, errW_some] <;> rfl), by (with_reducible repeat (first | apply Kd.S_alloc | apply Kd.S_drewN | apply Kd.S_drew)); exact Kd.S_mono (Kd.S_far (p := ⟨b3, 1, none⟩) (Kd.S_far (p := ⟨b3, 0, none⟩) (Kd.S_types a3.out a9.out z7_18) (fun _ hk => hk.2) (.slice g2 a4.length g3)) (fun _ hk => hk.2) (.slice h3 a2.length h4)) (fun _ hk => hk.1), by (with_reducible repeat (first | apply Kd.R_alloc | apply Kd.R_drewN | apply Kd.R_drew)); exact Kd.R_mono (Kd.R_far (p := ⟨b3, 1, none⟩) (Kd.R_far (p := ⟨b3, 0, none⟩) (Kd.R_types a1.out a9.out z7_18) (fun _ hk => hk.2) (.slice g2 a4.length g3)) (fun _ hk => hk.2) (.slice h3 a2.length h4)) (fun _ hk => trivial), by repeat (first | (with_reducible first | exact HB.out | apply below_alloc | apply pw_below_drewN | apply below_drew1 | refine below_set ?_ f4.out | refine below_set ?_ f9.out | refine below_set ?_ g4.out | refine below_set ?_ i4.out) | exact HB.out)⟩

end Go.Proofs.Ytjgfpiilfnchnaa.P

-- written by gen.py (a program of this session) out of the kit's print of this seat's translation
namespace Go.Proofs.Ytjgfpiilfnchnaa.P
open Go.RowKit Go.Proofs.YtjgfpiilfnchnaaW.PrintWords Go.Proofs.YtjgfpiilfnchnaaW.PrintLast Go.Proofs.YtjgfpiilfnchnaaW.PrintMore
attribute [local go_sem] max2_int min2_int max_two min_two max_three min_three max_four min_four
set_option linter.unusedVariables false
set_option linter.unusedSimpArgs false
set_option maxHeartbeats 8000000 in
set_option maxRecDepth 100000 in
theorem spec_l1In.calls (a0 : Int) (a1 : Int) (a2 : Int) (r : Bool) (w : World) (h : spec_l1In.f a0 a1 a2 = some r) :
  Calls Try.prog 58 #[.int .i64 a0, .int .i64 a1, .int .i64 a2] w fun e w' => e = .returned (.bool r) ∧ Drawn0 w w' := by
 have H : (if a0 ≥ a1 then (some (decide (a0 ≤ a2))) else (some false)) = some r := h
 clear h
 by_cases c4 : a0 ≥ a1
 ·
  rw [if_pos c4] at H
  have a3 : decide (a1 ≤ a0) = true := decide_eq_true c4
  clear c4
  obtain rfl := Option.some.inj H
  go_enter Try.func58, Try.ntmps58
  go_wp2
  go_ret
  exact ⟨by first | rfl | (simp; done) | (simp [*]; done), by repeat (first | exact Drawn0.refl _ | apply Drawn0.step)⟩
 rw [if_neg c4] at H
 have a3 : decide (a1 ≤ a0) = false := decide_eq_false c4
 clear c4
 obtain rfl := Option.some.inj H
 go_enter Try.func58, Try.ntmps58
 go_wp2
 go_ret
 exact ⟨by first | rfl | (simp; done) | (simp [*]; done), by repeat (first | exact Drawn0.refl _ | apply Drawn0.step)⟩

end Go.Proofs.Ytjgfpiilfnchnaa.P

-- written by gen.py (a program of this session) out of the kit's print of this seat's translation
namespace Go.Proofs.Ytjgfpiilfnchnaa.P
open Go.RowKit Go.Proofs.YtjgfpiilfnchnaaW.PrintWords Go.Proofs.YtjgfpiilfnchnaaW.PrintLast Go.Proofs.YtjgfpiilfnchnaaW.PrintMore
attribute [local go_sem] max2_int min2_int max_two min_two max_three min_three max_four min_four
set_option linter.unusedVariables false
set_option linter.unusedSimpArgs false
theorem z8_13 {p : Prop} (h : p := by have := HK1.out; have := HK2.out; first | omega | exact Nat.le_refl _) : p := h
theorem z8_12 {p : Prop} (h : p := by decide) : p := h
theorem z8_11 {p : Prop} (h : p := by have := HK1.out; have := HK2.out; have := d1.out; first | omega | exact Nat.le_refl _) : p := h
theorem z8_10 {p : Prop} (h : p := by repeat (first | (with_reducible first | exact HB.out | apply below_alloc | apply pw_below_drewN | apply below_drew1) | exact HB.out)) : p := h
theorem z8_9 {p : Prop} (h : p := by repeat (first | (with_reducible first | exact HB.out | apply below_alloc | apply pw_below_drewN | apply below_drew1 | refine below_set ?_ d2.out) | exact HB.out)) : p := h
theorem z8_8 {p : Prop} (h : p := by have := HK1.out; have := HK2.out; have := d1.out; have := b8.out; omega) : p := h
theorem z8_7 {p : Prop} (h : p := by (with_reducible repeat (first | apply Kd.S_alloc | apply Kd.S_drewN | apply Kd.S_drew)); exact a1.out) : p := h
theorem z8_6 {p : Prop} (h : p := by first | rfl | (simp; done) | (simp [*]; done)) : p := h
theorem z8_5 {p : Prop} (h : p := by (with_reducible repeat (first | apply Kd.R_alloc | apply Kd.R_drewN | apply Kd.R_drew)); exact a9.out) : p := h
theorem z8_4 {p : Prop} (h : p := by (with_reducible repeat (first | apply Kd.S_alloc | apply Kd.S_drewN | apply Kd.S_drew)); exact Kd.S_mono a1.out (fun _ hk => ⟨trivial, hk⟩)) : p := h
theorem z8_3 {p : Prop} (h : p := by (with_reducible repeat (first | apply Kd.S_alloc | apply Kd.S_drewN | apply Kd.S_drew)); exact Kd.S_mono a1.out (fun _ hk => hk.2)) : p := h
theorem z8_2 {p : Prop} (h : p := by (with_reducible repeat (first | refine blk_drewN ?_ _ | refine blk_drew ?_ | refine blk_alloc ?_ _)); exact a3.out) : p := h
theorem z8_1 {p : Prop} (h : p := by (with_reducible repeat (first | refine blk_drewN ?_ _ | refine blk_drew ?_ | refine blk_alloc ?_ _)); exact a2.out) : p := h
theorem z8_0 {p : Prop} (h : p := by repeat (first | (with_reducible first | exact HB.out | apply below_alloc | apply pw_below_drewN | apply below_drew1 | refine below_set ?_ d2.out | refine below_set ?_ e3.out) | exact HB.out)) : p := h
set_option maxHeartbeats 8000000 in
set_option maxRecDepth 100000 in
theorem spec_l20Pasted.calls (k : Nat)  (r1 : List (List Int)) (r2 : List Int) (w : World) (h : spec_l20Pasted.f k  = some (r1, r2)) :
  Calls Try.prog 80 #[] w fun e w' => ∃ v0_ v1_ : Value, e = .returned (.agg #[v0_, v1_]) ∧ Kd.S (Kd.slice 3 (Kd.int .i64)) 24 w' w.heap.size (fun k_ => some k_ ≠ (v1_ : Value).ownBlock) v0_ r1 ∧ Kd.R (Kd.int .i64) 3 w' w.heap.size (fun _ => True) v1_ r2 ∧ Below w.heap.size w w' := by
 have hu26 := Try.underlying26
 have HB := Aside0.mk (Below.refl w.heap.size w)
 have H : (spec_l20Pasted.l0 k 0 ([] : List (List Int))) = some (r1, r2) := h
 clear h
 have H' := Aside0.mk H
 clear H
 go_enter Try.func80, Try.ntmps80
 go_wp2_with (first | ((with_reducible refine gate_dst (N := 0) rfl ?_); refine bx_ (N := 0) (cs := #[.slice none 0 0, .slice none 0 0]) (t := 26) ?_; intro a4 hg w1 hbox hb; have a3 := Aside0.mk (hbox); have j9 := Aside0.mk ((by rw [hg]; exact (below_size z8_10) : w.heap.size ≤ a4)); have d2 := Aside0.mk ((by rw [hg]; exact (below_size z8_10) : w.heap.size ≤ a4)); replace HB := Aside0.mk (below_step z8_10 hb); clear hb hbox hg) | ((with_reducible refine gate_dst (N := 1) rfl ?_); refine bx_ (N := 1) (cs := #[.slice none 0 0, .slice none 0 0]) (t := 26) ?_; intro a8 hg w2 hbox hb; have a2 := Aside0.mk (hbox); have k0 := Aside0.mk ((by rw [hg]; exact (below_size z8_9) : w.heap.size ≤ a8)); have e3 := Aside0.mk ((by rw [hg]; exact (below_size z8_9) : w.heap.size ≤ a8)); replace HB := Aside0.mk (below_step z8_9 hb); have b0 := Aside0.mk ((by rw [hg]; exact Nat.ne_of_lt (blk_lt (g := a4) (o := .cells #[.slice none 0 0, .slice none 0 0] 26 (0, 0)) z8_2) : a4 ≠ a8)); have b2 := Aside0.mk ((by rw [hg]; exact Nat.ne_of_gt (blk_lt (g := a4) (o := .cells #[.slice none 0 0, .slice none 0 0] 26 (0, 0)) z8_2) : a8 ≠ a4)); replace a3 := Aside0.mk (blk_below (g := a4) (o := .cells #[.slice none 0 0, .slice none 0 0] 26 (0, 0)) z8_2 hb); clear hb hbox hg; have k8 := b2.out; have k9 := b0.out; have b3 := cz20 a2.out; have b4 := cz21 a2.out; have b5 := blk_frozen a2.out 0; have b6 := blk_frozen a2.out 1))
 go_loopg [2] k (fun kq v2 w' => ∃ (a6 : Int) (a0 : List (List Int)) (u172000 : Value), v2 = .int .i64 a6 ∧ Aside0 (spec_l20Pasted.l0 kq a6 a0 = some (r1, r2)) ∧ Aside0 (kq ≤ k) ∧ Aside0 (Kd.S (Kd.slice 3 (Kd.int .i64)) 24 w' w.heap.size (fun _ => True) u172000 a0) ∧ Aside0 (w'.heap[a4]? = some (.cells #[(.slice none 0 0), (.slice none 0 0)] 26 (0, 0))) ∧ Aside0 (w'.heap[a8]? = some (.cells #[u172000, (.slice none 0 0)] 26 (0, 0))) ∧ Aside0 (Below w.heap.size w w'))
 case atStart => exact ⟨(0), (([] : List (List Int))), (.slice none 0 0), z8_6, H', ⟨Nat.le_refl _⟩, ⟨by first | exact Kd.S_nil _ _ _ _ _ | exact Kd.N_nil _ _ _ _ _ | exact Kd.V_nil _ _ _ _ _ | exact Kd.Q_nil _ _ _ _ _ | exact Kd.R_nil _ _ _ _ _⟩, ⟨by (with_reducible repeat (first | refine blk_drewN ?_ _ | refine blk_drew ?_ | refine blk_alloc ?_ _)); refine blk_far ?_ b0.out _; (with_reducible repeat (first | refine blk_drewN ?_ _ | refine blk_drew ?_ | refine blk_alloc ?_ _)); refine blk_far ?_ b0.out _; (with_reducible repeat (first | refine blk_drewN ?_ _ | refine blk_drew ?_ | refine blk_alloc ?_ _)); exact a3.out⟩, ⟨by (with_reducible repeat (first | refine blk_drewN ?_ _ | refine blk_drew ?_ | refine blk_alloc ?_ _)); refine blk_put (cs := #[.slice none 0 0, .slice none 0 0]) ?_ 1 _ rfl; (with_reducible repeat (first | refine blk_drewN ?_ _ | refine blk_drew ?_ | refine blk_alloc ?_ _)); refine blk_put (cs := #[.slice none 0 0, .slice none 0 0]) ?_ 0 _ rfl; (with_reducible repeat (first | refine blk_drewN ?_ _ | refine blk_drew ?_ | refine blk_alloc ?_ _)); exact a2.out⟩, ⟨z8_0⟩⟩
 case round =>
  clear H'
  try clear p2
  try clear c3
  try clear b3
  try clear b4
  try clear b5
  try clear b6
  obtain ⟨a6, a0, u172000, rfl, HA, HK1, a1, a3, a2, HB⟩ := hrel
  cases gk with
  | zero => exact absurd HA.out (by simp [spec_l20Pasted.l0])
  | succ k1 =>
   have H := HA.out
   clear HA
   simp only [spec_l20Pasted.l0] at H
   by_cases c5 : a6 < 12
   ·
    rw [if_pos c5] at H
    have d8 : decide (a6 < 12) = true := decide_eq_true c5
    clear c5
    obtain ⟨y175, hy175⟩ : ∃ y_ : List Int, y_ = (([] : List Int)) := ⟨_, rfl⟩
    replace H : (spec_l20Pasted.l1 k1 a6 y175 0 a0) = some (r1, r2) := by first | (rw [hy175]; with_reducible exact H) | (have H2_ := (Option.bind_some _ _).symm.trans H; rw [hy175]; with_reducible exact H2_) | (have H2_ := (Option.bind_some _ _).symm.trans H; with_reducible exact H2_) | with_reducible exact H | (rw [hy175]; exact H) | exact H
    have Ny175 := Aside0.mk hy175
    clear hy175
    have H' := Aside0.mk H
    clear H
    go_wp2_with (first | ((with_reducible refine gate_dst (N := 12) rfl ?_); refine Kd.R_lit (Kd.int .i64) _ 3 ?hg (N := 12) ?hd (xs := ([] : List Int)) (inner := []) (ok := fun _ => True) (okp := fun _ => True) ?hr ?hp (fun _ hk => hk) trivial (Below.refl _ _) (Nat.le_refl _) (by simp) ?_; (case hd => rfl); (case hg => rfl); (case hr => first | (go_simp; done) | (go_simp; rfl)); (case hp => exact (Reps.none _ _)); intro l2 w6 ho7 hb hg_ hnew_; clear hg_ hnew_; (first | rw [← Ny175.out] at ho7 | (simp only [Int.reduceToNat] at ho7; rw [← Ny175.out] at ho7)); replace a1 := Aside0.mk (Kd.S_elder' z8_7 (Kd.R_base ho7) hb); have f4 := Aside0.mk (Kd.R_lower ho7 (below_size z8_0)); replace a3 := Aside0.mk (blk_below (g := a4) (o := .cells #[.slice none 0 0, .slice none 0 0] 26 (0, 0)) z8_2 hb); replace a2 := Aside0.mk (blk_below (g := a8) (o := .cells #[u172000, .slice none 0 0] 26 (0, 0)) z8_1 hb); replace HB := Aside0.mk (below_step z8_0 hb); clear hb ho7))
    go_loopg [3, 4] k1 (fun kq v3 v4 w' => ∃ (a7 : List Int) (a5 : Int), v4 = .int .i64 a5 ∧ Aside0 (spec_l20Pasted.l1 kq a6 a7 a5 a0 = some (r1, r2)) ∧ Aside0 (kq ≤ k1) ∧ Aside0 (Kd.R (Kd.int .i64) 3 w' w.heap.size (fun _ => True) v3 a7) ∧ Aside0 (Kd.S (Kd.slice 3 (Kd.int .i64)) 24 w' w.heap.size (fun k_ => some k_ ≠ (v3 : Value).ownBlock) u172000 a0) ∧ Aside0 (w'.heap[a4]? = some (.cells #[(.slice none 0 0), (.slice none 0 0)] 26 (0, 0))) ∧ Aside0 (w'.heap[a8]? = some (.cells #[u172000, (.slice none 0 0)] 26 (0, 0))) ∧ Aside0 (Below w.heap.size w w'))
    case atStart => exact ⟨(y175), (0), z8_6, H', ⟨Nat.le_refl _⟩, ⟨by (with_reducible repeat (first | apply Kd.R_alloc | apply Kd.R_drewN | apply Kd.R_drew)); exact f4.out⟩, ⟨z8_3⟩, ⟨z8_2⟩, ⟨z8_1⟩, ⟨z8_0⟩⟩
    case round =>
     clear H'
     try clear p2
     try clear c3
     try clear c5
     try clear d8
     try clear b3
     try clear b4
     try clear b5
     try clear b6
     obtain ⟨a7, a5, rfl, HA, HK2, a9, a1, a3, a2, HB⟩ := hrel
     cases gk with
     | zero => exact absurd HA.out (by simp [spec_l20Pasted.l1])
     | succ k2 =>
      have H := HA.out
      clear HA
      simp only [spec_l20Pasted.l1] at H
      by_cases c8 : a5 < 12
      ·
       rw [if_pos c8] at H
       have e6 : decide (a5 < 12) = true := decide_eq_true c8
       clear c8
       have i8 := Aside0.mk H
       clear H
       go_upto_region 10 with (fail)
       go_cut [17] (fun l3 wc => ∃ (kq : Nat) (d0 : Bool), l3 = .bool d0 ∧ Aside0 (spec_l20Pasted.j2 kq a6 a7 a5 0 d0 a0 = some (r1, r2)) ∧ Aside0 (kq ≤ k2) ∧ Aside0 (Kd.R (Kd.int .i64) 3 wc w.heap.size (fun _ => True) u3 a7) ∧ Aside0 (Kd.S (Kd.slice 3 (Kd.int .i64)) 24 wc w.heap.size (fun k_ => some k_ ≠ (u3 : Value).ownBlock) u172000 a0) ∧ Aside0 (wc.heap[a4]? = some (.cells #[(.slice none 0 0), (.slice none 0 0)] 26 (0, 0))) ∧ Aside0 (wc.heap[a8]? = some (.cells #[u172000, (.slice none 0 0)] 26 (0, 0))) ∧ Aside0 (Below w.heap.size w wc))
       case first =>
        have H := i8.out
        clear i8
        by_cases d9 : a6 = a5
        ·
         rw [if_pos d9] at H
         have b7 := bt_ d9
         have d3 := bu_ d9
         clear d9
         (first | rw [b7] | (simp only [i64_w, i32_w]; rw [b7]) | skip)
         have H' := Aside0.mk H
         clear H
         go_wp2
         go_meet
         case rel => exact ⟨_, (true), z8_6, H', ⟨z8_13⟩, ⟨z8_5⟩, ⟨z8_7⟩, ⟨z8_2⟩, ⟨z8_1⟩, ⟨z8_0⟩⟩
        rw [if_neg d9] at H
        have b7 := bv_ d9
        have d3 := bw_ d9
        (first | rw [b7] | (simp only [i64_w, i32_w]; rw [b7]) | skip)
        by_cases e0 : a6 = 0
        ·
         rw [if_pos e0] at H
         have d4 := bt_ e0
         have d5 := bu_ e0
         clear e0
         have H' := Aside0.mk H
         clear H
         go_wp2
         go_meet
         case rel => exact ⟨_, (true), z8_6, H', ⟨z8_13⟩, ⟨z8_5⟩, ⟨z8_7⟩, ⟨z8_2⟩, ⟨z8_1⟩, ⟨z8_0⟩⟩
        rw [if_neg e0] at H
        have d4 := bv_ e0
        have d5 := bw_ e0
        have H' := Aside0.mk H
        clear H
        go_wp2
        go_meet
        case rel => exact ⟨_, ((a5 == 11)), z8_6, H', ⟨z8_13⟩, ⟨z8_5⟩, ⟨z8_7⟩, ⟨z8_2⟩, ⟨z8_1⟩, ⟨z8_0⟩⟩
       case rest =>
        clear i8
        try clear c1
        try clear p2
        try clear c3
        try clear c5
        try clear d8
        try clear c8
        try clear e6
        try clear d9
        try clear b7
        try clear d3
        try clear e0
        try clear d4
        try clear d5
        try clear b3
        try clear b4
        try clear b5
        try clear b6
        obtain ⟨kq, d0, rfl, HA, d1, a9, a1, a3, a2, HB⟩ := hcut
        cases kq with
        | zero => exact absurd HA.out (by simp [spec_l20Pasted.j2])
        | succ i9 =>
         have H := HA.out
         clear HA
         simp only [spec_l20Pasted.j2] at H
         by_cases f5 : d0 = true
         ·
          subst f5
          rw [if_pos rfl] at H
          by_cases f6 : a7.length < 17592186044416
          ·
           rw [if_pos f6] at H
           have LMc13 := Aside0.mk f6
           clear f6
           obtain ⟨y181, hy181⟩ : ∃ y_ : List Int, y_ = (a7 ++ [1]) := ⟨_, rfl⟩
           replace H : (spec_l20Pasted.l1 i9 a6 y181 (wrap64 (a5 + 1)) a0) = some (r1, r2) := by first | (rw [hy181]; with_reducible exact H) | (have H2_ := (Option.bind_some _ _).symm.trans H; rw [hy181]; with_reducible exact H2_) | (have H2_ := (Option.bind_some _ _).symm.trans H; with_reducible exact H2_) | with_reducible exact H | (rw [hy181]; exact H) | exact H
           have Ny181 := Aside0.mk hy181
           clear hy181
           have H' := Aside0.mk H
           clear H
           go_wp2_with (first | ((with_reducible refine gate_builtin (b := .append) (xs := #[.tmp 59, .tmp 61]) rfl ?_); at_builtin; refine Kd.R_append (Kd.int .i64) (w0 := w) w.heap.size rfl (.tmp 59) (.tmp 61) 24 3 (.int .i64 0) 8 rfl Try.underlying24 info3 rfl z8_12 (by omega) u3 a7 1 [.int .i64 1] (fun _ => True) (fun _ => False) rfl rfl ?aP (fun _ hk => hk.elim) ?aF ?aO ?aB ?aS ?aL ?_; (case aP => exact rfl); (case aB => exact z8_0); (case aF => exact (fun _ _ => trivial)); (case aO => exact z8_5); (case aS => exact (below_size z8_0)); (case aL => have := LMc13.out; omega); intro l4 m6 ho hb hg hat; rw [← Ny181.out] at ho; replace a1 := Aside0.mk (Kd.S_after (ok := (fun _ => True)) z8_4 hg hat); replace a3 := Aside0.mk (blk_grown (g := a4) (o := .cells #[.slice none 0 0, .slice none 0 0] 26 (0, 0)) z8_2 hg (Kd.R_ne a9.out a3.out z8_12)); replace a2 := Aside0.mk (blk_grown (g := a8) (o := .cells #[u172000, .slice none 0 0] 26 (0, 0)) z8_1 hg (Kd.R_ne a9.out a2.out z8_12)); replace HB := Aside0.mk (hb); have f7 := Aside0.mk (ho); clear a9; clear ho hb hg hat))
           go_roundg i9
           case measure => have := HK1.out; have := HK2.out; have := d1.out; omega
           case rel => exact ⟨(y181), (wrap64 (a5 + 1)), z8_6, H', ⟨by have := HK1.out; have := HK2.out; have := d1.out; omega⟩, ⟨by (with_reducible repeat (first | apply Kd.R_alloc | apply Kd.R_drewN | apply Kd.R_drew)); exact f7.out⟩, ⟨z8_3⟩, ⟨z8_2⟩, ⟨z8_1⟩, ⟨z8_0⟩⟩
          rw [if_neg f6] at H
          exact absurd H (by simp)
         replace f5 := Bool.eq_false_iff.mpr f5
         subst f5
         rw [if_neg nf_] at H
         have e7 := Aside0.mk H
         clear H
         go_upto_region 12 with (fail)
         go_cut [29] (fun l5 wc => ∃ (kq : Nat) (b9 : Bool), l5 = .bool b9 ∧ Aside0 (spec_l20Pasted.j3 kq a6 a7 a5 0 b9 a0 = some (r1, r2)) ∧ Aside0 (kq ≤ i9) ∧ Aside0 (Kd.R (Kd.int .i64) 3 wc w.heap.size (fun _ => True) u3 a7) ∧ Aside0 (Kd.S (Kd.slice 3 (Kd.int .i64)) 24 wc w.heap.size (fun k_ => some k_ ≠ (u3 : Value).ownBlock) u172000 a0) ∧ Aside0 (wc.heap[a4]? = some (.cells #[(.slice none 0 0), (.slice none 0 0)] 26 (0, 0))) ∧ Aside0 (wc.heap[a8]? = some (.cells #[u172000, (.slice none 0 0)] 26 (0, 0))) ∧ Aside0 (Below w.heap.size w wc))
         case first =>
          have H := e7.out
          clear e7
          obtain ⟨j0, j1, H⟩ := bd_ H
          try dsimp only at H
          by_cases f8 : j0 = true
          ·
           subst f8
           rw [if_pos rfl] at H
           obtain ⟨j4, k3, H⟩ := bd_ H
           try dsimp only at H
           by_cases f9 : j4 = true
           ·
            subst f9
            rw [if_pos rfl] at H
            have H' := Aside0.mk H
            clear H
            go_wp2_with (first | ((with_reducible refine gate_callee (f := 58) rfl ?_); refine gl_ (some 31) Try.func58 #[.int .i64 a6, .int .i64 1, .int .i64 5] ?_; (with_reducible refine (spec_l1In.calls a6 1 5 true _ j1.out).mono ?_); rintro e w' ⟨rfl, ⟨nd, rfl⟩⟩; refine ⟨_, rfl, ?_⟩) | (go_at_call 58; (with_reducible refine (spec_l1In.calls a5 6 10 true _ k3.out).mono ?_); rintro e w' ⟨rfl, ⟨nd, rfl⟩⟩))
            go_meet
            case rel => exact ⟨_, ((a6 != (wrap64 (a5 - 5)))), z8_6, H', ⟨z8_11⟩, ⟨z8_5⟩, ⟨z8_7⟩, ⟨z8_2⟩, ⟨z8_1⟩, ⟨z8_0⟩⟩
           replace f9 := Bool.eq_false_iff.mpr f9
           subst f9
           rw [if_neg nf_] at H
           have H' := Aside0.mk H
           clear H
           go_wp2_with (first | ((with_reducible refine gate_callee (f := 58) rfl ?_); refine gl_ (some 31) Try.func58 #[.int .i64 a6, .int .i64 1, .int .i64 5] ?_; (with_reducible refine (spec_l1In.calls a6 1 5 true _ j1.out).mono ?_); rintro e w' ⟨rfl, ⟨nd, rfl⟩⟩; refine ⟨_, rfl, ?_⟩) | (go_at_call 58; (with_reducible refine (spec_l1In.calls a5 6 10 false _ k3.out).mono ?_); rintro e w' ⟨rfl, ⟨nd, rfl⟩⟩))
           go_meet
           case rel => exact ⟨_, (false), z8_6, H', ⟨z8_11⟩, ⟨z8_5⟩, ⟨z8_7⟩, ⟨z8_2⟩, ⟨z8_1⟩, ⟨z8_0⟩⟩
          replace f8 := Bool.eq_false_iff.mpr f8
          subst f8
          rw [if_neg nf_] at H
          have H' := Aside0.mk H
          clear H
          go_wp2_with (first | ((with_reducible refine gate_callee (f := 58) rfl ?_); refine gl_ (some 31) Try.func58 #[.int .i64 a6, .int .i64 1, .int .i64 5] ?_; (with_reducible refine (spec_l1In.calls a6 1 5 false _ j1.out).mono ?_); rintro e w' ⟨rfl, ⟨nd, rfl⟩⟩; refine ⟨_, rfl, ?_⟩))
          go_meet
          case rel => exact ⟨_, (false), z8_6, H', ⟨z8_11⟩, ⟨z8_5⟩, ⟨z8_7⟩, ⟨z8_2⟩, ⟨z8_1⟩, ⟨z8_0⟩⟩
         case rest =>
          clear e7
          try clear c1
          try clear p2
          try clear c3
          try clear c5
          try clear d8
          try clear p6
          try clear c8
          try clear e6
          try clear d9
          try clear b7
          try clear d3
          try clear e0
          try clear d4
          try clear d5
          try clear f5
          try clear f6
          try clear f8
          try clear f9
          try clear b3
          try clear b4
          try clear b5
          try clear b6
          obtain ⟨kq, b9, rfl, HA, b8, a9, a1, a3, a2, HB⟩ := hcut
          cases kq with
          | zero => exact absurd HA.out (by simp [spec_l20Pasted.j3])
          | succ b1 =>
           have H := HA.out
           clear HA
           simp only [spec_l20Pasted.j3] at H
           by_cases h8 : b9 = true
           ·
            subst h8
            rw [if_pos rfl] at H
            by_cases e8 : a6 ≤ 3
            ·
             rw [if_pos e8] at H
             have g0 : decide (a6 ≤ 3) = true := decide_eq_true e8
             clear e8
             by_cases e9 : (wrap64 (a5 - 5)) ≤ 3
             ·
              rw [if_pos e9] at H
              have g1 : decide ((wrap64 (a5 - 5)) ≤ 3) = true := decide_eq_true e9
              clear e9
              by_cases h9 : a7.length < 17592186044416
              ·
               rw [if_pos h9] at H
               have LMc23 := Aside0.mk h9
               clear h9
               obtain ⟨y186, hy186⟩ : ∃ y_ : List Int, y_ = (a7 ++ [1]) := ⟨_, rfl⟩
               replace H : (spec_l20Pasted.l1 b1 a6 y186 (wrap64 (a5 + 1)) a0) = some (r1, r2) := by first | (rw [hy186]; with_reducible exact H) | (have H2_ := (Option.bind_some _ _).symm.trans H; rw [hy186]; with_reducible exact H2_) | (have H2_ := (Option.bind_some _ _).symm.trans H; with_reducible exact H2_) | with_reducible exact H | (rw [hy186]; exact H) | exact H
               have Ny186 := Aside0.mk hy186
               clear hy186
               have H' := Aside0.mk H
               clear H
               go_wp2_with (first | ((with_reducible refine gate_builtin (b := .append) (xs := #[.tmp 59, .tmp 61]) rfl ?_); at_builtin; refine Kd.R_append (Kd.int .i64) (w0 := w) w.heap.size rfl (.tmp 59) (.tmp 61) 24 3 (.int .i64 0) 8 rfl Try.underlying24 info3 rfl z8_12 (by omega) u3 a7 1 [.int .i64 1] (fun _ => True) (fun _ => False) rfl rfl ?aP (fun _ hk => hk.elim) ?aF ?aO ?aB ?aS ?aL ?_; (case aP => exact rfl); (case aB => exact z8_0); (case aF => exact (fun _ _ => trivial)); (case aO => exact z8_5); (case aS => exact (below_size z8_0)); (case aL => have := LMc23.out; omega); intro l6 m7 ho hb hg hat; rw [← Ny186.out] at ho; replace a1 := Aside0.mk (Kd.S_after (ok := (fun _ => True)) z8_4 hg hat); replace a3 := Aside0.mk (blk_grown (g := a4) (o := .cells #[.slice none 0 0, .slice none 0 0] 26 (0, 0)) z8_2 hg (Kd.R_ne a9.out a3.out z8_12)); replace a2 := Aside0.mk (blk_grown (g := a8) (o := .cells #[u172000, .slice none 0 0] 26 (0, 0)) z8_1 hg (Kd.R_ne a9.out a2.out z8_12)); replace HB := Aside0.mk (hb); have g2 := Aside0.mk (ho); clear a9; clear ho hb hg hat))
               go_roundg b1
               case measure => have := HK1.out; have := HK2.out; have := d1.out; have := b8.out; omega
               case rel => exact ⟨(y186), (wrap64 (a5 + 1)), z8_6, H', ⟨z8_8⟩, ⟨by (with_reducible repeat (first | apply Kd.R_alloc | apply Kd.R_drewN | apply Kd.R_drew)); exact g2.out⟩, ⟨z8_3⟩, ⟨z8_2⟩, ⟨z8_1⟩, ⟨z8_0⟩⟩
              rw [if_neg h9] at H
              exact absurd H (by simp)
             rw [if_neg e9] at H
             have g1 : decide ((wrap64 (a5 - 5)) ≤ 3) = false := decide_eq_false e9
             clear e9
             by_cases f0 : a6 ≥ 3
             ·
              rw [if_pos f0] at H
              have g3 : decide (3 ≤ a6) = true := decide_eq_true f0
              clear f0
              by_cases f1 : (wrap64 (a5 - 5)) ≥ 3
              ·
               rw [if_pos f1] at H
               have g4 : decide (3 ≤ (wrap64 (a5 - 5))) = true := decide_eq_true f1
               clear f1
               by_cases i0 : a7.length < 17592186044416
               ·
                rw [if_pos i0] at H
                have LMc27 := Aside0.mk i0
                clear i0
                obtain ⟨y189, hy189⟩ : ∃ y_ : List Int, y_ = (a7 ++ [1]) := ⟨_, rfl⟩
                replace H : (spec_l20Pasted.l1 b1 a6 y189 (wrap64 (a5 + 1)) a0) = some (r1, r2) := by first | (rw [hy189]; with_reducible exact H) | (have H2_ := (Option.bind_some _ _).symm.trans H; rw [hy189]; with_reducible exact H2_) | (have H2_ := (Option.bind_some _ _).symm.trans H; with_reducible exact H2_) | with_reducible exact H | (rw [hy189]; exact H) | exact H
                have Ny189 := Aside0.mk hy189
                clear hy189
                have H' := Aside0.mk H
                clear H
                go_wp2_with (first | ((with_reducible refine gate_builtin (b := .append) (xs := #[.tmp 59, .tmp 61]) rfl ?_); at_builtin; refine Kd.R_append (Kd.int .i64) (w0 := w) w.heap.size rfl (.tmp 59) (.tmp 61) 24 3 (.int .i64 0) 8 rfl Try.underlying24 info3 rfl z8_12 (by omega) u3 a7 1 [.int .i64 1] (fun _ => True) (fun _ => False) rfl rfl ?aP (fun _ hk => hk.elim) ?aF ?aO ?aB ?aS ?aL ?_; (case aP => exact rfl); (case aB => exact z8_0); (case aF => exact (fun _ _ => trivial)); (case aO => exact z8_5); (case aS => exact (below_size z8_0)); (case aL => have := LMc27.out; omega); intro l7 m8 ho hb hg hat; rw [← Ny189.out] at ho; replace a1 := Aside0.mk (Kd.S_after (ok := (fun _ => True)) z8_4 hg hat); replace a3 := Aside0.mk (blk_grown (g := a4) (o := .cells #[.slice none 0 0, .slice none 0 0] 26 (0, 0)) z8_2 hg (Kd.R_ne a9.out a3.out z8_12)); replace a2 := Aside0.mk (blk_grown (g := a8) (o := .cells #[u172000, .slice none 0 0] 26 (0, 0)) z8_1 hg (Kd.R_ne a9.out a2.out z8_12)); replace HB := Aside0.mk (hb); have g5 := Aside0.mk (ho); clear a9; clear ho hb hg hat))
                go_roundg b1
                case measure => have := HK1.out; have := HK2.out; have := d1.out; have := b8.out; omega
                case rel => exact ⟨(y189), (wrap64 (a5 + 1)), z8_6, H', ⟨z8_8⟩, ⟨by (with_reducible repeat (first | apply Kd.R_alloc | apply Kd.R_drewN | apply Kd.R_drew)); exact g5.out⟩, ⟨z8_3⟩, ⟨z8_2⟩, ⟨z8_1⟩, ⟨z8_0⟩⟩
               rw [if_neg i0] at H
               exact absurd H (by simp)
              rw [if_neg f1] at H
              have g4 : decide (3 ≤ (wrap64 (a5 - 5))) = false := decide_eq_false f1
              clear f1
              by_cases i1 : a7.length < 17592186044416
              ·
               rw [if_pos i1] at H
               have LMc29 := Aside0.mk i1
               clear i1
               obtain ⟨y192, hy192⟩ : ∃ y_ : List Int, y_ = (a7 ++ [0]) := ⟨_, rfl⟩
               replace H : (spec_l20Pasted.l1 b1 a6 y192 (wrap64 (a5 + 1)) a0) = some (r1, r2) := by first | (rw [hy192]; with_reducible exact H) | (have H2_ := (Option.bind_some _ _).symm.trans H; rw [hy192]; with_reducible exact H2_) | (have H2_ := (Option.bind_some _ _).symm.trans H; with_reducible exact H2_) | with_reducible exact H | (rw [hy192]; exact H) | exact H
               have Ny192 := Aside0.mk hy192
               clear hy192
               have H' := Aside0.mk H
               clear H
               go_wp2_with (first | ((with_reducible refine gate_builtin (b := .append) (xs := #[.tmp 59, .tmp 61]) rfl ?_); at_builtin; refine Kd.R_append (Kd.int .i64) (w0 := w) w.heap.size rfl (.tmp 59) (.tmp 61) 24 3 (.int .i64 0) 8 rfl Try.underlying24 info3 rfl z8_12 (by omega) u3 a7 0 [.int .i64 0] (fun _ => True) (fun _ => False) rfl rfl ?aP (fun _ hk => hk.elim) ?aF ?aO ?aB ?aS ?aL ?_; (case aP => exact rfl); (case aB => exact z8_0); (case aF => exact (fun _ _ => trivial)); (case aO => exact z8_5); (case aS => exact (below_size z8_0)); (case aL => have := LMc29.out; omega); intro l8 m9 ho hb hg hat; rw [← Ny192.out] at ho; replace a1 := Aside0.mk (Kd.S_after (ok := (fun _ => True)) z8_4 hg hat); replace a3 := Aside0.mk (blk_grown (g := a4) (o := .cells #[.slice none 0 0, .slice none 0 0] 26 (0, 0)) z8_2 hg (Kd.R_ne a9.out a3.out z8_12)); replace a2 := Aside0.mk (blk_grown (g := a8) (o := .cells #[u172000, .slice none 0 0] 26 (0, 0)) z8_1 hg (Kd.R_ne a9.out a2.out z8_12)); replace HB := Aside0.mk (hb); have g6 := Aside0.mk (ho); clear a9; clear ho hb hg hat))
               go_roundg b1
               case measure => have := HK1.out; have := HK2.out; have := d1.out; have := b8.out; omega
               case rel => exact ⟨(y192), (wrap64 (a5 + 1)), z8_6, H', ⟨z8_8⟩, ⟨by (with_reducible repeat (first | apply Kd.R_alloc | apply Kd.R_drewN | apply Kd.R_drew)); exact g6.out⟩, ⟨z8_3⟩, ⟨z8_2⟩, ⟨z8_1⟩, ⟨z8_0⟩⟩
              rw [if_neg i1] at H
              exact absurd H (by simp)
             rw [if_neg f0] at H
             have g3 : decide (3 ≤ a6) = false := decide_eq_false f0
             clear f0
             by_cases i2 : a7.length < 17592186044416
             ·
              rw [if_pos i2] at H
              have LMc31 := Aside0.mk i2
              clear i2
              obtain ⟨y195, hy195⟩ : ∃ y_ : List Int, y_ = (a7 ++ [0]) := ⟨_, rfl⟩
              replace H : (spec_l20Pasted.l1 b1 a6 y195 (wrap64 (a5 + 1)) a0) = some (r1, r2) := by first | (rw [hy195]; with_reducible exact H) | (have H2_ := (Option.bind_some _ _).symm.trans H; rw [hy195]; with_reducible exact H2_) | (have H2_ := (Option.bind_some _ _).symm.trans H; with_reducible exact H2_) | with_reducible exact H | (rw [hy195]; exact H) | exact H
              have Ny195 := Aside0.mk hy195
              clear hy195
              have H' := Aside0.mk H
              clear H
              go_wp2_with (first | ((with_reducible refine gate_builtin (b := .append) (xs := #[.tmp 59, .tmp 61]) rfl ?_); at_builtin; refine Kd.R_append (Kd.int .i64) (w0 := w) w.heap.size rfl (.tmp 59) (.tmp 61) 24 3 (.int .i64 0) 8 rfl Try.underlying24 info3 rfl z8_12 (by omega) u3 a7 0 [.int .i64 0] (fun _ => True) (fun _ => False) rfl rfl ?aP (fun _ hk => hk.elim) ?aF ?aO ?aB ?aS ?aL ?_; (case aP => exact rfl); (case aB => exact z8_0); (case aF => exact (fun _ _ => trivial)); (case aO => exact z8_5); (case aS => exact (below_size z8_0)); (case aL => have := LMc31.out; omega); intro l9 n0 ho hb hg hat; rw [← Ny195.out] at ho; replace a1 := Aside0.mk (Kd.S_after (ok := (fun _ => True)) z8_4 hg hat); replace a3 := Aside0.mk (blk_grown (g := a4) (o := .cells #[.slice none 0 0, .slice none 0 0] 26 (0, 0)) z8_2 hg (Kd.R_ne a9.out a3.out z8_12)); replace a2 := Aside0.mk (blk_grown (g := a8) (o := .cells #[u172000, .slice none 0 0] 26 (0, 0)) z8_1 hg (Kd.R_ne a9.out a2.out z8_12)); replace HB := Aside0.mk (hb); have g7 := Aside0.mk (ho); clear a9; clear ho hb hg hat))
              go_roundg b1
              case measure => have := HK1.out; have := HK2.out; have := d1.out; have := b8.out; omega
              case rel => exact ⟨(y195), (wrap64 (a5 + 1)), z8_6, H', ⟨z8_8⟩, ⟨by (with_reducible repeat (first | apply Kd.R_alloc | apply Kd.R_drewN | apply Kd.R_drew)); exact g7.out⟩, ⟨z8_3⟩, ⟨z8_2⟩, ⟨z8_1⟩, ⟨z8_0⟩⟩
             rw [if_neg i2] at H
             exact absurd H (by simp)
            rw [if_neg e8] at H
            have g0 : decide (a6 ≤ 3) = false := decide_eq_false e8
            clear e8
            by_cases f2 : a6 ≥ 3
            ·
             rw [if_pos f2] at H
             have g8 : decide (3 ≤ a6) = true := decide_eq_true f2
             clear f2
             by_cases f3 : (wrap64 (a5 - 5)) ≥ 3
             ·
              rw [if_pos f3] at H
              have g9 : decide (3 ≤ (wrap64 (a5 - 5))) = true := decide_eq_true f3
              clear f3
              by_cases i3 : a7.length < 17592186044416
              ·
               rw [if_pos i3] at H
               have LMc35 := Aside0.mk i3
               clear i3
               obtain ⟨y198, hy198⟩ : ∃ y_ : List Int, y_ = (a7 ++ [1]) := ⟨_, rfl⟩
               replace H : (spec_l20Pasted.l1 b1 a6 y198 (wrap64 (a5 + 1)) a0) = some (r1, r2) := by first | (rw [hy198]; with_reducible exact H) | (have H2_ := (Option.bind_some _ _).symm.trans H; rw [hy198]; with_reducible exact H2_) | (have H2_ := (Option.bind_some _ _).symm.trans H; with_reducible exact H2_) | with_reducible exact H | (rw [hy198]; exact H) | exact H
               have Ny198 := Aside0.mk hy198
               clear hy198
               have H' := Aside0.mk H
               clear H
               go_wp2_with (first | ((with_reducible refine gate_builtin (b := .append) (xs := #[.tmp 59, .tmp 61]) rfl ?_); at_builtin; refine Kd.R_append (Kd.int .i64) (w0 := w) w.heap.size rfl (.tmp 59) (.tmp 61) 24 3 (.int .i64 0) 8 rfl Try.underlying24 info3 rfl z8_12 (by omega) u3 a7 1 [.int .i64 1] (fun _ => True) (fun _ => False) rfl rfl ?aP (fun _ hk => hk.elim) ?aF ?aO ?aB ?aS ?aL ?_; (case aP => exact rfl); (case aB => exact z8_0); (case aF => exact (fun _ _ => trivial)); (case aO => exact z8_5); (case aS => exact (below_size z8_0)); (case aL => have := LMc35.out; omega); intro m0 n1 ho hb hg hat; rw [← Ny198.out] at ho; replace a1 := Aside0.mk (Kd.S_after (ok := (fun _ => True)) z8_4 hg hat); replace a3 := Aside0.mk (blk_grown (g := a4) (o := .cells #[.slice none 0 0, .slice none 0 0] 26 (0, 0)) z8_2 hg (Kd.R_ne a9.out a3.out z8_12)); replace a2 := Aside0.mk (blk_grown (g := a8) (o := .cells #[u172000, .slice none 0 0] 26 (0, 0)) z8_1 hg (Kd.R_ne a9.out a2.out z8_12)); replace HB := Aside0.mk (hb); have h0 := Aside0.mk (ho); clear a9; clear ho hb hg hat))
               go_roundg b1
               case measure => have := HK1.out; have := HK2.out; have := d1.out; have := b8.out; omega
               case rel => exact ⟨(y198), (wrap64 (a5 + 1)), z8_6, H', ⟨z8_8⟩, ⟨by (with_reducible repeat (first | apply Kd.R_alloc | apply Kd.R_drewN | apply Kd.R_drew)); exact h0.out⟩, ⟨z8_3⟩, ⟨z8_2⟩, ⟨z8_1⟩, ⟨z8_0⟩⟩
              rw [if_neg i3] at H
              exact absurd H (by simp)
             rw [if_neg f3] at H
             have g9 : decide (3 ≤ (wrap64 (a5 - 5))) = false := decide_eq_false f3
             clear f3
             by_cases i4 : a7.length < 17592186044416
             ·
              rw [if_pos i4] at H
              have LMc37 := Aside0.mk i4
              clear i4
              obtain ⟨y201, hy201⟩ : ∃ y_ : List Int, y_ = (a7 ++ [0]) := ⟨_, rfl⟩
              replace H : (spec_l20Pasted.l1 b1 a6 y201 (wrap64 (a5 + 1)) a0) = some (r1, r2) := by first | (rw [hy201]; with_reducible exact H) | (have H2_ := (Option.bind_some _ _).symm.trans H; rw [hy201]; with_reducible exact H2_) | (have H2_ := (Option.bind_some _ _).symm.trans H; with_reducible exact H2_) | with_reducible exact H | (rw [hy201]; exact H) | exact H
              have Ny201 := Aside0.mk hy201
              clear hy201
              have H' := Aside0.mk H
              clear H
              go_wp2_with (first | ((with_reducible refine gate_builtin (b := .append) (xs := #[.tmp 59, .tmp 61]) rfl ?_); at_builtin; refine Kd.R_append (Kd.int .i64) (w0 := w) w.heap.size rfl (.tmp 59) (.tmp 61) 24 3 (.int .i64 0) 8 rfl Try.underlying24 info3 rfl z8_12 (by omega) u3 a7 0 [.int .i64 0] (fun _ => True) (fun _ => False) rfl rfl ?aP (fun _ hk => hk.elim) ?aF ?aO ?aB ?aS ?aL ?_; (case aP => exact rfl); (case aB => exact z8_0); (case aF => exact (fun _ _ => trivial)); (case aO => exact z8_5); (case aS => exact (below_size z8_0)); (case aL => have := LMc37.out; omega); intro m1 n2 ho hb hg hat; rw [← Ny201.out] at ho; replace a1 := Aside0.mk (Kd.S_after (ok := (fun _ => True)) z8_4 hg hat); replace a3 := Aside0.mk (blk_grown (g := a4) (o := .cells #[.slice none 0 0, .slice none 0 0] 26 (0, 0)) z8_2 hg (Kd.R_ne a9.out a3.out z8_12)); replace a2 := Aside0.mk (blk_grown (g := a8) (o := .cells #[u172000, .slice none 0 0] 26 (0, 0)) z8_1 hg (Kd.R_ne a9.out a2.out z8_12)); replace HB := Aside0.mk (hb); have h1 := Aside0.mk (ho); clear a9; clear ho hb hg hat))
              go_roundg b1
              case measure => have := HK1.out; have := HK2.out; have := d1.out; have := b8.out; omega
              case rel => exact ⟨(y201), (wrap64 (a5 + 1)), z8_6, H', ⟨z8_8⟩, ⟨by (with_reducible repeat (first | apply Kd.R_alloc | apply Kd.R_drewN | apply Kd.R_drew)); exact h1.out⟩, ⟨z8_3⟩, ⟨z8_2⟩, ⟨z8_1⟩, ⟨z8_0⟩⟩
             rw [if_neg i4] at H
             exact absurd H (by simp)
            rw [if_neg f2] at H
            have g8 : decide (3 ≤ a6) = false := decide_eq_false f2
            clear f2
            by_cases i5 : a7.length < 17592186044416
            ·
             rw [if_pos i5] at H
             have LMc39 := Aside0.mk i5
             clear i5
             obtain ⟨y204, hy204⟩ : ∃ y_ : List Int, y_ = (a7 ++ [0]) := ⟨_, rfl⟩
             replace H : (spec_l20Pasted.l1 b1 a6 y204 (wrap64 (a5 + 1)) a0) = some (r1, r2) := by first | (rw [hy204]; with_reducible exact H) | (have H2_ := (Option.bind_some _ _).symm.trans H; rw [hy204]; with_reducible exact H2_) | (have H2_ := (Option.bind_some _ _).symm.trans H; with_reducible exact H2_) | with_reducible exact H | (rw [hy204]; exact H) | exact H
             have Ny204 := Aside0.mk hy204
             clear hy204
             have H' := Aside0.mk H
             clear H
             go_wp2_with (first | ((with_reducible refine gate_builtin (b := .append) (xs := #[.tmp 59, .tmp 61]) rfl ?_); at_builtin; refine Kd.R_append (Kd.int .i64) (w0 := w) w.heap.size rfl (.tmp 59) (.tmp 61) 24 3 (.int .i64 0) 8 rfl Try.underlying24 info3 rfl z8_12 (by omega) u3 a7 0 [.int .i64 0] (fun _ => True) (fun _ => False) rfl rfl ?aP (fun _ hk => hk.elim) ?aF ?aO ?aB ?aS ?aL ?_; (case aP => exact rfl); (case aB => exact z8_0); (case aF => exact (fun _ _ => trivial)); (case aO => exact z8_5); (case aS => exact (below_size z8_0)); (case aL => have := LMc39.out; omega); intro m2 n3 ho hb hg hat; rw [← Ny204.out] at ho; replace a1 := Aside0.mk (Kd.S_after (ok := (fun _ => True)) z8_4 hg hat); replace a3 := Aside0.mk (blk_grown (g := a4) (o := .cells #[.slice none 0 0, .slice none 0 0] 26 (0, 0)) z8_2 hg (Kd.R_ne a9.out a3.out z8_12)); replace a2 := Aside0.mk (blk_grown (g := a8) (o := .cells #[u172000, .slice none 0 0] 26 (0, 0)) z8_1 hg (Kd.R_ne a9.out a2.out z8_12)); replace HB := Aside0.mk (hb); have h2 := Aside0.mk (ho); clear a9; clear ho hb hg hat))
             go_roundg b1
             case measure => have := HK1.out; have := HK2.out; have := d1.out; have := b8.out; omega
             case rel => exact ⟨(y204), (wrap64 (a5 + 1)), z8_6, H', ⟨z8_8⟩, ⟨by (with_reducible repeat (first | apply Kd.R_alloc | apply Kd.R_drewN | apply Kd.R_drew)); exact h2.out⟩, ⟨z8_3⟩, ⟨z8_2⟩, ⟨z8_1⟩, ⟨z8_0⟩⟩
            rw [if_neg i5] at H
            exact absurd H (by simp)
           replace h8 := Bool.eq_false_iff.mpr h8
           subst h8
           rw [if_neg nf_] at H
           by_cases i6 : a7.length < 17592186044416
           ·
            rw [if_pos i6] at H
            have LMc41 := Aside0.mk i6
            clear i6
            obtain ⟨y207, hy207⟩ : ∃ y_ : List Int, y_ = (a7 ++ [0]) := ⟨_, rfl⟩
            replace H : (spec_l20Pasted.l1 b1 a6 y207 (wrap64 (a5 + 1)) a0) = some (r1, r2) := by first | (rw [hy207]; with_reducible exact H) | (have H2_ := (Option.bind_some _ _).symm.trans H; rw [hy207]; with_reducible exact H2_) | (have H2_ := (Option.bind_some _ _).symm.trans H; with_reducible exact H2_) | with_reducible exact H | (rw [hy207]; exact H) | exact H
            have Ny207 := Aside0.mk hy207
            clear hy207
            have H' := Aside0.mk H
            clear H
            go_wp2_with (first | ((with_reducible refine gate_builtin (b := .append) (xs := #[.tmp 59, .tmp 61]) rfl ?_); at_builtin; refine Kd.R_append (Kd.int .i64) (w0 := w) w.heap.size rfl (.tmp 59) (.tmp 61) 24 3 (.int .i64 0) 8 rfl Try.underlying24 info3 rfl z8_12 (by omega) u3 a7 0 [.int .i64 0] (fun _ => True) (fun _ => False) rfl rfl ?aP (fun _ hk => hk.elim) ?aF ?aO ?aB ?aS ?aL ?_; (case aP => exact rfl); (case aB => exact z8_0); (case aF => exact (fun _ _ => trivial)); (case aO => exact z8_5); (case aS => exact (below_size z8_0)); (case aL => have := LMc41.out; omega); intro m3 n4 ho hb hg hat; rw [← Ny207.out] at ho; replace a1 := Aside0.mk (Kd.S_after (ok := (fun _ => True)) z8_4 hg hat); replace a3 := Aside0.mk (blk_grown (g := a4) (o := .cells #[.slice none 0 0, .slice none 0 0] 26 (0, 0)) z8_2 hg (Kd.R_ne a9.out a3.out z8_12)); replace a2 := Aside0.mk (blk_grown (g := a8) (o := .cells #[u172000, .slice none 0 0] 26 (0, 0)) z8_1 hg (Kd.R_ne a9.out a2.out z8_12)); replace HB := Aside0.mk (hb); have h3 := Aside0.mk (ho); clear a9; clear ho hb hg hat))
            go_roundg b1
            case measure => have := HK1.out; have := HK2.out; have := d1.out; have := b8.out; omega
            case rel => exact ⟨(y207), (wrap64 (a5 + 1)), z8_6, H', ⟨z8_8⟩, ⟨by (with_reducible repeat (first | apply Kd.R_alloc | apply Kd.R_drewN | apply Kd.R_drew)); exact h3.out⟩, ⟨z8_3⟩, ⟨z8_2⟩, ⟨z8_1⟩, ⟨z8_0⟩⟩
           rw [if_neg i6] at H
           exact absurd H (by simp)
      rw [if_neg c8] at H
      have e6 : decide (a5 < 12) = false := decide_eq_false c8
      clear c8
      by_cases i7 : a0.length < 5864062014805
      ·
       rw [if_pos i7] at H
       have LMc43 := Aside0.mk i7
       clear i7
       obtain ⟨y178, hy178⟩ : ∃ y_ : List (List Int), y_ = (a0 ++ [a7]) := ⟨_, rfl⟩
       replace H : (spec_l20Pasted.l0 k2 (wrap64 (a6 + 1)) y178) = some (r1, r2) := by first | (rw [hy178]; with_reducible exact H) | (have H2_ := (Option.bind_some _ _).symm.trans H; rw [hy178]; with_reducible exact H2_) | (have H2_ := (Option.bind_some _ _).symm.trans H; with_reducible exact H2_) | with_reducible exact H | (rw [hy178]; exact H) | exact H
       have Ny178 := Aside0.mk hy178
       clear hy178
       have H' := Aside0.mk H
       clear H
       have k4 := b2.out
       have k5 := b0.out
       have b3 := cz20 a2.out
       have b4 := cz21 a2.out
       have b5 := blk_frozen a2.out 0
       have b6 := blk_frozen a2.out 1
       obtain ⟨h4, h5, j5⟩ := Kd.R_slice a9.out
       subst j5
       go_wp2_with (first | ((with_reducible refine gate_builtin (b := .append) (xs := #[.tmp 64, .tmp 66]) rfl ?_); at_builtin; refine Kd.S_append (Kd.slice 3 (Kd.int .i64)) (w0 := w) w.heap.size rfl (.tmp 64) (.tmp 66) 23 24 (.slice none 0 0) 24 rfl Try.underlying23 info24 rfl z8_12 (by omega) u172000 a0 a7 [.slice h4 a7.length h5] (fun _ => True) (fun k_ => some k_ = (.slice h4 a7.length h5 : Value).ownBlock) rfl rfl ?aP (fun k_ hk_ => ((Kd.R_mono (ok' := fun k_ => ((fun _ => True)) k_ ∧ some k_ ≠ (u172000 : Value).ownBlock) (Kd.R_apart' (a9.out) (Kd.S_typed a1.out) z8_12) (fun k_ hk => ⟨trivial, hk.2⟩))).1 k_ hk_.symm) ?aF ?aO ?aB ?aS ?aL ?_; (case aP => exact Kd.M_row (Kd.R_mono (Kd.R_tight rfl (Kd.R_mono (ok' := fun k_ => ((fun _ => True)) k_ ∧ some k_ ≠ (u172000 : Value).ownBlock) (Kd.R_apart' (a9.out) (Kd.S_typed a1.out) z8_12) (fun k_ hk => ⟨trivial, hk.2⟩))) (fun _ h_ => h_))); (case aB => exact z8_0); (case aF => exact (fun _ _ => trivial)); (case aO => exact (by (with_reducible repeat (first | apply Kd.S_alloc | apply Kd.S_drewN | apply Kd.S_drew)); exact Kd.S_mono a1.out (fun k_ hk => ⟨trivial, fun e_ => hk e_⟩))); (case aS => exact (below_size z8_0)); (case aL => have := LMc43.out; omega); intro m4 n5 ho hb hg hat; rw [← Ny178.out] at ho; replace a3 := Aside0.mk (blk_grown (g := a4) (o := .cells #[.slice none 0 0, .slice none 0 0] 26 (0, 0)) z8_2 hg (Kd.S_ne a1.out a3.out z8_12)); replace a2 := Aside0.mk (blk_grown (g := a8) (o := .cells #[u172000, .slice none 0 0] 26 (0, 0)) z8_1 hg (Kd.S_ne a1.out a2.out z8_12)); replace HB := Aside0.mk (hb); have e4 := Aside0.mk (ho); clear a1 a9; clear ho hb hg hat; obtain ⟨h6, h7, j6⟩ := Kd.S_slice e4.out; subst j6; have b3 := cz20 a2.out; have b4 := cz21 a2.out; have b5 := blk_frozen a2.out 0; have b6 := blk_frozen a2.out 1))
       go_roundg k2
       case measure => have := HK1.out; have := HK2.out; omega
       case rel => exact ⟨(wrap64 (a6 + 1)), (y178), (.slice h6 y178.length h7), z8_6, H', ⟨by have := HK1.out; have := HK2.out; omega⟩, ⟨by (with_reducible repeat (first | apply Kd.S_alloc | apply Kd.S_drewN | apply Kd.S_drew)); exact Kd.S_mono (Kd.S_far (p := ⟨a8, 0, none⟩) (Kd.S_types e4.out a2.out z8_12) (fun _ hk => hk.2) (.slice h6 y178.length h7)) (fun _ hk => trivial)⟩, ⟨by (with_reducible repeat (first | refine blk_drewN ?_ _ | refine blk_drew ?_ | refine blk_alloc ?_ _)); refine blk_far ?_ b0.out _; (with_reducible repeat (first | refine blk_drewN ?_ _ | refine blk_drew ?_ | refine blk_alloc ?_ _)); exact a3.out⟩, ⟨by (with_reducible repeat (first | refine blk_drewN ?_ _ | refine blk_drew ?_ | refine blk_alloc ?_ _)); refine blk_put (cs := #[u172000, .slice none 0 0]) ?_ 0 _ rfl; (with_reducible repeat (first | refine blk_drewN ?_ _ | refine blk_drew ?_ | refine blk_alloc ?_ _)); exact a2.out⟩, ⟨z8_0⟩⟩
      rw [if_neg i7] at H
      exact absurd H (by simp)
   rw [if_neg c5] at H
   have d8 : decide (a6 < 12) = false := decide_eq_false c5
   clear c5
   obtain ⟨y172, hy172⟩ : ∃ y_ : List Int, y_ = (([11, 6, 7, 8, 9, 10, 1, 2, 3, 4, 5, 0] : List Int)) := ⟨_, rfl⟩
   replace H : (some (a0, y172)) = some (r1, r2) := by first | (rw [hy172]; with_reducible exact H) | (have H2_ := (Option.bind_some _ _).symm.trans H; rw [hy172]; with_reducible exact H2_) | (have H2_ := (Option.bind_some _ _).symm.trans H; with_reducible exact H2_) | with_reducible exact H | (rw [hy172]; exact H) | exact H
   have Ny172 := Aside0.mk hy172
   clear hy172
   simp only [Option.some.injEq, Prod.mk.injEq] at H
   obtain ⟨rfl, rfl⟩ := H
   go_wp2_with (first | ((with_reducible refine gate_dst (N := 69) rfl ?_); refine Kd.R_lit (Kd.int .i64) _ 3 ?hg (N := 69) ?hd (xs := ([11, 6, 7, 8, 9, 10, 1, 2, 3, 4, 5, 0] : List Int)) (inner := [.int .i64 11, .int .i64 6, .int .i64 7, .int .i64 8, .int .i64 9, .int .i64 10, .int .i64 1, .int .i64 2, .int .i64 3, .int .i64 4, .int .i64 5, .int .i64 0]) (ok := fun _ => True) (okp := fun _ => True) ?hr ?hp (fun _ hk => hk) trivial (Below.refl _ _) (Nat.le_refl _) (by simp) ?_; (case hd => rfl); (case hg => rfl); (case hr => first | (go_simp; done) | (go_simp; rfl)); (case hp => exact (Reps.one (show Kd.M (Kd.int .i64) _ _ _ 11 [.int .i64 11] from rfl) (Reps.one (show Kd.M (Kd.int .i64) _ _ _ 6 [.int .i64 6] from rfl) (Reps.one (show Kd.M (Kd.int .i64) _ _ _ 7 [.int .i64 7] from rfl) (Reps.one (show Kd.M (Kd.int .i64) _ _ _ 8 [.int .i64 8] from rfl) (Reps.one (show Kd.M (Kd.int .i64) _ _ _ 9 [.int .i64 9] from rfl) (Reps.one (show Kd.M (Kd.int .i64) _ _ _ 10 [.int .i64 10] from rfl) (Reps.one (show Kd.M (Kd.int .i64) _ _ _ 1 [.int .i64 1] from rfl) (Reps.one (show Kd.M (Kd.int .i64) _ _ _ 2 [.int .i64 2] from rfl) (Reps.one (show Kd.M (Kd.int .i64) _ _ _ 3 [.int .i64 3] from rfl) (Reps.one (show Kd.M (Kd.int .i64) _ _ _ 4 [.int .i64 4] from rfl) (Reps.one (show Kd.M (Kd.int .i64) _ _ _ 5 [.int .i64 5] from rfl) (Reps.one (show Kd.M (Kd.int .i64) _ _ _ 0 [.int .i64 0] from rfl) (Reps.none _ _)))))))))))))); intro m5 n6 ho51 hb hg_ hnew_; clear hg_ hnew_; (first | rw [← Ny172.out] at ho51 | (simp only [Int.reduceToNat] at ho51; rw [← Ny172.out] at ho51)); replace a1 := Aside0.mk (Kd.S_elder' z8_7 (Kd.R_base ho51) hb); have e5 := Aside0.mk (Kd.R_lower ho51 (below_size z8_0)); replace a3 := Aside0.mk (blk_below (g := a4) (o := .cells #[.slice none 0 0, .slice none 0 0] 26 (0, 0)) z8_2 hb); replace a2 := Aside0.mk (blk_below (g := a8) (o := .cells #[u172000, .slice none 0 0] 26 (0, 0)) z8_1 hb); replace HB := Aside0.mk (below_step z8_0 hb); clear hb ho51; obtain ⟨d6, d7, j7⟩ := Kd.R_slice e5.out; subst j7; have k6 := b2.out; have k7 := b0.out; have b3 := cz20 a2.out; have b4 := cz21 a2.out; have b5 := blk_frozen a2.out 0; have b6 := blk_frozen a2.out 1; obtain ⟨e1, e2, j8⟩ := Kd.S_slice a1.out; subst j8; have b3 := cz20 a3.out; have b4 := cz21 a3.out; have b5 := blk_frozen a3.out 0; have b6 := blk_frozen a3.out 1))
   refine bodyPost_ret (results_cell_row rfl _ _ a4 26 #[.slice e1 a0.length e2, .slice d6 y172.length d7] (0, 0) _ rfl (by (with_reducible repeat (first | refine blk_drewN ?_ _ | refine blk_drew ?_ | refine blk_alloc ?_ _)); refine blk_put (cs := #[.slice e1 a0.length e2, .slice none 0 0]) ?_ 1 _ rfl; (with_reducible repeat (first | refine blk_drewN ?_ _ | refine blk_drew ?_ | refine blk_alloc ?_ _)); refine blk_put (cs := #[.slice none 0 0, .slice none 0 0]) ?_ 0 _ rfl; (with_reducible repeat (first | refine blk_drewN ?_ _ | refine blk_drew ?_ | refine blk_alloc ?_ _)); refine blk_far ?_ b0.out _; (with_reducible repeat (first | refine blk_drewN ?_ _ | refine blk_drew ?_ | refine blk_alloc ?_ _)); exact a3.out) Try.underlying26 rfl (by kernel_rfl)) rfl ?_
   exact ⟨_, _, by first | rfl | (simp [errW_none, errW_some] <;> rfl) | (simp [*, errW_none, errW_some] <;> rfl), by (with_reducible repeat (first | apply Kd.S_alloc | apply Kd.S_drewN | apply Kd.S_drew)); exact Kd.S_mono (Kd.S_far (p := ⟨a4, 1, none⟩) (Kd.S_far (p := ⟨a4, 0, none⟩) (Kd.S_far (p := ⟨a8, 1, none⟩) (Kd.S_types (Kd.S_types a1.out a2.out z8_12) a3.out z8_12) (fun _ hk => hk.1.2) (.slice d6 y172.length d7)) (fun _ hk => hk.2) (.slice e1 a0.length e2)) (fun _ hk => hk.2) (.slice d6 y172.length d7)) (fun _ hk => hk.1.1.2), by (with_reducible repeat (first | apply Kd.R_alloc | apply Kd.R_drewN | apply Kd.R_drew)); exact Kd.R_mono (Kd.R_far (p := ⟨a4, 1, none⟩) (Kd.R_far (p := ⟨a4, 0, none⟩) (Kd.R_far (p := ⟨a8, 1, none⟩) (Kd.R_types (Kd.R_types e5.out a2.out z8_12) a3.out z8_12) (fun _ hk => hk.1.2) (.slice d6 y172.length d7)) (fun _ hk => hk.2) (.slice e1 a0.length e2)) (fun _ hk => hk.2) (.slice d6 y172.length d7)) (fun _ hk => trivial), by repeat (first | (with_reducible first | exact HB.out | apply below_alloc | apply pw_below_drewN | apply below_drew1 | refine below_set ?_ d2.out | refine below_set ?_ e3.out) | exact HB.out)⟩

end Go.Proofs.Ytjgfpiilfnchnaa.P

-- written by gen.py (a program of this session) out of the kit's print of this seat's translation
namespace Go.Proofs.Ytjgfpiilfnchnaa.P
open Go.RowKit Go.Proofs.YtjgfpiilfnchnaaW.PrintWords Go.Proofs.YtjgfpiilfnchnaaW.PrintLast Go.Proofs.YtjgfpiilfnchnaaW.PrintMore
attribute [local go_sem] max2_int min2_int max_two min_two max_three min_three max_four min_four
set_option linter.unusedVariables false
set_option linter.unusedSimpArgs false
theorem IsS70.grown {w0 W : World} {g : Nat} {f0 : List Int} {f1 : Int} {W1 : World} {row : Option Nat} (h : IsS70 w0 W g f0 f1) (hw : W.grownBy W1 row) (hne : some g ≠ row) : IsS70 w0 W1 g f0 f1 := by
 obtain ⟨A0, c0, hb, hg, hr0⟩ := h
 exact ⟨A0, c0, blk_grown hb hw hne, hg, hr0⟩
theorem IsS70.own_neN {w0 W : World} {g : Nat} {f0 : List Int} {f1 : Int} {α : Type} {d : Kd α} {e : Nat} {base : Nat} {ok : Nat → Prop} {v : Value} {xs : List α} (h : IsS70 w0 W g f0 f1) (ho : Kd.N d e W base ok v xs) (ht : e ≠ 70) : some g ≠ v.ownBlock := by
 obtain ⟨A0, c0, hb, hg, hr0⟩ := h
 exact Kd.N_ne ho hb ht
theorem IsS70.fresh {w0 W : World} {g : Nat} {f0 : List Int} {f1 : Int} (h : IsS70 w0 W g f0 f1) : ∀ k, W.heap.size ≤ k → k ≠ g := by
 obtain ⟨A0, c0, hb, hg, hr0⟩ := h
 exact Kd.freshB hb
theorem IsS70.kept {w0 W : World} {g : Nat} {f0 : List Int} {f1 : Int} {W1 : World} {S : Nat → Prop} (h : IsS70 w0 W g f0 f1) (hk : Kept W W1 S) (hne : ¬ S g) : IsS70 w0 W1 g f0 f1 := by
 obtain ⟨A0, c0, hb, hg, hr0⟩ := h
 exact ⟨A0, c0, blk_kept hb hk hne, hg, hr0⟩
theorem IsS70.below {w0 W : World} {g : Nat} {f0 : List Int} {f1 : Int} {W1 : World} (h : IsS70 w0 W g f0 f1) (hw : Below W.heap.size W W1) : IsS70 w0 W1 g f0 f1 := h.grown (grown_of_below hw none) (by simp)
theorem IsS70.alloc {w0 W : World} {g : Nat} {f0 : List Int} {f1 : Int} (h : IsS70 w0 W g f0 f1) (o : Obj) : IsS70 w0 (W.alloc o) g f0 f1 := h.below (below_alloc (Below.refl _ _) o)
theorem IsS70.drewN {w0 W : World} {g : Nat} {f0 : List Int} {f1 : Int} (h : IsS70 w0 W g f0 f1) (m : Nat) : IsS70 w0 (W.drewN m) g f0 f1 := h
theorem IsS70.drew {w0 W : World} {g : Nat} {f0 : List Int} {f1 : Int} (h : IsS70 w0 W g f0 f1) : IsS70 w0 W.drew g f0 f1 := h
theorem IsS70.at_ {w0 W : World} {g : Nat} {f0 : List Int} {f1 : Int} {w' : World} {m : Nat} (hq : W.drewN m = w') (h : IsS70 w0 W g f0 f1) : IsS70 w0 w' g f0 f1 := by subst hq; exact IsS70.drewN h m
theorem IsS70.apart {w0 W : World} {g : Nat} {f0 : List Int} {f1 : Int} {α : Type} {d : Kd α} {e : Nat} {base : Nat} {ok : Nat → Prop} {v : Value} {xs : List α} (h : IsS70 w0 W g f0 f1) (ho : d.R e W base ok v xs) (ht : ∀ q, q ∈ e :: d.E → q ≠ 70) : d.R e W base (fun k => ok k ∧ k ≠ g) v xs := by
 obtain ⟨A0, c0, hb, hg, hr0⟩ := h
 exact Kd.R_types ho hb ht
theorem IsS70.own_ne {w0 W : World} {g : Nat} {f0 : List Int} {f1 : Int} {α : Type} {d : Kd α} {e : Nat} {base : Nat} {ok : Nat → Prop} {v : Value} {xs : List α} (h : IsS70 w0 W g f0 f1) (ho : d.R e W base ok v xs) (ht : e ≠ 70) : some g ≠ v.ownBlock := by
 obtain ⟨A0, c0, hb, hg, hr0⟩ := h
 exact Kd.R_ne ho hb ht
theorem IsS70.apartQ {w0 W : World} {g : Nat} {f0 : List Int} {f1 : Int} {α : Type} {d : Kd α} {e : Nat} {base : Nat} {ok : Nat → Prop} {v : Value} {xs : List α} (h : IsS70 w0 W g f0 f1) (ho : d.Q e W base ok v xs) (ht : ∀ q, q ∈ e :: d.E → q ≠ 70) : d.Q e W base (fun k => ok k ∧ k ≠ g) v xs := by
 obtain ⟨A0, c0, hb, hg, hr0⟩ := h
 exact Kd.Q_types ho hb ht
theorem IsS70.own_neQ {w0 W : World} {g : Nat} {f0 : List Int} {f1 : Int} {α : Type} {d : Kd α} {e : Nat} {base : Nat} {ok : Nat → Prop} {v : Value} {xs : List α} (h : IsS70 w0 W g f0 f1) (ho : d.Q e W base ok v xs) (ht : e ≠ 70) : some g ≠ v.ownBlock := by
 obtain ⟨A0, c0, hb, hg, hr0⟩ := h
 exact Kd.Q_ne ho hb ht
theorem IsS70.apartS {w0 W : World} {g : Nat} {f0 : List Int} {f1 : Int} {α : Type} {d : Kd α} {e : Nat} {base : Nat} {ok : Nat → Prop} {v : Value} {xs : List α} (h : IsS70 w0 W g f0 f1) (ho : d.S e W base ok v xs) (ht : ∀ q, q ∈ e :: d.E → q ≠ 70) : d.S e W base (fun k => ok k ∧ k ≠ g) v xs := by
 obtain ⟨A0, c0, hb, hg, hr0⟩ := h
 exact Kd.S_types ho hb ht
theorem IsS70.own_neS {w0 W : World} {g : Nat} {f0 : List Int} {f1 : Int} {α : Type} {d : Kd α} {e : Nat} {base : Nat} {ok : Nat → Prop} {v : Value} {xs : List α} (h : IsS70 w0 W g f0 f1) (ho : d.S e W base ok v xs) (ht : e ≠ 70) : some g ≠ v.ownBlock := by
 obtain ⟨A0, c0, hb, hg, hr0⟩ := h
 exact Kd.S_ne ho hb ht
theorem IsS70.lt {w0 W : World} {g : Nat} {f0 : List Int} {f1 : Int} (h : IsS70 w0 W g f0 f1) : g < W.heap.size := by
 obtain ⟨A0, c0, hb, hg, hr0⟩ := h
 exact blk_lt hb
theorem IsS70.ge {w0 W : World} {g : Nat} {f0 : List Int} {f1 : Int} (h : IsS70 w0 W g f0 f1) : w0.heap.size ≤ g := by
 obtain ⟨A0, c0, hb, hg, hr0⟩ := h
 exact hg
theorem IsS70.ne_blk {w0 W : World} {g : Nat} {f0 : List Int} {f1 : Int} {a : Nat} {cs : Array Value} {t : TypeId} {fr : Nat × Nat} (h : IsS70 w0 W g f0 f1) (hb2 : W.heap[a]? = some (.cells cs t fr)) (ht : t ≠ 70) : g ≠ a := by
 obtain ⟨A0, c0, hb, hg, hr0⟩ := h
 rintro rfl
 rw [hb] at hb2
 injection hb2 with hb2
 injection hb2 with _ ht2
 exact ht ht2.symm
theorem IsS70.far {w0 W : World} {g : Nat} {f0 : List Int} {f1 : Int} {p : Addr} (h : IsS70 w0 W g f0 f1) (hne : g ≠ p.block) (u : Value) : IsS70 w0 (W.setCell p u) g f0 f1 := by
 obtain ⟨A0, c0, hb, hg, hr0⟩ := h
 exact ⟨A0, c0, blk_far hb hne u, hg, hr0⟩
theorem cellS70_0 {W : World} {g : Nat} {A0 : Option Addr} {c0 : Nat} {f0 : List Int} {f1 : Int} (h : W.heap[g]? = some (.cells #[.slice A0 f0.length c0, .int .i64 f1] 70 (0, 0))) : W.cell? ⟨g, 0, none⟩ = some (.slice A0 f0.length c0) := (blk_cell h 0).trans rfl
theorem cellS70_1 {W : World} {g : Nat} {A0 : Option Addr} {c0 : Nat} {f0 : List Int} {f1 : Int} (h : W.heap[g]? = some (.cells #[.slice A0 f0.length c0, .int .i64 f1] 70 (0, 0))) : W.cell? ⟨g, 1, none⟩ = some (.int .i64 f1) := (blk_cell h 1).trans rfl
theorem IsS70.set_1 {w0 W : World} {g : Nat} {f0 : List Int} {f1 : Int} (h : IsS70 w0 W g f0 f1) (x : Int) : IsS70 w0 (W.setCell ⟨g, 1, none⟩ (.int .i64 x)) g f0 x := by
 obtain ⟨A0, c0, hb, hg, hr0⟩ := h
 exact ⟨A0, c0, by simpa using blk_set hb 1 (.int .i64 x), hg, hr0⟩
theorem IsS70.new (w0 W : World) (A0 : Option Addr) (c0 : Nat) (f0 : List Int) (f1 : Int) (hB : Below w0.heap.size w0 W) (hr0 : Kd.C (Kd.int .u8) w0 A0 f0.length f0) : IsS70 w0 (W.alloc (.cells #[.slice A0 f0.length c0, .int .i64 f1] 70)) W.heap.size f0 f1 := ⟨A0, c0, by simpa using heap_alloc_new W _, hB.size, hr0⟩

theorem zb_3 {p : Prop} (h : p := by repeat (first | (with_reducible first | exact HK.out | apply KeepBut.set_ | apply keep_drewN | apply keep_drew | apply keep_alloc) | exact HK.out)) : p := h
theorem zb_2 {p : Prop} (h : p := by repeat (first | (with_reducible first | exact a0.out | apply IsS70.alloc | apply IsS70.drewN | apply IsS70.drew | apply IsS70.set_1) | exact a0.out)) : p := h
theorem zb_1 {p : Prop} (h : p := by repeat (first | (with_reducible first | exact HB.out | apply below_alloc | apply pw_below_drewN | apply below_drew1 | refine below_set ?_ (IsS70.ge a0.out)) | exact HB.out)) : p := h
theorem zb_0 {p : Prop} (h : p := by first | (with_reducible assumption) | assumption) : p := h
set_option maxHeartbeats 8000000 in
set_option maxRecDepth 100000 in
theorem spec_l20Rd_pick.calls (k : Nat) (g : Nat) (s0_0 : List Int) (s0_1 : Int) (a1 : Int) (r1 : Int) (r2 : Int) (w0 w : World) (hI : IsS70 w0 w g s0_0 s0_1) (hB : Below w0.heap.size w0 w) (h : spec_l20Rd_pick.f k s0_0 s0_1 a1 = some (r1, r2)) :
  Calls Try.prog 76 #[.pointer (some ⟨g, 0, none⟩), .int .i64 a1] w fun e w' => e = .returned (.int .i64 r1) ∧ IsS70 w0 w' g s0_0 r2 ∧ Below w0.heap.size w0 w' ∧ KeepBut w w' g none := by
 have a0 := Aside0.mk hI
 have HK := Aside0.mk (KeepBut.refl w g none)
 have HL := Aside0.mk hB.size
 clear hI
 have HW0 := Aside0.mk hB.size
 have HB := Aside0.mk hB
 clear hB
 have H : (if a1 < 1 then (spec_l20Rd_pick.j0 k a1 true s0_0 (wrap64 (s0_1 + 1))) else (spec_l20Rd_pick.j0 k a1 ((s0_0.length : Int) == 0) s0_0 (wrap64 (s0_1 + 1)))) = some (r1, r2) := h
 clear h
 have b9 := Aside0.mk H
 clear H
 obtain ⟨ASz4_0, cSz4_0, HGz4, hgz4, HSz4_0⟩ := a0.out
 have a2 := cellS70_0 HGz4
 have a3 := cellS70_1 HGz4
 have a4 := blk_frozen HGz4 1
 clear HGz4 hgz4
 go_enter Try.func76, Try.ntmps76
 go_upto_region 2 with (fail)
 repeat (go_quiet (fail); go_upto_region 2 with (fail))
 go_cut [24] (fun e2 wc => ∃ (kq : Nat) (a5 : Bool), e2 = .bool a5 ∧ Aside0 (spec_l20Rd_pick.j0 kq a1 a5 s0_0 (wrap64 (s0_1 + 1)) = some (r1, r2)) ∧ Aside0 (kq ≤ k) ∧ Aside0 (IsS70 w0 wc g s0_0 (wrap64 (s0_1 + 1))) ∧ Aside0 (KeepBut w wc g none) ∧ Aside0 (Below w0.heap.size w0 wc))
 case first =>
  have H := b9.out
  clear b9
  by_cases c5 : a1 < 1
  ·
   rw [if_pos c5] at H
   have a6 : decide (a1 < 1) = true := decide_eq_true c5
   clear c5
   (first | rw [a6] | (simp only [i64_w, i32_w]; rw [a6]) | skip)
   have H' := Aside0.mk H
   clear H
   go_wp2
   repeat (go_quiet (fail); try go_wp2)
   go_meet
   case rel => exact ⟨_, (true), (by first | rfl | (simp; done) | (simp [*]; done)), H', ⟨by first | omega | exact Nat.le_refl _⟩, ⟨zb_2⟩, ⟨zb_3⟩, ⟨zb_1⟩⟩
  rw [if_neg c5] at H
  have a6 : decide (a1 < 1) = false := decide_eq_false c5
  clear c5
  (first | rw [a6] | (simp only [i64_w, i32_w]; rw [a6]) | skip)
  have H' := Aside0.mk H
  clear H
  obtain ⟨ASz6_0, cSz6_0, HGz6, hgz6, HSz6_0⟩ := a0.out
  have a2 := cellS70_0 HGz6
  have a3 := cellS70_1 HGz6
  have a4 := blk_frozen HGz6 1
  clear HGz6 hgz6
  go_wp2
  repeat (go_quiet (fail); try go_wp2)
  go_meet
  case rel => exact ⟨_, (((s0_0.length : Int) == 0)), (by first | rfl | (simp; done) | (simp [*]; done)), H', ⟨by first | omega | exact Nat.le_refl _⟩, ⟨zb_2⟩, ⟨zb_3⟩, ⟨zb_1⟩⟩
 case rest =>
  clear b9
  try clear p2
  try clear c5
  try clear a6
  try clear p6
  try clear a2
  try clear a3
  try clear a4
  obtain ⟨kq, a5, rfl, HA, e3, a0, HK, HB⟩ := hcut
  cases kq with
  | zero => exact absurd HA.out (by simp [spec_l20Rd_pick.j0])
  | succ e4 =>
   have H := HA.out
   clear HA
   simp only [spec_l20Rd_pick.j0] at H
   by_cases c7 : a5 = true
   ·
    subst c7
    rw [if_pos rfl] at H
    simp only [Option.some.injEq, Prod.mk.injEq] at H
    obtain ⟨rfl, rfl⟩ := H
    go_wp2
    repeat (go_quiet (fail); try go_wp2)
    go_ret
    exact ⟨by first | rfl | (simp [errW_none, errW_some] <;> rfl) | (simp [*, errW_none, errW_some] <;> rfl), by repeat (first | (with_reducible first | exact a0.out | apply IsS70.alloc | apply IsS70.drewN | apply IsS70.drew | apply IsS70.set_1) | exact a0.out), by repeat (first | (with_reducible first | exact HB.out | apply below_alloc | apply pw_below_drewN | apply below_drew1 | refine below_set ?_ (IsS70.ge a0.out)) | exact HB.out), by repeat (first | (with_reducible first | exact HK.out | apply KeepBut.set_ | apply keep_drewN | apply keep_drew | apply keep_alloc) | exact HK.out)⟩
   replace c7 := Bool.eq_false_iff.mpr c7
   subst c7
   rw [if_neg nf_] at H
   by_cases c8 : (wrap64 ((wrap64 (s0_1 + 1)) - 1)) < (s0_0.length : Int)
   ·
    rw [if_pos c8] at H
    have b0 : decide ((wrap64 ((wrap64 (s0_1 + 1)) - 1)) < (s0_0.length : Int)) = true := decide_eq_true c8
    clear c8
    obtain ⟨ji9, hji9⟩ : ∃ j_ : Int, (wrap64 ((wrap64 (s0_1 + 1)) - 1)) = j_ := ⟨_, rfl⟩
    replace H : (if 0 ≤ (ji9) then (if a1 = 0 then (none) else (some (Int.tmod (wrap64 (rd s0_0 (ji9))) a1, (wrap64 (s0_1 + 1))))) else (none)) = some (r1, r2) := by first | (rw [hji9] at H; exact H) | (simp only [hji9] at H ⊢; exact H)
    (try rw [hji9] at b0)
    have hji9w : (IntKind.i64.wrap ((wrap64 (s0_1 + 1)) - 1)) = ji9 := (i64_w _).trans hji9
    by_cases b2 : 0 ≤ (ji9)
    ·
     rw [if_pos b2] at H
     have d0 : decide (0 ≤ (ji9)) = true := decide_eq_true b2
     clear b2
     by_cases b3 : a1 = 0
     ·
      rw [if_pos b3] at H
      exact absurd H (by simp)
     rw [if_neg b3] at H
     have d1 := bv_ b3
     have d2 := bw_ b3
     simp only [Option.some.injEq, Prod.mk.injEq] at H
     obtain ⟨rfl, rfl⟩ := H
     obtain ⟨ASz12_0, cSz12_0, HGz12, hgz12, HSz12_0⟩ := a0.out
     have a2 := cellS70_0 HGz12
     have a3 := cellS70_1 HGz12
     have a4 := blk_frozen HGz12 1
     clear HGz12 hgz12
     have a7 : 0 ≤ ((ji9) : Int) := of_decide_eq_true zb_0
     have q101 : (ji9) < (s0_0.length : Int) := of_decide_eq_true zb_0
     obtain ⟨ad101, e101, hx101_0⟩ := Kd.at_int HSz12_0 (ji9) a7 q101
     cases e101
     replace hx101_0 := pw_cell_below HB.out hx101_0
     replace a7 := eq_true a7
     replace q101 := eq_true q101
     go_wp2
     repeat (go_quiet (fail); try go_wp2)
     go_ret
     exact ⟨by first | rfl | (simp [errW_none, errW_some] <;> rfl) | (simp only [← hji9]; first | rfl | (simp [errW_none, errW_some] <;> rfl)) | (simp [*, errW_none, errW_some] <;> rfl), by repeat (first | (with_reducible first | exact a0.out | apply IsS70.alloc | apply IsS70.drewN | apply IsS70.drew | apply IsS70.set_1) | exact a0.out), by repeat (first | (with_reducible first | exact HB.out | apply below_alloc | apply pw_below_drewN | apply below_drew1 | refine below_set ?_ (IsS70.ge a0.out)) | exact HB.out), by repeat (first | (with_reducible first | exact HK.out | apply KeepBut.set_ | apply keep_drewN | apply keep_drew | apply keep_alloc) | exact HK.out)⟩
    rw [if_neg b2] at H
    exact absurd H (by simp)
   rw [if_neg c8] at H
   have b0 : decide ((wrap64 ((wrap64 (s0_1 + 1)) - 1)) < (s0_0.length : Int)) = false := decide_eq_false c8
   clear c8
   by_cases b1 : (s0_0.length : Int) = 0
   ·
    rw [if_pos b1] at H
    exact absurd H (by simp)
   rw [if_neg b1] at H
   have d3 := bv_ b1
   have d4 := bw_ b1
   have d5 : ¬ (s0_0 = []) := fun h_ => b1 (by rw [h_]; rfl)
   obtain ⟨ji14, hji14⟩ : ∃ j_ : Int, (Int.tmod (wrap64 ((wrap64 (s0_1 + 1)) - 1)) (s0_0.length : Int)) = j_ := ⟨_, rfl⟩
   replace H : (if 0 ≤ (ji14) then (if (ji14) < (s0_0.length : Int) then (if 0 ≤ (Int.tmod (wrap64 ((wrap64 ((wrap64 ((wrap64 (s0_1 + 1)) - 1)) * 7)) + 3)) (s0_0.length : Int)) then (if (Int.tmod (wrap64 ((wrap64 ((wrap64 ((wrap64 (s0_1 + 1)) - 1)) * 7)) + 3)) (s0_0.length : Int)) < (s0_0.length : Int) then (if a1 = 0 then (none) else (some (Int.tmod (Go.bits .xor .i64 (wrap64 ((wrap64 ((wrap64 ((wrap64 ((wrap64 (rd s0_0 (ji14))) * 131)) + (wrap64 ((wrap64 (rd s0_0 (Int.tmod (wrap64 ((wrap64 ((wrap64 ((wrap64 (s0_1 + 1)) - 1)) * 7)) + 3)) (s0_0.length : Int)))) * 1117)))) + (wrap64 ((wrap64 ((wrap64 (s0_1 + 1)) - 1)) * 29)))) + (wrap64 ((wrap64 (Int.tdiv (wrap64 ((wrap64 (s0_1 + 1)) - 1)) (s0_0.length : Int))) * 53)))) (wrap64 (Int.tdiv (wrap64 ((wrap64 ((wrap64 ((wrap64 ((wrap64 (rd s0_0 (ji14))) * 131)) + (wrap64 ((wrap64 (rd s0_0 (Int.tmod (wrap64 ((wrap64 ((wrap64 ((wrap64 (s0_1 + 1)) - 1)) * 7)) + 3)) (s0_0.length : Int)))) * 1117)))) + (wrap64 ((wrap64 ((wrap64 (s0_1 + 1)) - 1)) * 29)))) + (wrap64 ((wrap64 (Int.tdiv (wrap64 ((wrap64 (s0_1 + 1)) - 1)) (s0_0.length : Int))) * 53)))) 64))) a1, (wrap64 (s0_1 + 1))))) else (none)) else (none)) else (none)) else (none)) = some (r1, r2) := by first | (rw [hji14] at H; exact H) | (simp only [hji14] at H ⊢; exact H)
   by_cases b4 : 0 ≤ (ji14)
   ·
    rw [if_pos b4] at H
    have d6 : decide (0 ≤ (ji14)) = true := decide_eq_true b4
    clear b4
    by_cases b5 : (ji14) < (s0_0.length : Int)
    ·
     rw [if_pos b5] at H
     have d7 : decide ((ji14) < (s0_0.length : Int)) = true := decide_eq_true b5
     clear b5
     obtain ⟨ji17, hji17⟩ : ∃ j_ : Int, (Int.tmod (wrap64 ((wrap64 ((wrap64 ((wrap64 (s0_1 + 1)) - 1)) * 7)) + 3)) (s0_0.length : Int)) = j_ := ⟨_, rfl⟩
     replace H : (if 0 ≤ (ji17) then (if (ji17) < (s0_0.length : Int) then (if a1 = 0 then (none) else (some (Int.tmod (Go.bits .xor .i64 (wrap64 ((wrap64 ((wrap64 ((wrap64 ((wrap64 (rd s0_0 (ji14))) * 131)) + (wrap64 ((wrap64 (rd s0_0 (ji17))) * 1117)))) + (wrap64 ((wrap64 ((wrap64 (s0_1 + 1)) - 1)) * 29)))) + (wrap64 ((wrap64 (Int.tdiv (wrap64 ((wrap64 (s0_1 + 1)) - 1)) (s0_0.length : Int))) * 53)))) (wrap64 (Int.tdiv (wrap64 ((wrap64 ((wrap64 ((wrap64 ((wrap64 (rd s0_0 (ji14))) * 131)) + (wrap64 ((wrap64 (rd s0_0 (ji17))) * 1117)))) + (wrap64 ((wrap64 ((wrap64 (s0_1 + 1)) - 1)) * 29)))) + (wrap64 ((wrap64 (Int.tdiv (wrap64 ((wrap64 (s0_1 + 1)) - 1)) (s0_0.length : Int))) * 53)))) 64))) a1, (wrap64 (s0_1 + 1))))) else (none)) else (none)) = some (r1, r2) := by first | (rw [hji17] at H; exact H) | (simp only [hji17] at H ⊢; exact H)
     by_cases b6 : 0 ≤ (ji17)
     ·
      rw [if_pos b6] at H
      have d8 : decide (0 ≤ (ji17)) = true := decide_eq_true b6
      clear b6
      by_cases b7 : (ji17) < (s0_0.length : Int)
      ·
       rw [if_pos b7] at H
       have d9 : decide ((ji17) < (s0_0.length : Int)) = true := decide_eq_true b7
       clear b7
       by_cases b8 : a1 = 0
       ·
        rw [if_pos b8] at H
        exact absurd H (by simp)
       rw [if_neg b8] at H
       have e0 := bv_ b8
       have e1 := bw_ b8
       simp only [Option.some.injEq, Prod.mk.injEq] at H
       obtain ⟨rfl, rfl⟩ := H
       obtain ⟨ASz21_0, cSz21_0, HGz21, hgz21, HSz21_0⟩ := a0.out
       have a2 := cellS70_0 HGz21
       have a3 := cellS70_1 HGz21
       have a4 := blk_frozen HGz21 1
       clear HGz21 hgz21
       have a8 : 0 ≤ ((ji14) : Int) := of_decide_eq_true zb_0
       have q102 : (ji14) < (s0_0.length : Int) := of_decide_eq_true zb_0
       obtain ⟨ad102, e102, hx102_0⟩ := Kd.at_int HSz21_0 (ji14) a8 q102
       cases e102
       replace hx102_0 := pw_cell_below HB.out hx102_0
       replace a8 := eq_true a8
       replace q102 := eq_true q102
       have a9 : 0 ≤ ((ji17) : Int) := of_decide_eq_true zb_0
       have q103 : (ji17) < (s0_0.length : Int) := of_decide_eq_true zb_0
       obtain ⟨ad103, e103, hx103_0⟩ := Kd.at_int HSz21_0 (ji17) a9 q103
       obtain rfl : ad102 = ad103 := (by injection e103)
       replace hx103_0 := pw_cell_below HB.out hx103_0
       replace a9 := eq_true a9
       replace q103 := eq_true q103
       go_wp2
       repeat (go_quiet (fail); try go_wp2)
       go_ret
       exact ⟨by first | rfl | (simp [errW_none, errW_some] <;> rfl) | (simp only [← hji14, ← hji17]; first | rfl | (simp [errW_none, errW_some] <;> rfl)) | (simp [*, errW_none, errW_some] <;> rfl), by repeat (first | (with_reducible first | exact a0.out | apply IsS70.alloc | apply IsS70.drewN | apply IsS70.drew | apply IsS70.set_1) | exact a0.out), by repeat (first | (with_reducible first | exact HB.out | apply below_alloc | apply pw_below_drewN | apply below_drew1 | refine below_set ?_ (IsS70.ge a0.out)) | exact HB.out), by repeat (first | (with_reducible first | exact HK.out | apply KeepBut.set_ | apply keep_drewN | apply keep_drew | apply keep_alloc) | exact HK.out)⟩
      rw [if_neg b7] at H
      exact absurd H (by simp)
     rw [if_neg b6] at H
     exact absurd H (by simp)
    rw [if_neg b5] at H
    exact absurd H (by simp)
   rw [if_neg b4] at H
   exact absurd H (by simp)

end Go.Proofs.Ytjgfpiilfnchnaa.P

-- written by gen.py (a program of this session) out of the kit's print of this seat's translation
namespace Go.Proofs.Ytjgfpiilfnchnaa.P
open Go.RowKit Go.Proofs.YtjgfpiilfnchnaaW.PrintWords Go.Proofs.YtjgfpiilfnchnaaW.PrintLast Go.Proofs.YtjgfpiilfnchnaaW.PrintMore
attribute [local go_sem] max2_int min2_int max_two min_two max_three min_three max_four min_four
set_option linter.unusedVariables false
set_option linter.unusedSimpArgs false
set_option maxHeartbeats 8000000 in
set_option maxRecDepth 100000 in
theorem spec_l20Rd_odd.calls (k : Nat) (g : Nat) (s0_0 : List Int) (s0_1 : Int) (a1 : Int) (r1 : Bool) (r2 : Int) (w0 w : World) (hI : IsS70 w0 w g s0_0 s0_1) (hB : Below w0.heap.size w0 w) (h : spec_l20Rd_odd.f k s0_0 s0_1 a1 = some (r1, r2)) :
  Calls Try.prog 82 #[.pointer (some ⟨g, 0, none⟩), .int .i64 a1] w fun e w' => e = .returned (.bool r1) ∧ IsS70 w0 w' g s0_0 r2 ∧ Below w0.heap.size w0 w' ∧ KeepBut w w' g none := by
 have a0 := Aside0.mk hI
 have HK := Aside0.mk (KeepBut.refl w g none)
 have HL := Aside0.mk hB.size
 clear hI
 have HW0 := Aside0.mk hB.size
 have HB := Aside0.mk hB
 clear hB
 have H : (if a1 > 0 then ((spec_l20Rd_pick.f k s0_0 s0_1 a1).bind fun a2 => (some ((a2.1 == (wrap64 (a1 - 1))), a2.2))) else (some (false, s0_1))) = some (r1, r2) := h
 clear h
 by_cases c3 : a1 > 0
 ·
  rw [if_pos c3] at H
  have a3 : decide (0 < a1) = true := decide_eq_true c3
  clear c3
  obtain ⟨⟨a4, a5⟩, A4, H⟩ := bd_ H
  try dsimp only at H
  simp only [Option.some.injEq, Prod.mk.injEq] at H
  obtain ⟨rfl, rfl⟩ := H
  go_enter Try.func82, Try.ntmps82
  go_wp2_with (first | (go_at_call 76; (with_reducible refine (spec_l20Rd_pick.calls k g s0_0 s0_1 a1 a4 a5 w0 _ ?side1 ?side2 A4.out).mono ?_); (case side1 => repeat (first | (with_reducible first | exact a0.out | apply IsS70.alloc | apply IsS70.drewN | apply IsS70.drew | apply IsS70.set_1) | exact a0.out)); (case side2 => repeat (first | (with_reducible first | exact HB.out | apply below_alloc | apply pw_below_drewN | apply below_drew1 | refine below_set ?_ (IsS70.ge a0.out)) | exact HB.out)); rintro e w' ⟨rfl, hi, hb, hk⟩; replace HK := Aside0.mk (KeepBut.trans (by repeat (first | (with_reducible first | exact HK.out | apply KeepBut.set_ | apply keep_drewN | apply keep_drew | apply keep_alloc) | exact HK.out)) hk (.inl rfl)); replace HB := Aside0.mk (hb); replace a0 := Aside0.mk (hi); (try clear hb); (try clear hb2); (try clear hk); (try clear hi)))
  go_ret
  exact ⟨by first | rfl | (simp [errW_none, errW_some] <;> rfl) | (simp [*, errW_none, errW_some] <;> rfl), by repeat (first | (with_reducible first | exact a0.out | apply IsS70.alloc | apply IsS70.drewN | apply IsS70.drew | apply IsS70.set_1) | exact a0.out), by repeat (first | (with_reducible first | exact HB.out | apply below_alloc | apply pw_below_drewN | apply below_drew1 | refine below_set ?_ (IsS70.ge a0.out)) | exact HB.out), by repeat (first | (with_reducible first | exact HK.out | apply KeepBut.set_ | apply keep_drewN | apply keep_drew | apply keep_alloc) | exact HK.out)⟩
 rw [if_neg c3] at H
 have a3 : decide (0 < a1) = false := decide_eq_false c3
 clear c3
 simp only [Option.some.injEq, Prod.mk.injEq] at H
 obtain ⟨rfl, rfl⟩ := H
 go_enter Try.func82, Try.ntmps82
 go_wp2
 go_ret
 exact ⟨by first | rfl | (simp [errW_none, errW_some] <;> rfl) | (simp [*, errW_none, errW_some] <;> rfl), by repeat (first | (with_reducible first | exact a0.out | apply IsS70.alloc | apply IsS70.drewN | apply IsS70.drew | apply IsS70.set_1) | exact a0.out), by repeat (first | (with_reducible first | exact HB.out | apply below_alloc | apply pw_below_drewN | apply below_drew1 | refine below_set ?_ (IsS70.ge a0.out)) | exact HB.out), by repeat (first | (with_reducible first | exact HK.out | apply KeepBut.set_ | apply keep_drewN | apply keep_drew | apply keep_alloc) | exact HK.out)⟩

end Go.Proofs.Ytjgfpiilfnchnaa.P
