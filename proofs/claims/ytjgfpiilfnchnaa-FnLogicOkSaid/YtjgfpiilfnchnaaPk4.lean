/- 7 texts of this seat joined: walks, and the laws of what they compute. -/
import Derived.Test.YtjgfpiilfnchnaaPk2
import Derived.Test.YtjgfpiilfnchnaaPk3
-- written by gen.py (a program of this session) out of the kit's print of this seat's translation
namespace Go.Proofs.Ytjgfpiilfnchnaa.P
open Go.RowKit Go.Proofs.YtjgfpiilfnchnaaW.PrintWords Go.Proofs.YtjgfpiilfnchnaaW.PrintLast Go.Proofs.YtjgfpiilfnchnaaW.PrintMore
attribute [local go_sem] max2_int min2_int max_two min_two max_three min_three max_four min_four
set_option linter.unusedVariables false
set_option linter.unusedSimpArgs false
def spec_l20Rename.T14 : Bool × List (List Nat × List Nat) := (true, [([], []), ([], []), ([1], [1]), ([], []), ([], []), ([3, 4], [3, 4]), ([5], [5]), ([2, 6], [2, 6]), ([7], [7]), ([], []), ([], []), ([9, 10], [9, 10]), ([11], [11]), ([8, 12], [8, 12]), ([13], [13]), ([14], [14]), ([0, 15], [0, 15]), ([16, 16, 0, 1, 2, 3, 4, 5, 6, 7, 8, 9, 10, 11, 12, 13, 14, 15, 16], [0, 16])])
def spec_l20Rename.B14 : List Nat := [0, 0, 2, 0, 0, 24, 56, 126, 254, 0, 0, 1536, 3584, 8190, 16382, 32766, 65535, 131071]
theorem spec_l20Rename.tab14 : rtab .any (opsOf Try.f81 14) = spec_l20Rename.T14 := by kernel_rfl
theorem spec_l20Rename.bits14 : waitsOk spec_l20Rename.T14.2 spec_l20Rename.B14 = true := by kernel_rfl
def spec_l20Rename.T16 : Bool × List (List Nat × List Nat) := (true, [([], []), ([0], [0]), ([], []), ([], []), ([3], [3]), ([], []), ([], []), ([5, 6], [5, 6]), ([7], [7]), ([4, 8], [4, 8]), ([9], [9]), ([2, 10], [2, 10]), ([11], [11]), ([12], [12]), ([1, 13], [1, 13]), ([0, 1, 2, 3, 4, 5, 6, 7, 8, 9, 10, 11, 12, 13, 14], []), ([15, 14, 14, 0, 1, 2, 3, 4, 5, 6, 7, 8, 9, 10, 11, 12, 13, 14], [14, 15])])
def spec_l20Rename.B16 : List Nat := [0, 1, 0, 0, 8, 0, 0, 96, 224, 504, 1016, 2044, 4092, 8188, 16383, 32767, 65535]
theorem spec_l20Rename.tab16 : rtab .any (opsOf Try.f81 16) = spec_l20Rename.T16 := by kernel_rfl
theorem spec_l20Rename.bits16 : waitsOk spec_l20Rename.T16.2 spec_l20Rename.B16 = true := by kernel_rfl
theorem zc_16 {p : Prop} (h : p := by decide) : p := h
theorem zc_15 {p : Prop} (h : p := by (with_reducible repeat (first | apply Kd.R_alloc | apply Kd.R_drewN | apply Kd.R_drew)); exact Kd.R_mono b2.out (fun _ hk => ⟨hk.2, hk.1⟩)) : p := h
theorem zc_14 {p : Prop} (h : p := by (with_reducible repeat (first | apply Kd.S_alloc | apply Kd.S_drewN | apply Kd.S_drew)); exact Kd.S_mono a3.out (fun _ hk => ⟨hk.1.1, ⟨hk.2, hk.1.2⟩⟩)) : p := h
theorem zc_13 {p : Prop} (h : p := by (with_reducible repeat (first | apply Kd.S_alloc | apply Kd.S_drewN | apply Kd.S_drew)); exact a3.out) : p := h
theorem zc_12 {p : Prop} (h : p := by first | rfl | (simp; done) | (simp [*]; done)) : p := h
theorem zc_11 {p : Prop} (h : p := by (with_reducible repeat (first | refine blk_drewN ?_ _ | refine blk_drew ?_ | refine blk_alloc ?_ _)); refine blk_far ?_ b4.out _; (with_reducible repeat (first | refine blk_drewN ?_ _ | refine blk_drew ?_ | refine blk_alloc ?_ _)); exact a5.out) : p := h
theorem zc_10 {p : Prop} (h : p := by (with_reducible repeat (first | refine blk_drewN ?_ _ | refine blk_drew ?_ | refine blk_alloc ?_ _)); refine blk_far ?_ b5.out _; (with_reducible repeat (first | refine blk_drewN ?_ _ | refine blk_drew ?_ | refine blk_alloc ?_ _)); exact a7.out) : p := h
theorem zc_9 {p : Prop} (h : p := by repeat (first | (with_reducible first | exact HB.out | apply below_alloc | apply pw_below_drewN | apply below_drew1) | exact HB.out)) : p := h
theorem zc_8 {p : Prop} (h : p := by repeat (first | (with_reducible first | exact HB.out | apply below_alloc | apply pw_below_drewN | apply below_drew1 | refine below_set ?_ d9.out) | exact HB.out)) : p := h
theorem zc_7 {p : Prop} (h : p := by (with_reducible repeat (first | refine blk_drewN ?_ _ | refine blk_drew ?_ | refine blk_alloc ?_ _)); exact a0.out) : p := h
theorem zc_6 {p : Prop} (h : p := by (with_reducible repeat (first | apply Kd.R_alloc | apply Kd.R_drewN | apply Kd.R_drew)); exact b2.out) : p := h
theorem zc_5 {p : Prop} (h : p := by (with_reducible repeat (first | apply Kd.R_alloc | apply Kd.R_drewN | apply Kd.R_drew)); exact a2.out) : p := h
theorem zc_4 {p : Prop} (h : p := by repeat (first | (with_reducible first | exact HB.out | apply below_alloc | apply pw_below_drewN | apply below_drew1 | refine below_set ?_ d9.out | refine below_set ?_ e2.out) | exact HB.out)) : p := h
theorem zc_3 {p : Prop} (h : p := by first | (with_reducible assumption) | assumption) : p := h
theorem zc_2 {p : Prop} (h : p := by (with_reducible repeat (first | refine blk_drewN ?_ _ | refine blk_drew ?_ | refine blk_alloc ?_ _)); exact a7.out) : p := h
theorem zc_1 {p : Prop} (h : p := by (with_reducible repeat (first | refine blk_drewN ?_ _ | refine blk_drew ?_ | refine blk_alloc ?_ _)); exact a5.out) : p := h
theorem zc_0 {p : Prop} (h : p := by repeat (first | (with_reducible first | exact HB.out | apply below_alloc | apply pw_below_drewN | apply below_drew1 | refine below_set ?_ d9.out | refine below_set ?_ e2.out | refine below_set ?_ e8.out) | exact HB.out)) : p := h
set_option maxHeartbeats 8000000 in
set_option maxRecDepth 100000 in
theorem spec_l20Rename.calls (k : Nat) (A0_0 : Option Addr) (c0_0 : Nat) (l0_0 : List (List Int)) (A0_1 : Option Addr) (c0_1 : Nat) (l0_1 : List Int) (A1 : Option Addr) (c1 : Nat) (l1 : List Int) (r1 : List (List Int)) (r2 : List Int) (w : World) (hr0_0 : Kd.C (Kd.slice 3 (Kd.int .i64)) w A0_0 l0_0.length l0_0) (hc0_0 : l0_0.length ≤ c0_0) (hr0_1 : Kd.C (Kd.int .i64) w A0_1 l0_1.length l0_1) (hc0_1 : l0_1.length ≤ c0_1) (hr1 : Kd.C (Kd.int .i64) w A1 l1.length l1) (hc1 : l1.length ≤ c1) (h : spec_l20Rename.f k l0_0 l0_1 l1 = some (r1, r2)) :
  Calls Try.prog 81 #[.agg #[.slice A0_0 l0_0.length c0_0, .slice A0_1 l0_1.length c0_1], .slice A1 l1.length c1] w fun e w' => ∃ v0_ v1_ : Value, e = .returned (.agg #[v0_, v1_]) ∧ Kd.S (Kd.slice 3 (Kd.int .i64)) 24 w' w.heap.size (fun k_ => some k_ ≠ (v1_ : Value).ownBlock) v0_ r1 ∧ Kd.R (Kd.int .i64) 3 w' w.heap.size (fun _ => True) v1_ r2 ∧ Below w.heap.size w w' := by
 have hu26 := Try.underlying26
 have HR0_0 := Aside0.mk hr0_0
 have l7 := Aside0.mk hc0_0
 clear hr0_0 hc0_0
 have HR0_1 := Aside0.mk hr0_1
 have l8 := Aside0.mk hc0_1
 clear hr0_1 hc0_1
 have HR1 := Aside0.mk hr1
 have s0 := Aside0.mk hc1
 clear hr1 hc1
 have HB := Aside0.mk (Below.refl w.heap.size w)
 have H : (if 0 ≤ (l1.length : Int) then (if ((l1.length : Int) : Int).toNat ≤ 35184372088832 then (spec_l20Rename.l0 k l1 (List.replicate ((l1.length : Int) : Int).toNat 0) 0 l0_0 l0_1) else (none)) else (none)) = some (r1, r2) := h
 clear h
 by_cases c3 : 0 ≤ (l1.length : Int)
 ·
  rw [if_pos c3] at H
  have f5 := eq_true c3
  have f6 : decide (0 ≤ (l1.length : Int)) = true := decide_eq_true c3
  clear c3
  by_cases c4 : ((l1.length : Int) : Int).toNat ≤ 35184372088832
  ·
   rw [if_pos c4] at H
   have f7 := eq_true c4
   have f8 : decide (((l1.length : Int) : Int).toNat ≤ 35184372088832) = true := decide_eq_true c4
   clear c4
   obtain ⟨y212, hy212⟩ : ∃ y_ : List Int, y_ = (List.replicate ((l1.length : Int) : Int).toNat 0) := ⟨_, rfl⟩
   replace H : (spec_l20Rename.l0 k l1 y212 0 l0_0 l0_1) = some (r1, r2) := by first | (rw [hy212]; with_reducible exact H) | (have H2_ := (Option.bind_some _ _).symm.trans H; rw [hy212]; with_reducible exact H2_) | (have H2_ := (Option.bind_some _ _).symm.trans H; with_reducible exact H2_) | with_reducible exact H | (rw [hy212]; exact H) | exact H
   have Ny212 := Aside0.mk hy212
   clear hy212
   have H' := Aside0.mk H
   clear H
   go_enter Try.func81, Try.ntmps81
   go_wp2_with (first | ((with_reducible refine gate_dst (N := 2) rfl ?_); refine bx_ (N := 2) (cs := #[.slice A0_0 l0_0.length c0_0, .slice A0_1 l0_1.length c0_1]) (t := 26) ?_; intro b0 hg w5 hbox hb; have a5 := Aside0.mk (hbox); have l9 := Aside0.mk ((by rw [hg]; exact (below_size zc_9) : w.heap.size ≤ b0)); have d9 := Aside0.mk ((by rw [hg]; exact (below_size zc_9) : w.heap.size ≤ b0)); replace HB := Aside0.mk (below_step zc_9 hb); clear hb hbox hg) | ((with_reducible refine gate_dst (N := 4) rfl ?_); refine bx_ (N := 4) (cs := #[.slice none 0 0, .slice none 0 0]) (t := 26) ?_; intro b1 hg w6 hbox hb; have a7 := Aside0.mk (hbox); have m0 := Aside0.mk ((by rw [hg]; exact (below_size zc_8) : w.heap.size ≤ b1)); have e2 := Aside0.mk ((by rw [hg]; exact (below_size zc_8) : w.heap.size ≤ b1)); replace HB := Aside0.mk (below_step zc_8 hb); have e0 := Aside0.mk ((by rw [hg]; exact Nat.ne_of_lt (blk_lt (g := b0) (o := .cells #[.slice A0_0 l0_0.length c0_0, .slice A0_1 l0_1.length c0_1] 26 (0, 0)) zc_1) : b0 ≠ b1)); have e1 := Aside0.mk ((by rw [hg]; exact Nat.ne_of_gt (blk_lt (g := b0) (o := .cells #[.slice A0_0 l0_0.length c0_0, .slice A0_1 l0_1.length c0_1] 26 (0, 0)) zc_1) : b1 ≠ b0)); replace a5 := Aside0.mk (blk_below (g := b0) (o := .cells #[.slice A0_0 l0_0.length c0_0, .slice A0_1 l0_1.length c0_1] 26 (0, 0)) zc_1 hb); clear hb hbox hg) | ((with_reducible refine gate_dst (N := 13) rfl ?_); refine Kd.R_make (Kd.int .i64) _ 3 rfl (N := 13) rfl 24 _ _ rfl (l1.length : Int) rfl rfl Try.underlying24 (.int .i64 0) 8 info3 rfl zc_16 (by omega) 0 (ok := fun _ => True) (okp := fun _ => True) rfl (fun _ hk => hk) trivial (of_decide_eq_true zc_3) (Nat.le_trans (Nat.mul_le_mul_right _ (of_decide_eq_true zc_3 : (l1.length : Int).toNat ≤ 35184372088832)) (by omega)) (Below.refl _ _) (Nat.le_refl _) ?_; intro b7 w7 ho8 hb hg_ hnew_; clear hg_ hnew_; (first | rw [← Ny212.out] at ho8 | (simp only [Int.reduceToNat] at ho8; rw [← Ny212.out] at ho8)); have h5 := Aside0.mk (Kd.R_lower ho8 (below_size zc_4)); replace a5 := Aside0.mk (blk_below (g := b0) (o := .cells #[.slice A0_0 l0_0.length c0_0, .slice A0_1 l0_1.length c0_1] 26 (0, 0)) zc_1 hb); replace a7 := Aside0.mk (blk_below (g := b1) (o := .cells #[.slice none 0 0, .slice none 0 0] 26 (0, 0)) zc_2 hb); replace HB := Aside0.mk (below_step zc_4 hb); clear hb ho8))
   go_loopg [6] k (fun kq v6 w' => ∃ (b3 : List Int) (b6 : Int), v6 = .int .i64 b6 ∧ Aside0 (spec_l20Rename.l0 kq l1 b3 b6 l0_0 l0_1 = some (r1, r2)) ∧ Aside0 (kq ≤ k) ∧ Aside0 (Kd.R (Kd.int .i64) 3 w' w.heap.size (fun _ => True) b7 b3) ∧ Aside0 (w'.heap[b0]? = some (.cells #[(.slice A0_0 l0_0.length c0_0), (.slice A0_1 l0_1.length c0_1)] 26 (0, 0))) ∧ Aside0 (w'.heap[b1]? = some (.cells #[(.slice none 0 0), (.slice none 0 0)] 26 (0, 0))) ∧ Aside0 (Below w.heap.size w w'))
   case atStart => exact ⟨(y212), (0), zc_12, H', ⟨Nat.le_refl _⟩, ⟨by (with_reducible repeat (first | apply Kd.R_alloc | apply Kd.R_drewN | apply Kd.R_drew)); exact h5.out⟩, ⟨zc_1⟩, ⟨zc_2⟩, ⟨zc_4⟩⟩
   case round =>
    clear H'
    try clear c1
    try clear p2
    try clear c3
    try clear f5
    try clear f6
    try clear c4
    try clear f7
    try clear f8
    try clear c8
    obtain ⟨b3, b6, rfl, HA, HK1, b2, a5, a7, HB⟩ := hrel
    cases gk with
    | zero => exact absurd HA.out (by simp [spec_l20Rename.l0])
    | succ k1 =>
     have H := HA.out
     clear HA
     simp only [spec_l20Rename.l0] at H
     by_cases c9 : b6 < (l1.length : Int)
     ·
      rw [if_pos c9] at H
      have f9 : decide (b6 < (l1.length : Int)) = true := decide_eq_true c9
      clear c9
      by_cases h1 : 0 ≤ b6
      ·
       rw [if_pos h1] at H
       have e9 : decide (0 ≤ b6) = true := decide_eq_true h1
       clear h1
       by_cases h2 : 0 ≤ (rd l1 b6)
       ·
        rw [if_pos h2] at H
        have f0 : decide (0 ≤ (rd l1 b6)) = true := decide_eq_true h2
        clear h2
        by_cases h3 : (rd l1 b6) < (b3.length : Int)
        ·
         rw [if_pos h3] at H
         have f1 : decide ((rd l1 b6) < (b3.length : Int)) = true := decide_eq_true h3
         clear h3
         obtain ⟨y216, hy216⟩ : ∃ y_ : List Int, y_ = (b3.set ((rd l1 b6) : Int).toNat b6) := ⟨_, rfl⟩
         replace H : (spec_l20Rename.l0 k1 l1 y216 (wrap64 (b6 + 1)) l0_0 l0_1) = some (r1, r2) := by first | (rw [hy216]; with_reducible exact H) | (have H2_ := (Option.bind_some _ _).symm.trans H; rw [hy216]; with_reducible exact H2_) | (have H2_ := (Option.bind_some _ _).symm.trans H; with_reducible exact H2_) | with_reducible exact H | (rw [hy216]; exact H) | exact H
         have Ny216 := Aside0.mk hy216
         clear hy216
         have H' := Aside0.mk H
         clear H
         have e3 : 0 ≤ (b6 : Int) := of_decide_eq_true zc_3
         have q215 : b6 < (l1.length : Int) := of_decide_eq_true zc_3
         obtain ⟨ad215, e215, hx215_0⟩ := Kd.at_int HR1.out b6 e3 q215
         cases e215
         replace hx215_0 := (HB.out.cell (World.block_lt_of_cell? w _ hx215_0)).trans hx215_0
         replace e3 := eq_true e3
         replace q215 := eq_true q215
         have h6 : 0 ≤ ((rd l1 b6) : Int) := of_decide_eq_true zc_3
         have q13 : ((rd l1 b6) : Int) < ((b3.length : Int) : Int) := of_decide_eq_true zc_3
         obtain ⟨go13, k7, h7, h8, gl13, cl13, HG13⟩ := Kd.R_form b2.out (by omega)
         (first | cases h7 | (injection h7 with ea_ en_ ec_; (first | subst ea_ | (injection ea_ with ea_; subst ea_)); subst ec_; clear en_))
         have GB13 := Aside0.mk h8
         have GG13 := Aside0.mk HG13
         clear h8 gl13 HG13
         obtain ⟨hx13_0, hf13_0⟩ := Kd.R_celln 0 b2.out ((rd l1 b6) : Int) h6 q13
         replace h6 := eq_true h6
         replace q13 := eq_true q13
         have HP14 := Kd.R_putg b2.out ((rd l1 b6) : Int) b6
         go_wp2_with (first | ((with_reducible refine gate_store (t := 3) (p := 26) rfl ?_); refine store_event (t := 3) (p := 26) (v := ?vo_w15) (w1 := (wr.setCell ⟨go13, ((rd l1 b6) : Int).toNat, none⟩ (.int .i64 b6))) ?hg ?ho ?hn ?hr ?_; (case ho => rfl); (case hg => rfl); (case hn => rfl); (case hr => first | (go_simp; done) | (go_simp; rfl)); intro k8 hw; have hg : wr.grownBy k8 (some go13) := (by rw [hw]; exact HP14.2); have hp_ : Kd.R (Kd.int .i64) 3 k8 w.heap.size (fun _ => True) (.slice (some ⟨go13, 0, none⟩) b3.length k7) y216 := (by rw [hw, Ny216.out]; exact HP14.1); clear HP14; replace a5 := Aside0.mk (blk_grown (g := b0) (o := .cells #[.slice A0_0 l0_0.length c0_0, .slice A0_1 l0_1.length c0_1] 26 (0, 0)) zc_1 hg (Kd.R_ne b2.out a5.out zc_16)); replace a7 := Aside0.mk (blk_grown (g := b1) (o := .cells #[.slice none 0 0, .slice none 0 0] 26 (0, 0)) zc_2 hg (Kd.R_ne b2.out a7.out zc_16)); replace b2 := Aside0.mk (hp_); replace HB := Aside0.mk ((by rw [hw]; exact below_set (HB.out) GB13.out : Below w.heap.size w k8)); clear hg hw hp_))
         go_roundg k1
         case measure => have := HK1.out; omega
         case rel => exact ⟨(y216), (wrap64 (b6 + 1)), zc_12, H', ⟨by have := HK1.out; omega⟩, ⟨zc_6⟩, ⟨zc_1⟩, ⟨zc_2⟩, ⟨zc_4⟩⟩
        rw [if_neg h3] at H
        exact absurd H (by simp)
       rw [if_neg h2] at H
       exact absurd H (by simp)
      rw [if_neg h1] at H
      exact absurd H (by simp)
     rw [if_neg c9] at H
     have f9 : decide (b6 < (l1.length : Int)) = false := decide_eq_false c9
     clear c9
     have H' := Aside0.mk H
     clear H
     go_wp2_with (first | ((with_reducible refine gate_dst (N := 7) rfl ?_); refine bx_ (N := 7) (cs := #[.slice none 0 0, .slice none 0 0]) (t := 26) ?_; intro a8 hg s1 hbox hb; replace b2 := Aside0.mk (Kd.R_below zc_6 hb); have a0 := Aside0.mk (hbox); have m1 := Aside0.mk ((by rw [hg]; exact (below_size zc_4) : w.heap.size ≤ a8)); have e8 := Aside0.mk ((by rw [hg]; exact (below_size zc_4) : w.heap.size ≤ a8)); replace HB := Aside0.mk (below_step zc_4 hb); have b4 := Aside0.mk ((by rw [hg]; exact Nat.ne_of_lt (blk_lt (g := b0) (o := .cells #[.slice A0_0 l0_0.length c0_0, .slice A0_1 l0_1.length c0_1] 26 (0, 0)) zc_1) : b0 ≠ a8)); have d0 := Aside0.mk ((by rw [hg]; exact Nat.ne_of_gt (blk_lt (g := b0) (o := .cells #[.slice A0_0 l0_0.length c0_0, .slice A0_1 l0_1.length c0_1] 26 (0, 0)) zc_1) : a8 ≠ b0)); replace a5 := Aside0.mk (blk_below (g := b0) (o := .cells #[.slice A0_0 l0_0.length c0_0, .slice A0_1 l0_1.length c0_1] 26 (0, 0)) zc_1 hb); have b5 := Aside0.mk ((by rw [hg]; exact Nat.ne_of_lt (blk_lt (g := b1) (o := .cells #[.slice none 0 0, .slice none 0 0] 26 (0, 0)) zc_2) : b1 ≠ a8)); have d1 := Aside0.mk ((by rw [hg]; exact Nat.ne_of_gt (blk_lt (g := b1) (o := .cells #[.slice none 0 0, .slice none 0 0] 26 (0, 0)) zc_2) : a8 ≠ b1)); replace a7 := Aside0.mk (blk_below (g := b1) (o := .cells #[.slice none 0 0, .slice none 0 0] 26 (0, 0)) zc_2 hb); clear hb hbox hg; have m2 := d0.out; have m3 := b4.out; have m4 := d1.out; have m5 := b5.out; have d5 := cz20 a0.out; have d6 := cz21 a0.out; have d7 := blk_frozen a0.out 0; have d8 := blk_frozen a0.out 1))
     go_loopg [8] k1 (fun kq v8 w' => ∃ (a1 : Int) (a6 : List (List Int)) (a4 : List Int) (u218000 : Value) (u218001 : Value), v8 = .int .i64 a1 ∧ Aside0 (spec_l20Rename.l1 kq l1 b3 a1 l0_0 l0_1 a6 a4 = some (r1, r2)) ∧ Aside0 (kq ≤ k1) ∧ Aside0 (Kd.R (Kd.int .i64) 3 w' w.heap.size (fun k_ => some k_ ≠ (u218001 : Value).ownBlock) b7 b3) ∧ Aside0 (Kd.S (Kd.slice 3 (Kd.int .i64)) 24 w' w.heap.size (fun k_ => some k_ ≠ (b7 : Value).ownBlock ∧ some k_ ≠ (u218001 : Value).ownBlock) u218000 a6) ∧ Aside0 (Kd.R (Kd.int .i64) 3 w' w.heap.size (fun k_ => some k_ ≠ (b7 : Value).ownBlock) u218001 a4) ∧ Aside0 (w'.heap[b0]? = some (.cells #[(.slice A0_0 l0_0.length c0_0), (.slice A0_1 l0_1.length c0_1)] 26 (0, 0))) ∧ Aside0 (w'.heap[b1]? = some (.cells #[(.slice none 0 0), (.slice none 0 0)] 26 (0, 0))) ∧ Aside0 (w'.heap[a8]? = some (.cells #[u218000, u218001] 26 (0, 0))) ∧ Aside0 (Below w.heap.size w w'))
     case atStart => exact ⟨(0), (([] : List (List Int))), (([] : List Int)), (.slice none 0 0), (.slice none 0 0), zc_12, H', ⟨Nat.le_refl _⟩, ⟨by (with_reducible repeat (first | apply Kd.R_alloc | apply Kd.R_drewN | apply Kd.R_drew)); exact Kd.R_mono (Kd.R_far (p := ⟨a8, 1, none⟩) (Kd.R_far (p := ⟨a8, 0, none⟩) (Kd.R_types b2.out a0.out zc_16) (fun _ hk => hk.2) (.slice none 0 0)) (fun _ hk => hk.2) (.slice none 0 0)) (fun _ hk => (by simp [Value.ownBlock]))⟩, ⟨by first | exact Kd.S_nil _ _ _ _ _ | exact Kd.N_nil _ _ _ _ _ | exact Kd.V_nil _ _ _ _ _ | exact Kd.Q_nil _ _ _ _ _ | exact Kd.R_nil _ _ _ _ _⟩, ⟨by first | exact Kd.R_nil _ _ _ _ _ | exact Kd.N_nil _ _ _ _ _ | exact Kd.V_nil _ _ _ _ _ | exact Kd.Q_nil _ _ _ _ _ | exact Kd.S_nil _ _ _ _ _⟩, ⟨by (with_reducible repeat (first | refine blk_drewN ?_ _ | refine blk_drew ?_ | refine blk_alloc ?_ _)); refine blk_far ?_ b4.out _; (with_reducible repeat (first | refine blk_drewN ?_ _ | refine blk_drew ?_ | refine blk_alloc ?_ _)); refine blk_far ?_ b4.out _; (with_reducible repeat (first | refine blk_drewN ?_ _ | refine blk_drew ?_ | refine blk_alloc ?_ _)); exact a5.out⟩, ⟨by (with_reducible repeat (first | refine blk_drewN ?_ _ | refine blk_drew ?_ | refine blk_alloc ?_ _)); refine blk_far ?_ b5.out _; (with_reducible repeat (first | refine blk_drewN ?_ _ | refine blk_drew ?_ | refine blk_alloc ?_ _)); refine blk_far ?_ b5.out _; (with_reducible repeat (first | refine blk_drewN ?_ _ | refine blk_drew ?_ | refine blk_alloc ?_ _)); exact a7.out⟩, ⟨by (with_reducible repeat (first | refine blk_drewN ?_ _ | refine blk_drew ?_ | refine blk_alloc ?_ _)); refine blk_put (cs := #[.slice none 0 0, .slice none 0 0]) ?_ 1 _ rfl; (with_reducible repeat (first | refine blk_drewN ?_ _ | refine blk_drew ?_ | refine blk_alloc ?_ _)); refine blk_put (cs := #[.slice none 0 0, .slice none 0 0]) ?_ 0 _ rfl; (with_reducible repeat (first | refine blk_drewN ?_ _ | refine blk_drew ?_ | refine blk_alloc ?_ _)); exact a0.out⟩, ⟨zc_0⟩⟩
     case round =>
      clear H'
      try clear c1
      try clear p1
      try clear q1
      try clear hx1
      try clear p2
      try clear q2
      try clear hx2
      try clear c3
      try clear f5
      try clear f6
      try clear c4
      try clear f7
      try clear f8
      try clear p6
      try clear c8
      try clear c9
      try clear f9
      try clear h1
      try clear e9
      try clear h2
      try clear f0
      try clear h3
      try clear f1
      try clear h6
      try clear q13
      try clear hx13
      try clear hf13
      try clear o9
      try clear q0
      try clear d5
      try clear d6
      try clear d7
      try clear d8
      try clear hx13_0
      try clear hx215_0
      try clear e3
      try clear q215
      obtain ⟨a1, a6, a4, u218000, u218001, rfl, HA, HK2, b2, a3, a2, a5, a7, a0, HB⟩ := hrel
      cases gk with
      | zero => exact absurd HA.out (by simp [spec_l20Rename.l1])
      | succ k2 =>
       have H := HA.out
       clear HA
       simp only [spec_l20Rename.l1] at H
       by_cases g0 : a1 < (l1.length : Int)
       ·
        rw [if_pos g0] at H
        have f2 : decide (a1 < (l1.length : Int)) = true := decide_eq_true g0
        clear g0
        obtain ⟨y218, hy218⟩ : ∃ y_ : List Int, y_ = (([] : List Int)) := ⟨_, rfl⟩
        replace H : (spec_l20Rename.l2 k2 l1 b3 a1 y218 0 l0_0 l0_1 a6 a4) = some (r1, r2) := by first | (rw [hy218]; with_reducible exact H) | (have H2_ := (Option.bind_some _ _).symm.trans H; rw [hy218]; with_reducible exact H2_) | (have H2_ := (Option.bind_some _ _).symm.trans H; with_reducible exact H2_) | with_reducible exact H | (rw [hy218]; exact H) | exact H
        have Ny218 := Aside0.mk hy218
        clear hy218
        have H' := Aside0.mk H
        clear H
        go_wp2_with (first | ((with_reducible refine gate_dst (N := 34) rfl ?_); refine Kd.R_lit (Kd.int .i64) _ 3 ?hg (N := 34) ?hd (xs := ([] : List Int)) (inner := []) (ok := fun _ => True) (okp := fun _ => True) ?hr ?hp (fun _ hk => hk) trivial (Below.refl _ _) (Nat.le_refl _) (by simp) ?_; (case hd => rfl); (case hg => rfl); (case hr => first | (go_simp; done) | (go_simp; rfl)); (case hp => exact (Reps.none _ _)); intro q3 s2 ho22 hb hg_ hnew_; clear hg_ hnew_; (first | rw [← Ny218.out] at ho22 | (simp only [Int.reduceToNat] at ho22; rw [← Ny218.out] at ho22)); replace a3 := Aside0.mk (Kd.S_elder' zc_13 (Kd.R_base ho22) hb); have h9 := Aside0.mk (Kd.R_lower (Kd.R_new' (Kd.R_new' ho22 (Kd.R_lt zc_6)) (Kd.R_lt zc_5)) (below_size zc_0)); replace b2 := Aside0.mk (Kd.R_elder' zc_6 (Kd.R_base ho22) hb); replace a2 := Aside0.mk (Kd.R_elder' zc_5 (Kd.R_base ho22) hb); replace a5 := Aside0.mk (blk_below (g := b0) (o := .cells #[.slice A0_0 l0_0.length c0_0, .slice A0_1 l0_1.length c0_1] 26 (0, 0)) zc_1 hb); replace a7 := Aside0.mk (blk_below (g := b1) (o := .cells #[.slice none 0 0, .slice none 0 0] 26 (0, 0)) zc_2 hb); replace a0 := Aside0.mk (blk_below (g := a8) (o := .cells #[u218000, u218001] 26 (0, 0)) zc_7 hb); replace HB := Aside0.mk (below_step zc_0 hb); clear hb ho22))
        go_loopg [9, 10] k2 (fun kq v9 q4 w' => ∃ (d4 : List Int) (a9 : Int), q4 = .int .i64 a9 ∧ Aside0 (spec_l20Rename.l2 kq l1 b3 a1 d4 a9 l0_0 l0_1 a6 a4 = some (r1, r2)) ∧ Aside0 (kq ≤ k2) ∧ Aside0 (Kd.R (Kd.int .i64) 3 w' w.heap.size (fun k_ => some k_ ≠ (v9 : Value).ownBlock ∧ some k_ ≠ (u218001 : Value).ownBlock) b7 b3) ∧ Aside0 (Kd.R (Kd.int .i64) 3 w' w.heap.size (fun k_ => some k_ ≠ (b7 : Value).ownBlock ∧ some k_ ≠ (u218001 : Value).ownBlock) v9 d4) ∧ Aside0 (Kd.S (Kd.slice 3 (Kd.int .i64)) 24 w' w.heap.size (fun k_ => some k_ ≠ (b7 : Value).ownBlock ∧ some k_ ≠ (v9 : Value).ownBlock ∧ some k_ ≠ (u218001 : Value).ownBlock) u218000 a6) ∧ Aside0 (Kd.R (Kd.int .i64) 3 w' w.heap.size (fun k_ => some k_ ≠ (b7 : Value).ownBlock ∧ some k_ ≠ (v9 : Value).ownBlock) u218001 a4) ∧ Aside0 (w'.heap[b0]? = some (.cells #[(.slice A0_0 l0_0.length c0_0), (.slice A0_1 l0_1.length c0_1)] 26 (0, 0))) ∧ Aside0 (w'.heap[b1]? = some (.cells #[(.slice none 0 0), (.slice none 0 0)] 26 (0, 0))) ∧ Aside0 (w'.heap[a8]? = some (.cells #[u218000, u218001] 26 (0, 0))) ∧ Aside0 (Below w.heap.size w w'))
        case atStart => exact ⟨(y218), (0), zc_12, H', ⟨Nat.le_refl _⟩, ⟨zc_15⟩, ⟨by (with_reducible repeat (first | apply Kd.R_alloc | apply Kd.R_drewN | apply Kd.R_drew)); exact Kd.R_mono h9.out (fun _ hk => ⟨hk.1.2, hk.2⟩)⟩, ⟨zc_14⟩, ⟨zc_5⟩, ⟨zc_1⟩, ⟨zc_2⟩, ⟨zc_7⟩, ⟨zc_0⟩⟩
        case round =>
         clear H'
         try clear c1
         try clear p1
         try clear q1
         try clear hx1
         try clear c2
         try clear p2
         try clear q2
         try clear hx2
         try clear c3
         try clear f5
         try clear f6
         try clear c4
         try clear f7
         try clear f8
         try clear p6
         try clear c8
         try clear c9
         try clear f9
         try clear h1
         try clear e9
         try clear h2
         try clear f0
         try clear h3
         try clear f1
         try clear h6
         try clear q13
         try clear hx13
         try clear hf13
         try clear o9
         try clear q0
         try clear g0
         try clear f2
         try clear s3
         try clear q21
         try clear hx21
         try clear d5
         try clear d6
         try clear d7
         try clear d8
         try clear hx13_0
         try clear hx215_0
         try clear e3
         try clear q215
         obtain ⟨d4, a9, rfl, HA, HK3, b2, d3, a3, a2, a5, a7, a0, HB⟩ := hrel
         cases gk with
         | zero => exact absurd HA.out (by simp [spec_l20Rename.l2])
         | succ k3 =>
          have H := HA.out
          clear HA
          simp only [spec_l20Rename.l2] at H
          by_cases h4 : a9 < (l1.length : Int)
          ·
           rw [if_pos h4] at H
           have i0 : decide (a9 < (l1.length : Int)) = true := decide_eq_true h4
           clear h4
           by_cases i7 : 0 ≤ a1
           ·
            rw [if_pos i7] at H
            have m6 : decide (0 ≤ a1) = true := decide_eq_true i7
            clear i7
            by_cases i8 : a1 < (l1.length : Int)
            ·
             rw [if_pos i8] at H
             have m7 : decide (a1 < (l1.length : Int)) = true := decide_eq_true i8
             clear i8
             by_cases i9 : 0 ≤ (rd l1 a1)
             ·
              rw [if_pos i9] at H
              have m8 : decide (0 ≤ (rd l1 a1)) = true := decide_eq_true i9
              clear i9
              by_cases j0 : (rd l1 a1) < (l0_0.length : Int)
              ·
               rw [if_pos j0] at H
               have m9 : decide ((rd l1 a1) < (l0_0.length : Int)) = true := decide_eq_true j0
               clear j0
               by_cases j1 : 0 ≤ a9
               ·
                rw [if_pos j1] at H
                have n0 : decide (0 ≤ a9) = true := decide_eq_true j1
                clear j1
                by_cases j2 : 0 ≤ (rd l1 a9)
                ·
                 rw [if_pos j2] at H
                 have n1 : decide (0 ≤ (rd l1 a9)) = true := decide_eq_true j2
                 clear j2
                 by_cases j3 : (rd l1 a9) < ((rd_L1 l0_0 (rd l1 a1)).length : Int)
                 ·
                  rw [if_pos j3] at H
                  have n2 : decide ((rd l1 a9) < ((rd_L1 l0_0 (rd l1 a1)).length : Int)) = true := decide_eq_true j3
                  clear j3
                  by_cases j4 : d4.length < 17592186044416
                  ·
                   rw [if_pos j4] at H
                   have LMc31 := Aside0.mk j4
                   clear j4
                   obtain ⟨y225, hy225⟩ : ∃ y_ : List Int, y_ = (d4 ++ [rd (rd_L1 l0_0 (rd l1 a1)) (rd l1 a9)]) := ⟨_, rfl⟩
                   replace H : (spec_l20Rename.l2 k3 l1 b3 a1 y225 (wrap64 (a9 + 1)) l0_0 l0_1 a6 a4) = some (r1, r2) := by first | (rw [hy225]; with_reducible exact H) | (have H2_ := (Option.bind_some _ _).symm.trans H; rw [hy225]; with_reducible exact H2_) | (have H2_ := (Option.bind_some _ _).symm.trans H; with_reducible exact H2_) | with_reducible exact H | (rw [hy225]; exact H) | exact H
                   have Ny225 := Aside0.mk hy225
                   clear hy225
                   have H' := Aside0.mk H
                   clear H
                   try go_wp2
                   replace b2 := Aside0.mk (Kd.R_drew b2.out)
                   replace d3 := Aside0.mk (Kd.R_drew d3.out)
                   replace a3 := Aside0.mk (Kd.S_drew a3.out)
                   replace a2 := Aside0.mk (Kd.R_drew a2.out)
                   replace a5 := Aside0.mk (blk_drew a5.out)
                   replace a7 := Aside0.mk (blk_drew a7.out)
                   replace a0 := Aside0.mk (blk_drew a0.out)
                   replace HB := Aside0.mk (below_drew1 HB.out)
                   have g1 : 0 ≤ (a1 : Int) := of_decide_eq_true zc_3
                   have q221 : a1 < (l1.length : Int) := of_decide_eq_true zc_3
                   obtain ⟨ad221, e221, hx221_0⟩ := Kd.at_int HR1.out a1 g1 q221
                   have hw221_0 := hx221_0
                   cases e221
                   replace hx221_0 := (HB.out.cell (World.block_lt_of_cell? w _ hx221_0)).trans hx221_0
                   replace g1 := eq_true g1
                   replace q221 := eq_true q221
                   have g2 : 0 ≤ ((rd l1 a1) : Int) := of_decide_eq_true zc_3
                   have q222 : (rd l1 a1) < (l0_0.length : Int) := of_decide_eq_true zc_3
                   obtain ⟨ad222, k9, g3, e222, hx222_0, hl222_0, hi222_0⟩ := at_L1 HR0_0.out (rd l1 a1) g2 q222
                   have hw222_0 := hx222_0
                   cases e222
                   replace hx222_0 := (HB.out.cell (World.block_lt_of_cell? w _ hx222_0)).trans hx222_0
                   have HR222_0 := Aside0.mk hi222_0
                   have j5 := Aside0.mk hl222_0
                   clear hi222_0 hl222_0
                   replace g2 := eq_true g2
                   replace q222 := eq_true q222
                   have g4 : 0 ≤ (a9 : Int) := of_decide_eq_true zc_3
                   have q223 : a9 < (l1.length : Int) := of_decide_eq_true zc_3
                   obtain ⟨ad223, e223, hx223_0⟩ := Kd.at_int HR1.out a9 g4 q223
                   have hw223_0 := hx223_0
                   obtain rfl : ad221 = ad223 := (by injection e223)
                   replace hx223_0 := (HB.out.cell (World.block_lt_of_cell? w _ hx223_0)).trans hx223_0
                   replace g4 := eq_true g4
                   replace q223 := eq_true q223
                   have g5 : 0 ≤ ((rd l1 a9) : Int) := of_decide_eq_true zc_3
                   have q224 : (rd l1 a9) < ((rd_L1 l0_0 (rd l1 a1)).length : Int) := of_decide_eq_true zc_3
                   obtain ⟨ad224, e224, hx224_0⟩ := Kd.at_int HR222_0.out (rd l1 a9) g5 q224
                   have hw224_0 := hx224_0
                   cases e224
                   replace hx224_0 := (HB.out.cell (World.block_lt_of_cell? w _ hx224_0)).trans hx224_0
                   replace g5 := eq_true g5
                   replace q224 := eq_true q224
                   refine start_ (n := 18) (S := fun w' => w'.cell? ⟨b0, 0, none⟩ = some (.slice (some ad222) l0_0.length c0_0) ∧ w'.cell? ⟨b0, 1, none⟩ = some (.slice A0_1 l0_1.length c0_1) ∧ w'.cell? (ad221.add (a1).toNat) = some (.int .i64 (rd l1 a1)) ∧ w'.cell? (ad222.add ((rd l1 a1)).toNat) = some (.slice (some ad224) (rd_L1 l0_0 (rd l1 a1)).length g3) ∧ w'.cell? (ad221.add (a9).toNat) = some (.int .i64 (rd l1 a9)) ∧ w'.cell? (ad224.add ((rd l1 a9)).toNat) = some (.int .i64 (rd (rd_L1 l0_0 (rd l1 a1)) (rd l1 a9)))) (ds := []) (bA 18 0) (by kernel_rfl) rfl rfl ⟨(blk_cell a5.out 0).trans rfl, (blk_cell a5.out 1).trans rfl, ((HB.out.cell (World.block_lt_of_cell? w _ hw221_0)).trans hw221_0), ((HB.out.cell (World.block_lt_of_cell? w _ hw222_0)).trans hw222_0), ((HB.out.cell (World.block_lt_of_cell? w _ hw223_0)).trans hw223_0), ((HB.out.cell (World.block_lt_of_cell? w _ hw224_0)).trans hw224_0)⟩ (fun hHeld => ?_); refine with_tabW spec_l20Rename.tab14 spec_l20Rename.bits14 (fun HT_ HW_ => ?_)
                   generalize wr.drew = s4 at b2 d3 a3 a2 a5 a7 a0 HB HR222_0 hx221_0 hx222_0 hx223_0 hx224_0 hHeld ⊢
                   refine pu_ (i := 0) (N := some 41) (bA 18 1) ?_
                   refine pu_ (i := 1) (N := some 42) (bA 18 3) ?_
                   refine pu_ (i := 3) (N := some 44) (bA 18 11) ?_
                   refine pu_ (i := 4) (N := some 45) (bA 18 27) ?_
                   refine pu_ (i := 5) (N := some 46) (bA 18 59) ?_
                   refine pu_ (i := 9) (N := some 50) (bA 18 571) ?_
                   refine pu_ (i := 10) (N := some 51) (bA 18 1595) ?_
                   refine pu_ (i := 11) (N := some 52) (bA 18 3643) ?_
                   refine tk_ (i := 2) (N := some 43) (bA 18 3647) ?_
                   refine tk_ (i := 6) (N := some 47) (bA 18 3711) ?_
                   refine pu_ (i := 7) (N := some 48) (bA 18 3839) ?_
                   refine tk_ (i := 8) (N := some 49) (bA 18 4095) ?_
                   refine tk_ (i := 12) (N := some 53) (bA 18 8191) ?_
                   refine pu_ (i := 13) (N := some 54) (bA 18 16383) ?_
                   refine tk_ (i := 14) (N := some 55) (bA 18 32767) ?_
                   refine one_ (i := 15) (N := some 56) (bA 18 65535) rfl rfl (one_of HT_.out (by kernel_rfl)) zc_16 (fun K hK => ?_)
                   refine value_ (w1 := ?_) (v := ?_) (by rfl) rfl ?_ ?_
                   rotate_left 2
                   ·
                    go_simp
                    constructor
                    ·
                     rfl
                    rfl
                   refine hK.out _ _ ⟨(blk_cell (blk_alloc a5.out _) 0).trans rfl, (blk_cell (blk_alloc a5.out _) 1).trans rfl, (World.cell?_alloc_lt _ _ _ (World.block_lt_of_cell? _ _ (((HB.out.cell (World.block_lt_of_cell? w _ hw221_0)).trans hw221_0)))).trans (((HB.out.cell (World.block_lt_of_cell? w _ hw221_0)).trans hw221_0)), (World.cell?_alloc_lt _ _ _ (World.block_lt_of_cell? _ _ (((HB.out.cell (World.block_lt_of_cell? w _ hw222_0)).trans hw222_0)))).trans (((HB.out.cell (World.block_lt_of_cell? w _ hw222_0)).trans hw222_0)), (World.cell?_alloc_lt _ _ _ (World.block_lt_of_cell? _ _ (((HB.out.cell (World.block_lt_of_cell? w _ hw223_0)).trans hw223_0)))).trans (((HB.out.cell (World.block_lt_of_cell? w _ hw223_0)).trans hw223_0)), (World.cell?_alloc_lt _ _ _ (World.block_lt_of_cell? _ _ (((HB.out.cell (World.block_lt_of_cell? w _ hw224_0)).trans hw224_0)))).trans (((HB.out.cell (World.block_lt_of_cell? w _ hw224_0)).trans hw224_0))⟩ (fun hHeld => ?_)
                   clear hK K
                   refine no_ (N := some 56) ?_
                   refine one_ (i := 16) (N := some 57) (bA 18 131071) rfl rfl (one_of HT_.out (by kernel_rfl)) zc_16 (fun K hK => ?_)
                   refine Kd.R_append_step (Kd.int .i64) (w0 := w) w.heap.size (by rfl) (.tmp 41) (.tmp 56) 24 3 (.int .i64 0) 8 rfl Try.underlying24 info3 rfl zc_16 (by omega) u9 d4 (rd (rd_L1 l0_0 (rd l1 a1)) (rd l1 a9)) [.int .i64 (rd (rd_L1 l0_0 (rd l1 a1)) (rd l1 a9))] (fun k_ => some k_ ≠ (b7 : Value).ownBlock ∧ some k_ ≠ (u218001 : Value).ownBlock) (fun _ => False) rfl rfl ?aP (fun _ hk => hk.elim) ?aF ?aO ?aB ?aS ?aL ?_
                   (case aP => exact rfl)
                   (case aB => exact zc_0)
                   (case aF => exact (fun k_ hk => ⟨Kd.fresh' (Kd.R_lt zc_6) k_ hk, Kd.fresh' (Kd.R_lt zc_5) k_ hk⟩))
                   (case aO => exact (by (with_reducible repeat (first | apply Kd.R_alloc | apply Kd.R_drewN | apply Kd.R_drew)); exact d3.out))
                   (case aS => exact (below_size zc_0))
                   (case aL => have := LMc31.out; omega)
                   intro q5 s5 ho hb hg hat
                   rw [← Ny225.out] at ho
                   replace b2 := Aside0.mk (Kd.R_after (ok := (fun k_ => some k_ ≠ (u218001 : Value).ownBlock)) zc_15 hg hat)
                   replace a3 := Aside0.mk (Kd.S_after (ok := (fun k_ => some k_ ≠ (b7 : Value).ownBlock ∧ some k_ ≠ (u218001 : Value).ownBlock)) (by (with_reducible repeat (first | apply Kd.S_alloc | apply Kd.S_drewN | apply Kd.S_drew)); exact Kd.S_mono a3.out (fun _ hk => ⟨⟨hk.1, hk.2.2⟩, hk.2.1⟩)) hg hat)
                   replace a2 := Aside0.mk (Kd.R_after (ok := (fun k_ => some k_ ≠ (b7 : Value).ownBlock)) zc_5 hg hat)
                   replace a5 := Aside0.mk (blk_grown (g := b0) (o := .cells #[.slice (some ad222) l0_0.length c0_0, .slice A0_1 l0_1.length c0_1] 26 (0, 0)) zc_1 hg (Kd.R_ne d3.out a5.out zc_16))
                   replace a7 := Aside0.mk (blk_grown (g := b1) (o := .cells #[.slice none 0 0, .slice none 0 0] 26 (0, 0)) zc_2 hg (Kd.R_ne d3.out a7.out zc_16))
                   replace a0 := Aside0.mk (blk_grown (g := a8) (o := .cells #[u218000, u218001] 26 (0, 0)) zc_7 hg (Kd.R_ne d3.out a0.out zc_16))
                   replace HB := Aside0.mk (hb)
                   have i1 := Aside0.mk (ho)
                   clear d3 ho hb hg hat
                   refine hK.out _ _ ⟨(blk_cell a5.out 0).trans rfl, (blk_cell a5.out 1).trans rfl, ((HB.out.cell (World.block_lt_of_cell? w _ hw221_0)).trans hw221_0), ((HB.out.cell (World.block_lt_of_cell? w _ hw222_0)).trans hw222_0), ((HB.out.cell (World.block_lt_of_cell? w _ hw223_0)).trans hw223_0), ((HB.out.cell (World.block_lt_of_cell? w _ hw224_0)).trans hw224_0)⟩ (fun hHeld => ?_)
                   clear hK K
                   refine no_ (N := some 57) ?_
                   refine pu_ (i := 17) (N := some 9) (bA 18 262143) ?_
                   refine done_ (done_of HT_.out (by kernel_rfl)) ?_
                   try go_wp2
                   go_roundg k3
                   case measure => have := HK1.out; have := HK2.out; have := HK3.out; omega
                   case rel => exact ⟨(y225), (wrap64 (a9 + 1)), zc_12, H', ⟨by have := HK1.out; have := HK2.out; have := HK3.out; omega⟩, ⟨zc_15⟩, ⟨by (with_reducible repeat (first | apply Kd.R_alloc | apply Kd.R_drewN | apply Kd.R_drew)); exact i1.out⟩, ⟨zc_14⟩, ⟨zc_5⟩, ⟨zc_1⟩, ⟨zc_2⟩, ⟨zc_7⟩, ⟨zc_0⟩⟩
                  rw [if_neg j4] at H
                  exact absurd H (by simp)
                 rw [if_neg j3] at H
                 exact absurd H (by simp)
                rw [if_neg j2] at H
                exact absurd H (by simp)
               rw [if_neg j1] at H
               exact absurd H (by simp)
              rw [if_neg j0] at H
              exact absurd H (by simp)
             rw [if_neg i9] at H
             exact absurd H (by simp)
            rw [if_neg i8] at H
            exact absurd H (by simp)
           rw [if_neg i7] at H
           exact absurd H (by simp)
          rw [if_neg h4] at H
          have i0 : decide (a9 < (l1.length : Int)) = false := decide_eq_false h4
          clear h4
          by_cases j6 : a6.length < 5864062014805
          ·
           rw [if_pos j6] at H
           have LMc34 := Aside0.mk j6
           clear j6
           obtain ⟨y228, hy228⟩ : ∃ y_ : List (List Int), y_ = (a6 ++ [d4]) := ⟨_, rfl⟩
           replace H : (if 0 ≤ a1 then (if a1 < (l1.length : Int) then (if 0 ≤ (rd l1 a1) then (if (rd l1 a1) < (l0_1.length : Int) then (if 0 ≤ (rd l0_1 (rd l1 a1)) then (if (rd l0_1 (rd l1 a1)) < (b3.length : Int) then (if a4.length < 17592186044416 then (spec_l20Rename.l1 k3 l1 b3 (wrap64 (a1 + 1)) l0_0 l0_1 y228 (a4 ++ [rd b3 (rd l0_1 (rd l1 a1))])) else (none)) else (none)) else (none)) else (none)) else (none)) else (none)) else (none)) = some (r1, r2) := by first | (rw [hy228]; with_reducible exact H) | (have H2_ := (Option.bind_some _ _).symm.trans H; rw [hy228]; with_reducible exact H2_) | (have H2_ := (Option.bind_some _ _).symm.trans H; with_reducible exact H2_) | with_reducible exact H | (rw [hy228]; exact H) | exact H
           have Ny228 := Aside0.mk hy228
           clear hy228
           by_cases j7 : 0 ≤ a1
           ·
            rw [if_pos j7] at H
            have n3 : decide (0 ≤ a1) = true := decide_eq_true j7
            clear j7
            by_cases j8 : a1 < (l1.length : Int)
            ·
             rw [if_pos j8] at H
             have n4 : decide (a1 < (l1.length : Int)) = true := decide_eq_true j8
             clear j8
             by_cases j9 : 0 ≤ (rd l1 a1)
             ·
              rw [if_pos j9] at H
              have n5 : decide (0 ≤ (rd l1 a1)) = true := decide_eq_true j9
              clear j9
              by_cases k0 : (rd l1 a1) < (l0_1.length : Int)
              ·
               rw [if_pos k0] at H
               have n6 : decide ((rd l1 a1) < (l0_1.length : Int)) = true := decide_eq_true k0
               clear k0
               by_cases k4 : 0 ≤ (rd l0_1 (rd l1 a1))
               ·
                rw [if_pos k4] at H
                have n7 : decide (0 ≤ (rd l0_1 (rd l1 a1))) = true := decide_eq_true k4
                clear k4
                by_cases k5 : (rd l0_1 (rd l1 a1)) < (b3.length : Int)
                ·
                 rw [if_pos k5] at H
                 have n8 : decide ((rd l0_1 (rd l1 a1)) < (b3.length : Int)) = true := decide_eq_true k5
                 clear k5
                 by_cases k6 : a4.length < 17592186044416
                 ·
                  rw [if_pos k6] at H
                  have LMc41 := Aside0.mk k6
                  clear k6
                  obtain ⟨y234, hy234⟩ : ∃ y_ : List Int, y_ = (a4 ++ [rd b3 (rd l0_1 (rd l1 a1))]) := ⟨_, rfl⟩
                  replace H : (spec_l20Rename.l1 k3 l1 b3 (wrap64 (a1 + 1)) l0_0 l0_1 y228 y234) = some (r1, r2) := by first | (rw [hy234]; with_reducible exact H) | (have H2_ := (Option.bind_some _ _).symm.trans H; rw [hy234]; with_reducible exact H2_) | (have H2_ := (Option.bind_some _ _).symm.trans H; with_reducible exact H2_) | with_reducible exact H | (rw [hy234]; exact H) | exact H
                  have Ny234 := Aside0.mk hy234
                  clear hy234
                  have H' := Aside0.mk H
                  clear H
                  have n9 := d0.out
                  have o0 := b4.out
                  have o1 := d1.out
                  have o2 := b5.out
                  have d5 := cz20 a0.out
                  have d6 := cz21 a0.out
                  have d7 := blk_frozen a0.out 0
                  have d8 := blk_frozen a0.out 1
                  obtain ⟨i2, i3, l3⟩ := Kd.R_slice d3.out
                  subst l3
                  try go_wp2_with (first | ((with_reducible refine gate_builtin (b := .append) (xs := #[.tmp 59, .tmp 61]) rfl ?_); at_builtin; refine Kd.S_append (Kd.slice 3 (Kd.int .i64)) (w0 := w) w.heap.size rfl (.tmp 59) (.tmp 61) 23 24 (.slice none 0 0) 24 rfl Try.underlying23 info24 rfl zc_16 (by omega) u218000 a6 d4 [.slice i2 d4.length i3] (fun k_ => some k_ ≠ (b7 : Value).ownBlock ∧ some k_ ≠ (u218001 : Value).ownBlock) (fun k_ => some k_ = (.slice i2 d4.length i3 : Value).ownBlock) rfl rfl ?aP (fun k_ hk_ => ((Kd.R_mono (ok' := fun k_ => ((fun k_ => some k_ ≠ (b7 : Value).ownBlock ∧ some k_ ≠ (u218001 : Value).ownBlock)) k_ ∧ some k_ ≠ (u218000 : Value).ownBlock) (Kd.R_apart' (d3.out) (Kd.S_typed a3.out) zc_16) (fun k_ hk => ⟨⟨hk.1.1, hk.1.2⟩, hk.2⟩))).1 k_ hk_.symm) ?aF ?aO ?aB ?aS ?aL ?_; (case aP => exact Kd.M_row (Kd.R_mono (Kd.R_tight rfl (Kd.R_mono (ok' := fun k_ => ((fun k_ => some k_ ≠ (b7 : Value).ownBlock ∧ some k_ ≠ (u218001 : Value).ownBlock)) k_ ∧ some k_ ≠ (u218000 : Value).ownBlock) (Kd.R_apart' (d3.out) (Kd.S_typed a3.out) zc_16) (fun k_ hk => ⟨⟨hk.1.1, hk.1.2⟩, hk.2⟩))) (fun _ h_ => h_))); (case aB => exact zc_0); (case aF => exact (fun k_ hk => ⟨Kd.fresh' (Kd.R_lt zc_6) k_ hk, Kd.fresh' (Kd.R_lt zc_5) k_ hk⟩)); (case aO => exact (by (with_reducible repeat (first | apply Kd.S_alloc | apply Kd.S_drewN | apply Kd.S_drew)); exact Kd.S_mono a3.out (fun k_ hk => ⟨⟨hk.1, hk.2.2⟩, fun e_ => hk.2.1 e_⟩))); (case aS => exact (below_size zc_0)); (case aL => have := LMc34.out; omega); intro q6 f3 ho hb hg hat; rw [← Ny228.out] at ho; replace b2 := Aside0.mk (Kd.R_over' zc_6 (Kd.S_typed zc_13) zc_16 hg); replace a2 := Aside0.mk (Kd.R_over' zc_5 (Kd.S_typed zc_13) zc_16 hg); replace a5 := Aside0.mk (blk_grown (g := b0) (o := .cells #[.slice A0_0 l0_0.length c0_0, .slice A0_1 l0_1.length c0_1] 26 (0, 0)) zc_1 hg (Kd.S_ne a3.out a5.out zc_16)); replace a7 := Aside0.mk (blk_grown (g := b1) (o := .cells #[.slice none 0 0, .slice none 0 0] 26 (0, 0)) zc_2 hg (Kd.S_ne a3.out a7.out zc_16)); replace a0 := Aside0.mk (blk_grown (g := a8) (o := .cells #[u218000, u218001] 26 (0, 0)) zc_7 hg (Kd.S_ne a3.out a0.out zc_16)); replace HB := Aside0.mk (hb); have d2 := Aside0.mk (ho); clear a3 d3; clear ho hb hg hat; obtain ⟨b8, b9, l4⟩ := Kd.S_slice d2.out; subst l4; have d5 := cz20 a0.out; have d6 := cz21 a0.out; have d7 := blk_frozen a0.out 0; have d8 := blk_frozen a0.out 1))
                  have n0_ : Aside0 (Kd.R (Kd.int .i64) 3 (f3.setCell ⟨a8, 0, none⟩ (.slice b8 y228.length b9)) w.heap.size (fun k_ => some k_ ≠ (u218001 : Value).ownBlock) b7 b3) := ⟨by (with_reducible repeat (first | apply Kd.R_alloc | apply Kd.R_drewN | apply Kd.R_drew)); exact Kd.R_mono (Kd.R_far (p := ⟨a8, 0, none⟩) (Kd.R_types b2.out a0.out zc_16) (fun _ hk => hk.2) (.slice b8 y228.length b9)) (fun _ hk => hk.1.2)⟩
                  have n1_ : Aside0 (Kd.R (Kd.int .i64) 3 (f3.setCell ⟨a8, 0, none⟩ (.slice b8 y228.length b9)) w.heap.size (fun k_ => some k_ ≠ (b7 : Value).ownBlock) u218001 a4) := ⟨by (with_reducible repeat (first | apply Kd.R_alloc | apply Kd.R_drewN | apply Kd.R_drew)); exact Kd.R_mono (Kd.R_far (p := ⟨a8, 0, none⟩) (Kd.R_types a2.out a0.out zc_16) (fun _ hk => hk.2) (.slice b8 y228.length b9)) (fun _ hk => hk.1.1)⟩
                  have n2_ : Aside0 (Kd.S (Kd.slice 3 (Kd.int .i64)) 24 (f3.setCell ⟨a8, 0, none⟩ (.slice b8 y228.length b9)) w.heap.size (fun k_ => some k_ ≠ (b7 : Value).ownBlock ∧ some k_ ≠ (u218001 : Value).ownBlock) (.slice b8 y228.length b9) y228) := ⟨by (with_reducible repeat (first | apply Kd.S_alloc | apply Kd.S_drewN | apply Kd.S_drew)); exact Kd.S_mono (Kd.S_far (p := ⟨a8, 0, none⟩) (Kd.S_types d2.out a0.out zc_16) (fun _ hk => hk.2) (.slice b8 y228.length b9)) (fun _ hk => ⟨hk.1.1, hk.1.2⟩)⟩
                  have n3_ : Aside0 ((f3.setCell ⟨a8, 0, none⟩ (.slice b8 y228.length b9)).heap[b0]? = some (.cells #[.slice A0_0 l0_0.length c0_0, .slice A0_1 l0_1.length c0_1] 26 (0, 0))) := ⟨zc_11⟩
                  have n4_ : Aside0 ((f3.setCell ⟨a8, 0, none⟩ (.slice b8 y228.length b9)).heap[b1]? = some (.cells #[.slice none 0 0, .slice none 0 0] 26 (0, 0))) := ⟨zc_10⟩
                  have n5_ : Aside0 ((f3.setCell ⟨a8, 0, none⟩ (.slice b8 y228.length b9)).heap[a8]? = some (.cells #[.slice b8 y228.length b9, u218001] 26 (0, 0))) := ⟨by (with_reducible repeat (first | refine blk_drewN ?_ _ | refine blk_drew ?_ | refine blk_alloc ?_ _)); refine blk_put (cs := #[u218000, u218001]) ?_ 0 _ rfl; (with_reducible repeat (first | refine blk_drewN ?_ _ | refine blk_drew ?_ | refine blk_alloc ?_ _)); exact a0.out⟩
                  have n6_ : Aside0 (Below w.heap.size w (f3.setCell ⟨a8, 0, none⟩ (.slice b8 y228.length b9))) := ⟨zc_0⟩
                  (try clear b2)
                  (try clear a2)
                  (try clear d2)
                  (try clear a5)
                  (try clear a7)
                  (try clear a0)
                  (try clear HB)
                  generalize (f3.setCell ⟨a8, 0, none⟩ (.slice b8 y228.length b9)) = q7 at n0_ n1_ n2_ n3_ n4_ n5_ n6_ ⊢
                  have b2 := n0_
                  have a2 := n1_
                  have d2 := n2_
                  have a5 := n3_
                  have a7 := n4_
                  have a0 := n5_
                  have HB := n6_
                  clear n0_ n1_ n2_ n3_ n4_ n5_ n6_
                  replace b2 := Aside0.mk (Kd.R_drew b2.out)
                  replace a2 := Aside0.mk (Kd.R_drew a2.out)
                  replace d2 := Aside0.mk (Kd.S_drew d2.out)
                  replace a5 := Aside0.mk (blk_drew a5.out)
                  replace a7 := Aside0.mk (blk_drew a7.out)
                  replace a0 := Aside0.mk (blk_drew a0.out)
                  replace HB := Aside0.mk (below_drew1 HB.out)
                  have g6 : 0 ≤ (a1 : Int) := of_decide_eq_true zc_3
                  have q231 : a1 < (l1.length : Int) := of_decide_eq_true zc_3
                  obtain ⟨ad231, e231, hx231_0⟩ := Kd.at_int HR1.out a1 g6 q231
                  have hw231_0 := hx231_0
                  cases e231
                  replace hx231_0 := (HB.out.cell (World.block_lt_of_cell? w _ hx231_0)).trans hx231_0
                  replace g6 := eq_true g6
                  replace q231 := eq_true q231
                  have g7 : 0 ≤ ((rd l1 a1) : Int) := of_decide_eq_true zc_3
                  have q232 : (rd l1 a1) < (l0_1.length : Int) := of_decide_eq_true zc_3
                  obtain ⟨ad232, e232, hx232_0⟩ := Kd.at_int HR0_1.out (rd l1 a1) g7 q232
                  have hw232_0 := hx232_0
                  cases e232
                  replace hx232_0 := (HB.out.cell (World.block_lt_of_cell? w _ hx232_0)).trans hx232_0
                  replace g7 := eq_true g7
                  replace q232 := eq_true q232
                  obtain ⟨q8, i4, i5⟩ := Kd.R_slice b2.out
                  (first | subst i5 | (injection i5 with f1_ f2_ f3_; have f4_ := f1_.symm; have f5_ := f3_.symm; clear f1_ f2_ f3_; subst f4_; subst f5_))
                  have g8 : 0 ≤ ((rd l0_1 (rd l1 a1)) : Int) := of_decide_eq_true zc_3
                  have q233 : (rd l0_1 (rd l1 a1)) < (b3.length : Int) := of_decide_eq_true zc_3
                  obtain ⟨ad233, e233, hx233_0⟩ := Kd.at_int (Kd.R_reads' b2.out).2.2 (rd l0_1 (rd l1 a1)) g8 q233
                  cases e233
                  replace g8 := eq_true g8
                  replace q233 := eq_true q233
                  refine start_ (n := 17) (S := fun w' => w'.cell? ⟨a8, 0, none⟩ = some (.slice b8 y228.length b9) ∧ w'.cell? ⟨a8, 1, none⟩ = some (u218001) ∧ w'.cell? ⟨b0, 0, none⟩ = some (.slice A0_0 l0_0.length c0_0) ∧ w'.cell? ⟨b0, 1, none⟩ = some (.slice (some ad232) l0_1.length c0_1) ∧ w'.cell? (ad231.add (a1).toNat) = some (.int .i64 (rd l1 a1)) ∧ w'.cell? (ad232.add ((rd l1 a1)).toNat) = some (.int .i64 (rd l0_1 (rd l1 a1))) ∧ w'.cell? (ad233.add ((rd l0_1 (rd l1 a1))).toNat) = some (.int .i64 (rd b3 (rd l0_1 (rd l1 a1))))) (ds := [14, 16]) (bA 17 0) (by kernel_rfl) rfl rfl ⟨(blk_cell a0.out 0).trans rfl, (blk_cell a0.out 1).trans rfl, (blk_cell a5.out 0).trans rfl, (blk_cell a5.out 1).trans rfl, ((HB.out.cell (World.block_lt_of_cell? w _ hw231_0)).trans hw231_0), ((HB.out.cell (World.block_lt_of_cell? w _ hw232_0)).trans hw232_0), hx233_0⟩ (fun hHeld => ?_); refine with_tabW spec_l20Rename.tab16 spec_l20Rename.bits16 (fun HT_ HW_ => ?_)
                  generalize q7.drew = s6 at b2 a2 d2 a5 a7 a0 HB hx231_0 hx232_0 hx233_0 hHeld ⊢
                  refine pu_ (i := 0) (N := some 64) (bA 17 1) ?_
                  refine pu_ (i := 2) (N := some 66) (bA 17 5) ?_
                  refine pu_ (i := 3) (N := some 67) (bA 17 13) ?_
                  refine pu_ (i := 5) (N := some 69) (bA 17 45) ?_
                  refine pu_ (i := 6) (N := some 70) (bA 17 109) ?_
                  refine pu_ (i := 7) (N := some 71) (bA 17 237) ?_
                  refine tk_ (i := 1) (N := some 65) (bA 17 239) ?_
                  refine tk_ (i := 4) (N := some 68) (bA 17 255) ?_
                  refine tk_ (i := 8) (N := some 72) (bA 17 511) ?_
                  refine pu_ (i := 9) (N := some 73) (bA 17 1023) ?_
                  refine tk_ (i := 10) (N := some 74) (bA 17 2047) ?_
                  refine pu_ (i := 11) (N := some 75) (bA 17 4095) ?_
                  refine tk_ (i := 12) (N := some 76) (bA 17 8191) ?_
                  refine one_ (i := 13) (N := some 77) (bA 17 16383) rfl rfl (one_of HT_.out (by kernel_rfl)) zc_16 (fun K hK => ?_)
                  refine value_ (w1 := ?_) (v := ?_) (by rfl) rfl ?_ ?_
                  rotate_left 2
                  ·
                   go_simp
                   constructor
                   ·
                    rfl
                   rfl
                  refine hK.out _ _ ⟨(blk_cell (blk_alloc a0.out _) 0).trans rfl, (blk_cell (blk_alloc a0.out _) 1).trans rfl, (blk_cell (blk_alloc a5.out _) 0).trans rfl, (blk_cell (blk_alloc a5.out _) 1).trans rfl, (World.cell?_alloc_lt _ _ _ (World.block_lt_of_cell? _ _ (((HB.out.cell (World.block_lt_of_cell? w _ hw231_0)).trans hw231_0)))).trans (((HB.out.cell (World.block_lt_of_cell? w _ hw231_0)).trans hw231_0)), (World.cell?_alloc_lt _ _ _ (World.block_lt_of_cell? _ _ (((HB.out.cell (World.block_lt_of_cell? w _ hw232_0)).trans hw232_0)))).trans (((HB.out.cell (World.block_lt_of_cell? w _ hw232_0)).trans hw232_0)), (World.cell?_alloc_lt _ _ _ (World.block_lt_of_cell? _ _ (hHeld.2.2.2.2.2.2))).trans (hHeld.2.2.2.2.2.2)⟩ (fun hHeld => ?_)
                  clear hK K
                  refine no_ (N := some 77) ?_
                  refine last_ (i := 14) (N := some 78) (bA 17 32767) rfl rfl (one_of HT_.out (by kernel_rfl)) zc_16 (fun K hK => ?_)
                  refine Kd.R_append_step (Kd.int .i64) (w0 := w) w.heap.size (by rfl) (.tmp 65) (.tmp 77) 24 3 (.int .i64 0) 8 rfl Try.underlying24 info3 rfl zc_16 (by omega) u218001 a4 (rd b3 (rd l0_1 (rd l1 a1))) [.int .i64 (rd b3 (rd l0_1 (rd l1 a1)))] (fun k_ => some k_ ≠ (.slice (some ad233) b3.length i4 : Value).ownBlock) (fun _ => False) rfl rfl ?aP (fun _ hk => hk.elim) ?aF ?aO ?aB ?aS ?aL ?_
                  (case aP => exact rfl)
                  (case aB => exact zc_0)
                  (case aF => exact (fun k_ hk => Kd.fresh' (Kd.R_lt zc_6) k_ hk))
                  (case aO => exact zc_5)
                  (case aS => exact (below_size zc_0))
                  (case aL => have := LMc41.out; omega)
                  intro q9 s7 ho hb hg hat
                  rw [← Ny234.out] at ho
                  replace b2 := Aside0.mk (Kd.R_after (ok := (fun _ => True)) (by (with_reducible repeat (first | apply Kd.R_alloc | apply Kd.R_drewN | apply Kd.R_drew)); exact Kd.R_mono b2.out (fun _ hk => ⟨trivial, hk⟩)) hg hat)
                  replace a5 := Aside0.mk (blk_grown (g := b0) (o := .cells #[.slice A0_0 l0_0.length c0_0, .slice (some ad232) l0_1.length c0_1] 26 (0, 0)) zc_1 hg (Kd.R_ne a2.out a5.out zc_16))
                  replace a7 := Aside0.mk (blk_grown (g := b1) (o := .cells #[.slice none 0 0, .slice none 0 0] 26 (0, 0)) zc_2 hg (Kd.R_ne a2.out a7.out zc_16))
                  replace a0 := Aside0.mk (blk_grown (g := a8) (o := .cells #[.slice b8 y228.length b9, u218001] 26 (0, 0)) zc_7 hg (Kd.R_ne a2.out a0.out zc_16))
                  replace d2 := Aside0.mk (Kd.S_after (ok := (fun k_ => some k_ ≠ (.slice (some ad233) b3.length i4 : Value).ownBlock)) (by (with_reducible repeat (first | apply Kd.S_alloc | apply Kd.S_drewN | apply Kd.S_drew)); exact d2.out) hg hat)
                  replace HB := Aside0.mk (hb)
                  have f4 := Aside0.mk (ho)
                  clear a2 ho hb hg hat
                  obtain ⟨e4, e5, i6⟩ := Kd.R_slice f4.out
                  (first | subst i6 | (injection i6 with f1_ f2_ f3_; have f4_ := f1_.symm; have f5_ := f3_.symm; clear f1_ f2_ f3_; subst f4_; subst f5_))
                  refine hK.out _ _ ?_
                  clear hK K
                  refine no_ (N := some 78) ?_
                  refine pu_ (i := 15) (N := some 79) (bA 17 65535) ?_
                  refine last_ (i := 16) (N := none) (bA 17 131071) rfl rfl (one_of HT_.out (by kernel_rfl)) zc_16 (fun K hK => ?_)
                  have hs54 : _ := cz21 a0.out
                  have hfs54 := blk_frozen a0.out 1
                  have hns54_0 := b4.out
                  have hns54_1 := b5.out
                  have hms54_0 := d0.out
                  have hms54_1 := d1.out
                  refine skip_ (w1 := ?_) (by rfl) rfl ?_ ?_
                  rotate_left
                  ·
                   go_simp
                   rfl
                  refine hK.out _ _ ?_
                  clear hK K
                  refine done_ (done_of HT_.out (by kernel_rfl)) ?_
                  try go_wp2
                  go_roundg k3
                  case measure => have := HK1.out; have := HK2.out; have := HK3.out; omega
                  case rel => exact ⟨(wrap64 (a1 + 1)), (y228), (y234), (.slice b8 y228.length b9), (.slice e4 y234.length e5), zc_12, H', ⟨by have := HK1.out; have := HK2.out; have := HK3.out; omega⟩, ⟨by (with_reducible repeat (first | apply Kd.R_alloc | apply Kd.R_drewN | apply Kd.R_drew)); exact Kd.R_mono (Kd.R_far (p := ⟨a8, 1, none⟩) (Kd.R_types b2.out a0.out zc_16) (fun _ hk => hk.2) (.slice e4 y234.length e5)) (fun _ hk => hk.1.2)⟩, ⟨by (with_reducible repeat (first | apply Kd.S_alloc | apply Kd.S_drewN | apply Kd.S_drew)); exact Kd.S_mono (Kd.S_far (p := ⟨a8, 1, none⟩) (Kd.S_types d2.out a0.out zc_16) (fun _ hk => hk.2) (.slice e4 y234.length e5)) (fun _ hk => ⟨hk.1.1, hk.1.2⟩)⟩, ⟨by (with_reducible repeat (first | apply Kd.R_alloc | apply Kd.R_drewN | apply Kd.R_drew)); exact Kd.R_mono (Kd.R_far (p := ⟨a8, 1, none⟩) (Kd.R_types f4.out a0.out zc_16) (fun _ hk => hk.2) (.slice e4 y234.length e5)) (fun _ hk => hk.1)⟩, ⟨zc_11⟩, ⟨zc_10⟩, ⟨by (with_reducible repeat (first | refine blk_drewN ?_ _ | refine blk_drew ?_ | refine blk_alloc ?_ _)); refine blk_put (cs := #[.slice b8 y228.length b9, u218001]) ?_ 1 _ rfl; (with_reducible repeat (first | refine blk_drewN ?_ _ | refine blk_drew ?_ | refine blk_alloc ?_ _)); exact a0.out⟩, ⟨zc_0⟩⟩
                 rw [if_neg k6] at H
                 exact absurd H (by simp)
                rw [if_neg k5] at H
                exact absurd H (by simp)
               rw [if_neg k4] at H
               exact absurd H (by simp)
              rw [if_neg k0] at H
              exact absurd H (by simp)
             rw [if_neg j9] at H
             exact absurd H (by simp)
            rw [if_neg j8] at H
            exact absurd H (by simp)
           rw [if_neg j7] at H
           exact absurd H (by simp)
          rw [if_neg j6] at H
          exact absurd H (by simp)
       rw [if_neg g0] at H
       have f2 : decide (a1 < (l1.length : Int)) = false := decide_eq_false g0
       clear g0
       simp only [Option.some.injEq, Prod.mk.injEq] at H
       obtain ⟨rfl, rfl⟩ := H
       have o3 := d0.out
       have o4 := b4.out
       have o5 := d1.out
       have o6 := b5.out
       have d5 := cz20 a0.out
       have d6 := cz21 a0.out
       have d7 := blk_frozen a0.out 0
       have d8 := blk_frozen a0.out 1
       obtain ⟨e6, e7, l5⟩ := Kd.S_slice a3.out
       subst l5
       have o7 := e1.out
       have o8 := e0.out
       have d5 := cz20 a7.out
       have d6 := cz21 a7.out
       have d7 := blk_frozen a7.out 0
       have d8 := blk_frozen a7.out 1
       obtain ⟨g9, h0, l6⟩ := Kd.R_slice a2.out
       subst l6
       go_wp2
       refine bodyPost_ret (results_cell_row rfl _ _ b1 26 #[.slice e6 a6.length e7, .slice g9 a4.length h0] (0, 0) _ rfl (by (with_reducible repeat (first | refine blk_drewN ?_ _ | refine blk_drew ?_ | refine blk_alloc ?_ _)); refine blk_put (cs := #[.slice e6 a6.length e7, .slice none 0 0]) ?_ 1 _ rfl; (with_reducible repeat (first | refine blk_drewN ?_ _ | refine blk_drew ?_ | refine blk_alloc ?_ _)); refine blk_put (cs := #[.slice none 0 0, .slice none 0 0]) ?_ 0 _ rfl; (with_reducible repeat (first | refine blk_drewN ?_ _ | refine blk_drew ?_ | refine blk_alloc ?_ _)); exact a7.out) Try.underlying26 rfl (by kernel_rfl)) rfl ?_
       exact ⟨_, _, by first | rfl | (simp [errW_none, errW_some] <;> rfl) | (simp [*, errW_none, errW_some] <;> rfl), by (with_reducible repeat (first | apply Kd.S_alloc | apply Kd.S_drewN | apply Kd.S_drew)); exact Kd.S_mono (Kd.S_far (p := ⟨b1, 1, none⟩) (Kd.S_far (p := ⟨b1, 0, none⟩) (Kd.S_types a3.out a7.out zc_16) (fun _ hk => hk.2) (.slice e6 a6.length e7)) (fun _ hk => hk.2) (.slice g9 a4.length h0)) (fun _ hk => hk.1.2), by (with_reducible repeat (first | apply Kd.R_alloc | apply Kd.R_drewN | apply Kd.R_drew)); exact Kd.R_mono (Kd.R_far (p := ⟨b1, 1, none⟩) (Kd.R_far (p := ⟨b1, 0, none⟩) (Kd.R_types a2.out a7.out zc_16) (fun _ hk => hk.2) (.slice e6 a6.length e7)) (fun _ hk => hk.2) (.slice g9 a4.length h0)) (fun _ hk => trivial), by repeat (first | (with_reducible first | exact HB.out | apply below_alloc | apply pw_below_drewN | apply below_drew1 | refine below_set ?_ d9.out | refine below_set ?_ e2.out | refine below_set ?_ e8.out) | exact HB.out)⟩
  rw [if_neg c4] at H
  exact absurd H (by simp)
 rw [if_neg c3] at H
 exact absurd H (by simp)

end Go.Proofs.Ytjgfpiilfnchnaa.P

-- written by gen.py (a program of this session) out of the kit's print of this seat's translation
namespace Go.Proofs.Ytjgfpiilfnchnaa.P
open Go.RowKit Go.Proofs.YtjgfpiilfnchnaaW.PrintWords Go.Proofs.YtjgfpiilfnchnaaW.PrintLast Go.Proofs.YtjgfpiilfnchnaaW.PrintMore
attribute [local go_sem] max2_int min2_int max_two min_two max_three min_three max_four min_four
set_option linter.unusedVariables false
set_option linter.unusedSimpArgs false
theorem ze_1 {p : Prop} (h : p := by repeat (first | (with_reducible first | exact HB.out | apply below_alloc | apply pw_below_drewN | apply below_drew1) | exact HB.out)) : p := h
theorem ze_0 {p : Prop} (h : p := by repeat (first | (with_reducible first | exact HBW.out | apply below_alloc | apply pw_below_drewN | apply below_drew1) | exact HBW.out)) : p := h
set_option maxHeartbeats 8000000 in
set_option maxRecDepth 100000 in
theorem spec_l20Open.calls (A0 : Option Addr) (c0 : Nat) (l0 : List Int) (r1 : List Int) (r2 : Int) (w0 w : World) (hB : Below w0.heap.size w0 w) (hr0 : Kd.C (Kd.int .u8) w0 A0 l0.length l0) (hc0 : l0.length ≤ c0) (h : spec_l20Open.f l0 = some (r1, r2)) :
  Calls Try.prog 55 #[.slice A0 l0.length c0] w fun e w' => ∃ g_ : Nat, e = .returned (.pointer (some ⟨g_, 0, none⟩)) ∧ IsS70 w0 w' g_ r1 r2 ∧ Below w0.heap.size w0 w' ∧ Below w.heap.size w w' := by
 have hu70 := Try.underlying70
 have HR0 := Aside0.mk hr0
 have b1 := Aside0.mk hc0
 clear hr0 hc0
 have HBW := Aside0.mk (Below.refl w.heap.size w)
 have HW0 := Aside0.mk hB.size
 have HB := Aside0.mk hB
 clear hB
 have H : (if (l0.length : Int) > 2000 then (if 2000 ≤ (l0.length : Int) then (some (l0.take 2000, 0)) else (none)) else (some (l0, 0))) = some (r1, r2) := h
 clear h
 by_cases c2 : (l0.length : Int) > 2000
 ·
  rw [if_pos c2] at H
  have a8 : decide (2000 < (l0.length : Int)) = true := decide_eq_true c2
  have a9 : decide (2000 < l0.length) = true := decide_eq_true (by omega)
  clear c2
  by_cases c3 : 2000 ≤ (l0.length : Int)
  ·
   rw [if_pos c3] at H
   have b2 := eq_true c3
   have b3 : decide (2000 ≤ (l0.length : Int)) = true := decide_eq_true c3
   clear c3
   simp only [Option.some.injEq, Prod.mk.injEq] at H
   obtain ⟨rfl, rfl⟩ := H
   obtain ⟨i04, hi04, _, hsz4, _⟩ := info_parts info5
   obtain ⟨hcut4, hA4, hC4⟩ := print_take_of (P := Try.prog) (Value.int .u8) 0 22 5 .i64 Try.underlying22 hi04 hsz4 A0 c0 l0 2000 (by omega) (of_decide_eq_true (by first | (with_reducible assumption) | assumption)) b1.out
   have HR383 := Aside0.mk (Kd.C_of_reads (h1 := fun _ => rfl) (hA4 _ (Kd.reads_of_C HR0.out)))
   have b0 := Aside0.mk hC4
   clear hA4 hC4 hi04 hsz4
   go_enter Try.func55, Try.ntmps55
   go_wp2_with (first | ((with_reducible refine gate_dst (N := 10) rfl ?_); refine bx_ (N := 10) (cs := #[.slice A0 (l0.take 2000).length c0, .int .i64 0]) (t := 70) ?_; intro a0 hg w5 hbox hb; replace HB := Aside0.mk (below_step ze_1 hb); have a4 := Aside0.mk (hbox); have a5 := Aside0.mk ((by rw [hg]; exact (below_size ze_0) : w.heap.size ≤ a0)); have a2 := Aside0.mk ((Nat.le_trans HW0.out (by rw [hg]; exact (below_size ze_0) : w.heap.size ≤ a0) : w0.heap.size ≤ a0)); replace HBW := Aside0.mk (below_step HBW.out hb); clear hb hbox hg))
   go_ret
   exact ⟨_, rfl, (show IsS70 w0 _ a0 (l0.take 2000) 0 from ⟨_, _, by (with_reducible repeat (first | refine blk_drewN ?_ _ | refine blk_drew ?_ | refine blk_alloc ?_ _)); exact a4.out, a2.out, HR383.out⟩), by repeat (first | (with_reducible first | exact HB.out | apply below_alloc | apply pw_below_drewN | apply below_drew1 | refine below_set ?_ a2.out) | exact HB.out), by repeat (first | (with_reducible first | exact HBW.out | apply below_alloc | apply pw_below_drewN | apply below_drew1 | refine below_set ?_ a5.out) | exact HBW.out)⟩
  rw [if_neg c3] at H
  exact absurd H (by simp)
 rw [if_neg c2] at H
 have a8 : decide (2000 < (l0.length : Int)) = false := decide_eq_false c2
 have a9 : decide (2000 < l0.length) = false := decide_eq_false (by omega)
 clear c2
 simp only [Option.some.injEq, Prod.mk.injEq] at H
 obtain ⟨rfl, rfl⟩ := H
 go_enter Try.func55, Try.ntmps55
 go_wp2_with (first | ((with_reducible refine gate_dst (N := 10) rfl ?_); refine bx_ (N := 10) (cs := #[.slice A0 l0.length c0, .int .i64 0]) (t := 70) ?_; intro a1 hg w6 hbox hb; replace HB := Aside0.mk (below_step ze_1 hb); have a6 := Aside0.mk (hbox); have a7 := Aside0.mk ((by rw [hg]; exact (below_size ze_0) : w.heap.size ≤ a1)); have a3 := Aside0.mk ((Nat.le_trans HW0.out (by rw [hg]; exact (below_size ze_0) : w.heap.size ≤ a1) : w0.heap.size ≤ a1)); replace HBW := Aside0.mk (below_step HBW.out hb); clear hb hbox hg))
 go_ret
 exact ⟨_, rfl, (show IsS70 w0 _ a1 l0 0 from ⟨_, _, by (with_reducible repeat (first | refine blk_drewN ?_ _ | refine blk_drew ?_ | refine blk_alloc ?_ _)); exact a6.out, a3.out, HR0.out⟩), by repeat (first | (with_reducible first | exact HB.out | apply below_alloc | apply pw_below_drewN | apply below_drew1 | refine below_set ?_ a3.out) | exact HB.out), by repeat (first | (with_reducible first | exact HBW.out | apply below_alloc | apply pw_below_drewN | apply below_drew1 | refine below_set ?_ a7.out) | exact HBW.out)⟩

end Go.Proofs.Ytjgfpiilfnchnaa.P

-- written by gen.py (a program of this session) out of the kit's print of this seat's translation
namespace Go.Proofs.Ytjgfpiilfnchnaa.P
open Go.RowKit Go.Proofs.YtjgfpiilfnchnaaW.PrintWords Go.Proofs.YtjgfpiilfnchnaaW.PrintLast Go.Proofs.YtjgfpiilfnchnaaW.PrintMore
attribute [local go_sem] max2_int min2_int max_two min_two max_three min_three max_four min_four
set_option linter.unusedVariables false
set_option linter.unusedSimpArgs false
theorem zg_1 {p : Prop} (h : p := by first | rfl | (simp; done) | (simp [*]; done)) : p := h
theorem zg_0 {p : Prop} (h : p := by first | (with_reducible assumption) | assumption) : p := h
set_option maxHeartbeats 8000000 in
set_option maxRecDepth 100000 in
theorem spec_l1Meet.calls (k : Nat) (A0 : Option Addr) (c0 : Nat) (l0 : List (List Int)) (a1 : Int) (a2 : Int) (r : Int) (w : World) (hr0 : Kd.C (Kd.slice 3 (Kd.int .i64)) w A0 l0.length l0) (hc0 : l0.length ≤ c0) (h : spec_l1Meet.f k l0 a1 a2 = some r) :
  Calls Try.prog 60 #[.slice A0 l0.length c0, .int .i64 a1, .int .i64 a2] w fun e w' => e = .returned (.int .i64 r) ∧ Drawn0 w w' := by
 have HR0 := Aside0.mk hr0
 have j3 := Aside0.mk hc0
 clear hr0 hc0
 have H : (spec_l1Meet.l0 k l0 a1 a2 (-1) 0) = some r := h
 clear h
 have H' := Aside0.mk H
 clear H
 go_enter Try.func60, Try.ntmps60
 go_wp2
 go_loopg [7, 8] k (fun kq v7 v8 w' => ∃ (a4 : Int) (a0 : Int), v7 = .int .i64 a4 ∧ v8 = .int .i64 a0 ∧ Aside0 (spec_l1Meet.l0 kq l0 a1 a2 a4 a0 = some r) ∧ Aside0 (kq ≤ k) ∧ Drawn0 w w')
 case atStart => exact ⟨((-1)), (0), zg_1, zg_1, H', ⟨Nat.le_refl _⟩, by repeat (first | exact Drawn0.refl _ | apply Drawn0.step)⟩
 case round =>
  clear H'
  try clear p2
  obtain ⟨a4, a0, rfl, rfl, HA, HK1, ⟨m1, rfl⟩⟩ := hrel
  cases gk with
  | zero => exact absurd HA.out (by simp [spec_l1Meet.l0])
  | succ k1 =>
   have H := HA.out
   clear HA
   simp only [spec_l1Meet.l0] at H
   by_cases c4 : a0 < (l0.length : Int)
   ·
    rw [if_pos c4] at H
    have f7 : decide (a0 < (l0.length : Int)) = true := decide_eq_true c4
    clear c4
    by_cases c5 : 0 ≤ a0
    ·
     rw [if_pos c5] at H
     have i2 : decide (0 ≤ a0) = true := decide_eq_true c5
     clear c5
     by_cases c6 : 0 ≤ a1
     ·
      rw [if_pos c6] at H
      have i3 : decide (0 ≤ a1) = true := decide_eq_true c6
      clear c6
      by_cases c7 : a1 < ((rd_L1 l0 a0).length : Int)
      ·
       rw [if_pos c7] at H
       have i4 : decide (a1 < ((rd_L1 l0 a0).length : Int)) = true := decide_eq_true c7
       clear c7
       by_cases c8 : (rd (rd_L1 l0 a0) a1) = 1
       ·
        rw [if_pos c8] at H
        have f8 := bt_ c8
        have f9 := bu_ c8
        clear c8
        by_cases c9 : 0 ≤ a2
        ·
         rw [if_pos c9] at H
         have i5 : decide (0 ≤ a2) = true := decide_eq_true c9
         clear c9
         by_cases g0 : a2 < ((rd_L1 l0 a0).length : Int)
         ·
          rw [if_pos g0] at H
          have g1 : decide (a2 < ((rd_L1 l0 a0).length : Int)) = true := decide_eq_true g0
          clear g0
          by_cases e1 : (rd (rd_L1 l0 a0) a2) = 1
          ·
           rw [if_pos e1] at H
           have e2 := bt_ e1
           have e3 := bu_ e1
           clear e1
           by_cases e8 : a4 < 0
           ·
            rw [if_pos e8] at H
            have e4 : decide (a4 < 0) = true := decide_eq_true e8
            clear e8
            have H' := Aside0.mk H
            clear H
            have a5 : 0 ≤ (a0 : Int) := of_decide_eq_true zg_0
            have q443 : a0 < (l0.length : Int) := of_decide_eq_true zg_0
            obtain ⟨ad443, b4, b5, e443, hx443_0, hl443_0, hi443_0⟩ := at_L1 HR0.out a0 a5 q443
            cases e443
            have HR443_0 := Aside0.mk hi443_0
            have b1 := Aside0.mk hl443_0
            clear hi443_0 hl443_0
            replace a5 := eq_true a5
            replace q443 := eq_true q443
            have a6 : 0 ≤ (a1 : Int) := of_decide_eq_true zg_0
            have q444 : a1 < ((rd_L1 l0 a0).length : Int) := of_decide_eq_true zg_0
            obtain ⟨ad444, e444, hx444_0⟩ := Kd.at_int HR443_0.out a1 a6 q444
            cases e444
            replace a6 := eq_true a6
            replace q444 := eq_true q444
            have a7 : 0 ≤ (a0 : Int) := of_decide_eq_true zg_0
            have q445 : a0 < (l0.length : Int) := of_decide_eq_true zg_0
            obtain ⟨ad445, d0, d1, e445, hx445_0, hl445_0, hi445_0⟩ := at_L1 HR0.out a0 a7 q445
            obtain rfl : ad443 = ad445 := (by injection e445)
            have HR445_0 := Aside0.mk hi445_0
            have b6 := Aside0.mk hl445_0
            clear hi445_0 hl445_0
            replace a7 := eq_true a7
            replace q445 := eq_true q445
            have ea_ := Option.some.inj (hx443_0.symm.trans hx445_0)
            injection ea_ with ea_ en_ ec_
            subst ea_
            subst ec_
            clear en_
            have a8 : 0 ≤ (a2 : Int) := of_decide_eq_true zg_0
            have q446 : a2 < ((rd_L1 l0 a0).length : Int) := of_decide_eq_true zg_0
            obtain ⟨ad446, e446, hx446_0⟩ := Kd.at_int HR445_0.out a2 a8 q446
            cases e446
            replace a8 := eq_true a8
            replace q446 := eq_true q446
            go_wp2
            go_roundg k1
            case measure => have := HK1.out; omega
            case rel => exact ⟨(a0), (wrap64 (a0 + 1)), zg_1, zg_1, H', ⟨by have := HK1.out; omega⟩, by repeat (first | exact Drawn0.refl _ | apply Drawn0.step)⟩
           rw [if_neg e8] at H
           have e4 : decide (a4 < 0) = false := decide_eq_false e8
           clear e8
           by_cases g2 : 0 ≤ a4
           ·
            rw [if_pos g2] at H
            have g3 : decide (0 ≤ a4) = true := decide_eq_true g2
            clear g2
            by_cases g4 : a4 < (l0.length : Int)
            ·
             rw [if_pos g4] at H
             have g5 : decide (a4 < (l0.length : Int)) = true := decide_eq_true g4
             clear g4
             by_cases g6 : a0 < ((rd_L1 l0 a4).length : Int)
             ·
              rw [if_pos g6] at H
              have g7 : decide (a0 < ((rd_L1 l0 a4).length : Int)) = true := decide_eq_true g6
              clear g6
              by_cases e5 : (rd (rd_L1 l0 a4) a0) = 1
              ·
               rw [if_pos e5] at H
               have e6 := bt_ e5
               have e7 := bu_ e5
               clear e5
               have H' := Aside0.mk H
               clear H
               have a5 : 0 ≤ (a0 : Int) := of_decide_eq_true zg_0
               have q443 : a0 < (l0.length : Int) := of_decide_eq_true zg_0
               obtain ⟨ad443, b4, b5, e443, hx443_0, hl443_0, hi443_0⟩ := at_L1 HR0.out a0 a5 q443
               cases e443
               have HR443_0 := Aside0.mk hi443_0
               have b1 := Aside0.mk hl443_0
               clear hi443_0 hl443_0
               replace a5 := eq_true a5
               replace q443 := eq_true q443
               have a6 : 0 ≤ (a1 : Int) := of_decide_eq_true zg_0
               have q444 : a1 < ((rd_L1 l0 a0).length : Int) := of_decide_eq_true zg_0
               obtain ⟨ad444, e444, hx444_0⟩ := Kd.at_int HR443_0.out a1 a6 q444
               cases e444
               replace a6 := eq_true a6
               replace q444 := eq_true q444
               have a7 : 0 ≤ (a0 : Int) := of_decide_eq_true zg_0
               have q445 : a0 < (l0.length : Int) := of_decide_eq_true zg_0
               obtain ⟨ad445, d0, d1, e445, hx445_0, hl445_0, hi445_0⟩ := at_L1 HR0.out a0 a7 q445
               obtain rfl : ad443 = ad445 := (by injection e445)
               have HR445_0 := Aside0.mk hi445_0
               have b6 := Aside0.mk hl445_0
               clear hi445_0 hl445_0
               replace a7 := eq_true a7
               replace q445 := eq_true q445
               have ea_ := Option.some.inj (hx443_0.symm.trans hx445_0)
               injection ea_ with ea_ en_ ec_
               subst ea_
               subst ec_
               clear en_
               have a8 : 0 ≤ (a2 : Int) := of_decide_eq_true zg_0
               have q446 : a2 < ((rd_L1 l0 a0).length : Int) := of_decide_eq_true zg_0
               obtain ⟨ad446, e446, hx446_0⟩ := Kd.at_int HR445_0.out a2 a8 q446
               cases e446
               replace a8 := eq_true a8
               replace q446 := eq_true q446
               have b8 : 0 ≤ (a4 : Int) := of_decide_eq_true zg_0
               have q447 : a4 < (l0.length : Int) := of_decide_eq_true zg_0
               obtain ⟨ad447, e9, f0, e447, hx447_0, hl447_0, hi447_0⟩ := at_L1 HR0.out a4 b8 q447
               obtain rfl : ad443 = ad447 := (by injection e447)
               have HR447_0 := Aside0.mk hi447_0
               have d9 := Aside0.mk hl447_0
               clear hi447_0 hl447_0
               replace b8 := eq_true b8
               replace q447 := eq_true q447
               have b9 : 0 ≤ (a0 : Int) := of_decide_eq_true zg_0
               have q448 : a0 < ((rd_L1 l0 a4).length : Int) := of_decide_eq_true zg_0
               obtain ⟨ad448, e448, hx448_0⟩ := Kd.at_int HR447_0.out a0 b9 q448
               cases e448
               replace b9 := eq_true b9
               replace q448 := eq_true q448
               go_wp2
               go_roundg k1
               case measure => have := HK1.out; omega
               case rel => exact ⟨(a0), (wrap64 (a0 + 1)), zg_1, zg_1, H', ⟨by have := HK1.out; omega⟩, by repeat (first | exact Drawn0.refl _ | apply Drawn0.step)⟩
              rw [if_neg e5] at H
              have e6 := bv_ e5
              have e7 := bw_ e5
              have H' := Aside0.mk H
              clear H
              have a5 : 0 ≤ (a0 : Int) := of_decide_eq_true zg_0
              have q443 : a0 < (l0.length : Int) := of_decide_eq_true zg_0
              obtain ⟨ad443, b4, b5, e443, hx443_0, hl443_0, hi443_0⟩ := at_L1 HR0.out a0 a5 q443
              cases e443
              have HR443_0 := Aside0.mk hi443_0
              have b1 := Aside0.mk hl443_0
              clear hi443_0 hl443_0
              replace a5 := eq_true a5
              replace q443 := eq_true q443
              have a6 : 0 ≤ (a1 : Int) := of_decide_eq_true zg_0
              have q444 : a1 < ((rd_L1 l0 a0).length : Int) := of_decide_eq_true zg_0
              obtain ⟨ad444, e444, hx444_0⟩ := Kd.at_int HR443_0.out a1 a6 q444
              cases e444
              replace a6 := eq_true a6
              replace q444 := eq_true q444
              have a7 : 0 ≤ (a0 : Int) := of_decide_eq_true zg_0
              have q445 : a0 < (l0.length : Int) := of_decide_eq_true zg_0
              obtain ⟨ad445, d0, d1, e445, hx445_0, hl445_0, hi445_0⟩ := at_L1 HR0.out a0 a7 q445
              obtain rfl : ad443 = ad445 := (by injection e445)
              have HR445_0 := Aside0.mk hi445_0
              have b6 := Aside0.mk hl445_0
              clear hi445_0 hl445_0
              replace a7 := eq_true a7
              replace q445 := eq_true q445
              have ea_ := Option.some.inj (hx443_0.symm.trans hx445_0)
              injection ea_ with ea_ en_ ec_
              subst ea_
              subst ec_
              clear en_
              have a8 : 0 ≤ (a2 : Int) := of_decide_eq_true zg_0
              have q446 : a2 < ((rd_L1 l0 a0).length : Int) := of_decide_eq_true zg_0
              obtain ⟨ad446, e446, hx446_0⟩ := Kd.at_int HR445_0.out a2 a8 q446
              cases e446
              replace a8 := eq_true a8
              replace q446 := eq_true q446
              have b8 : 0 ≤ (a4 : Int) := of_decide_eq_true zg_0
              have q447 : a4 < (l0.length : Int) := of_decide_eq_true zg_0
              obtain ⟨ad447, e9, f0, e447, hx447_0, hl447_0, hi447_0⟩ := at_L1 HR0.out a4 b8 q447
              obtain rfl : ad443 = ad447 := (by injection e447)
              have HR447_0 := Aside0.mk hi447_0
              have d9 := Aside0.mk hl447_0
              clear hi447_0 hl447_0
              replace b8 := eq_true b8
              replace q447 := eq_true q447
              have b9 : 0 ≤ (a0 : Int) := of_decide_eq_true zg_0
              have q448 : a0 < ((rd_L1 l0 a4).length : Int) := of_decide_eq_true zg_0
              obtain ⟨ad448, e448, hx448_0⟩ := Kd.at_int HR447_0.out a0 b9 q448
              cases e448
              replace b9 := eq_true b9
              replace q448 := eq_true q448
              go_wp2
              go_roundg k1
              case measure => have := HK1.out; omega
              case rel => exact ⟨(a4), (wrap64 (a0 + 1)), zg_1, zg_1, H', ⟨by have := HK1.out; omega⟩, by repeat (first | exact Drawn0.refl _ | apply Drawn0.step)⟩
             rw [if_neg g6] at H
             exact absurd H (by simp)
            rw [if_neg g4] at H
            exact absurd H (by simp)
           rw [if_neg g2] at H
           exact absurd H (by simp)
          rw [if_neg e1] at H
          have e2 := bv_ e1
          have e3 := bw_ e1
          have H' := Aside0.mk H
          clear H
          have a5 : 0 ≤ (a0 : Int) := of_decide_eq_true zg_0
          have q443 : a0 < (l0.length : Int) := of_decide_eq_true zg_0
          obtain ⟨ad443, b4, b5, e443, hx443_0, hl443_0, hi443_0⟩ := at_L1 HR0.out a0 a5 q443
          cases e443
          have HR443_0 := Aside0.mk hi443_0
          have b1 := Aside0.mk hl443_0
          clear hi443_0 hl443_0
          replace a5 := eq_true a5
          replace q443 := eq_true q443
          have a6 : 0 ≤ (a1 : Int) := of_decide_eq_true zg_0
          have q444 : a1 < ((rd_L1 l0 a0).length : Int) := of_decide_eq_true zg_0
          obtain ⟨ad444, e444, hx444_0⟩ := Kd.at_int HR443_0.out a1 a6 q444
          cases e444
          replace a6 := eq_true a6
          replace q444 := eq_true q444
          have a7 : 0 ≤ (a0 : Int) := of_decide_eq_true zg_0
          have q445 : a0 < (l0.length : Int) := of_decide_eq_true zg_0
          obtain ⟨ad445, d0, d1, e445, hx445_0, hl445_0, hi445_0⟩ := at_L1 HR0.out a0 a7 q445
          obtain rfl : ad443 = ad445 := (by injection e445)
          have HR445_0 := Aside0.mk hi445_0
          have b6 := Aside0.mk hl445_0
          clear hi445_0 hl445_0
          replace a7 := eq_true a7
          replace q445 := eq_true q445
          have ea_ := Option.some.inj (hx443_0.symm.trans hx445_0)
          injection ea_ with ea_ en_ ec_
          subst ea_
          subst ec_
          clear en_
          have a8 : 0 ≤ (a2 : Int) := of_decide_eq_true zg_0
          have q446 : a2 < ((rd_L1 l0 a0).length : Int) := of_decide_eq_true zg_0
          obtain ⟨ad446, e446, hx446_0⟩ := Kd.at_int HR445_0.out a2 a8 q446
          cases e446
          replace a8 := eq_true a8
          replace q446 := eq_true q446
          go_wp2
          go_roundg k1
          case measure => have := HK1.out; omega
          case rel => exact ⟨(a4), (wrap64 (a0 + 1)), zg_1, zg_1, H', ⟨by have := HK1.out; omega⟩, by repeat (first | exact Drawn0.refl _ | apply Drawn0.step)⟩
         rw [if_neg g0] at H
         exact absurd H (by simp)
        rw [if_neg c9] at H
        exact absurd H (by simp)
       rw [if_neg c8] at H
       have f8 := bv_ c8
       have f9 := bw_ c8
       have H' := Aside0.mk H
       clear H
       have a5 : 0 ≤ (a0 : Int) := of_decide_eq_true zg_0
       have q443 : a0 < (l0.length : Int) := of_decide_eq_true zg_0
       obtain ⟨ad443, b4, b5, e443, hx443_0, hl443_0, hi443_0⟩ := at_L1 HR0.out a0 a5 q443
       cases e443
       have HR443_0 := Aside0.mk hi443_0
       have b1 := Aside0.mk hl443_0
       clear hi443_0 hl443_0
       replace a5 := eq_true a5
       replace q443 := eq_true q443
       have a6 : 0 ≤ (a1 : Int) := of_decide_eq_true zg_0
       have q444 : a1 < ((rd_L1 l0 a0).length : Int) := of_decide_eq_true zg_0
       obtain ⟨ad444, e444, hx444_0⟩ := Kd.at_int HR443_0.out a1 a6 q444
       cases e444
       replace a6 := eq_true a6
       replace q444 := eq_true q444
       go_wp2
       go_roundg k1
       case measure => have := HK1.out; omega
       case rel => exact ⟨(a4), (wrap64 (a0 + 1)), zg_1, zg_1, H', ⟨by have := HK1.out; omega⟩, by repeat (first | exact Drawn0.refl _ | apply Drawn0.step)⟩
      rw [if_neg c7] at H
      exact absurd H (by simp)
     rw [if_neg c6] at H
     exact absurd H (by simp)
    rw [if_neg c5] at H
    exact absurd H (by simp)
   rw [if_neg c4] at H
   have f7 : decide (a0 < (l0.length : Int)) = false := decide_eq_false c4
   clear c4
   have H' := Aside0.mk H
   clear H
   go_wp2
   go_loopg [9] k1 (fun kq v9 w' => ∃ (a3 : Int), v9 = .int .i64 a3 ∧ Aside0 (spec_l1Meet.l1 kq l0 a1 a2 a4 a3 = some r) ∧ Aside0 (kq ≤ k1) ∧ Drawn0 w w')
   case atStart => exact ⟨(0), zg_1, H', ⟨Nat.le_refl _⟩, by repeat (first | exact Drawn0.refl _ | apply Drawn0.step)⟩
   case round =>
    clear H'
    try clear c1
    try clear p2
    try clear c4
    try clear f7
    try clear p4
    try clear q4
    try clear hx4
    try clear c5
    try clear i2
    try clear c6
    try clear i3
    try clear p6
    try clear c7
    try clear i4
    try clear c8
    try clear f8
    try clear f9
    try clear c9
    try clear i5
    try clear g0
    try clear g1
    try clear e1
    try clear e2
    try clear e3
    try clear e8
    try clear e4
    try clear g2
    try clear g3
    try clear g4
    try clear g5
    try clear g6
    try clear g7
    try clear e5
    try clear e6
    try clear e7
    try clear hx443_0
    try clear hx444_0
    try clear hx445_0
    try clear hx446_0
    try clear hx447_0
    try clear hx448_0
    try clear a5
    try clear a6
    try clear a7
    try clear a8
    try clear b8
    try clear b9
    try clear q443
    try clear q444
    try clear q445
    try clear q446
    try clear q447
    try clear q448
    obtain ⟨a3, rfl, HA, HK2, ⟨m2, rfl⟩⟩ := hrel
    cases gk with
    | zero => exact absurd HA.out (by simp [spec_l1Meet.l1])
    | succ k2 =>
     have H := HA.out
     clear HA
     simp only [spec_l1Meet.l1] at H
     by_cases f6 : a3 < (l0.length : Int)
     ·
      rw [if_pos f6] at H
      have g8 : decide (a3 < (l0.length : Int)) = true := decide_eq_true f6
      clear f6
      by_cases h5 : 0 ≤ a3
      ·
       rw [if_pos h5] at H
       have i6 : decide (0 ≤ a3) = true := decide_eq_true h5
       clear h5
       by_cases h6 : 0 ≤ a1
       ·
        rw [if_pos h6] at H
        have i7 : decide (0 ≤ a1) = true := decide_eq_true h6
        clear h6
        by_cases h7 : a1 < ((rd_L1 l0 a3).length : Int)
        ·
         rw [if_pos h7] at H
         have i8 : decide (a1 < ((rd_L1 l0 a3).length : Int)) = true := decide_eq_true h7
         clear h7
         by_cases f1 : (rd (rd_L1 l0 a3) a1) = 1
         ·
          rw [if_pos f1] at H
          have g9 := bt_ f1
          have h0 := bu_ f1
          clear f1
          by_cases h8 : 0 ≤ a2
          ·
           rw [if_pos h8] at H
           have i9 : decide (0 ≤ a2) = true := decide_eq_true h8
           clear h8
           by_cases h9 : a2 < ((rd_L1 l0 a3).length : Int)
           ·
            rw [if_pos h9] at H
            have j0 : decide (a2 < ((rd_L1 l0 a3).length : Int)) = true := decide_eq_true h9
            clear h9
            by_cases f2 : (rd (rd_L1 l0 a3) a2) = 1
            ·
             rw [if_pos f2] at H
             have h1 := bt_ f2
             have h2 := bu_ f2
             clear f2
             by_cases i0 : 0 ≤ a4
             ·
              rw [if_pos i0] at H
              have j1 : decide (0 ≤ a4) = true := decide_eq_true i0
              clear i0
              by_cases i1 : a4 < ((rd_L1 l0 a3).length : Int)
              ·
               rw [if_pos i1] at H
               have j2 : decide (a4 < ((rd_L1 l0 a3).length : Int)) = true := decide_eq_true i1
               clear i1
               by_cases f3 : (rd (rd_L1 l0 a3) a4) = 0
               ·
                rw [if_pos f3] at H
                have h3 := bt_ f3
                have h4 := bu_ f3
                clear f3
                obtain rfl := Option.some.inj H
                have a9 : 0 ≤ (a3 : Int) := of_decide_eq_true zg_0
                have q449 : a3 < (l0.length : Int) := of_decide_eq_true zg_0
                obtain ⟨ad449, d2, d3, e449, hx449_0, hl449_0, hi449_0⟩ := at_L1 HR0.out a3 a9 q449
                cases e449
                have HR449_0 := Aside0.mk hi449_0
                have b7 := Aside0.mk hl449_0
                clear hi449_0 hl449_0
                replace a9 := eq_true a9
                replace q449 := eq_true q449
                have b0 : 0 ≤ (a1 : Int) := of_decide_eq_true zg_0
                have q450 : a1 < ((rd_L1 l0 a3).length : Int) := of_decide_eq_true zg_0
                obtain ⟨ad450, e450, hx450_0⟩ := Kd.at_int HR449_0.out a1 b0 q450
                cases e450
                replace b0 := eq_true b0
                replace q450 := eq_true q450
                have b2 : 0 ≤ (a3 : Int) := of_decide_eq_true zg_0
                have q451 : a3 < (l0.length : Int) := of_decide_eq_true zg_0
                obtain ⟨ad451, d7, d8, e451, hx451_0, hl451_0, hi451_0⟩ := at_L1 HR0.out a3 b2 q451
                obtain rfl : ad449 = ad451 := (by injection e451)
                have HR451_0 := Aside0.mk hi451_0
                have d6 := Aside0.mk hl451_0
                clear hi451_0 hl451_0
                replace b2 := eq_true b2
                replace q451 := eq_true q451
                have ea_ := Option.some.inj (hx449_0.symm.trans hx451_0)
                injection ea_ with ea_ en_ ec_
                subst ea_
                subst ec_
                clear en_
                have b3 : 0 ≤ (a2 : Int) := of_decide_eq_true zg_0
                have q452 : a2 < ((rd_L1 l0 a3).length : Int) := of_decide_eq_true zg_0
                obtain ⟨ad452, e452, hx452_0⟩ := Kd.at_int HR451_0.out a2 b3 q452
                cases e452
                replace b3 := eq_true b3
                replace q452 := eq_true q452
                have d4 : 0 ≤ (a3 : Int) := of_decide_eq_true zg_0
                have q453 : a3 < (l0.length : Int) := of_decide_eq_true zg_0
                obtain ⟨ad453, f4, f5, e453, hx453_0, hl453_0, hi453_0⟩ := at_L1 HR0.out a3 d4 q453
                obtain rfl : ad449 = ad453 := (by injection e453)
                have HR453_0 := Aside0.mk hi453_0
                have e0 := Aside0.mk hl453_0
                clear hi453_0 hl453_0
                replace d4 := eq_true d4
                replace q453 := eq_true q453
                have ea_ := Option.some.inj (hx449_0.symm.trans hx453_0)
                injection ea_ with ea_ en_ ec_
                subst ea_
                subst ec_
                clear en_
                have d5 : 0 ≤ (a4 : Int) := of_decide_eq_true zg_0
                have q454 : a4 < ((rd_L1 l0 a3).length : Int) := of_decide_eq_true zg_0
                obtain ⟨ad454, e454, hx454_0⟩ := Kd.at_int HR453_0.out a4 d5 q454
                cases e454
                replace d5 := eq_true d5
                replace q454 := eq_true q454
                go_wp2
                go_ret
                exact ⟨by first | rfl | (simp; done) | (simp [*]; done), by repeat (first | exact Drawn0.refl _ | apply Drawn0.step)⟩
               rw [if_neg f3] at H
               have h3 := bv_ f3
               have h4 := bw_ f3
               have H' := Aside0.mk H
               clear H
               have a9 : 0 ≤ (a3 : Int) := of_decide_eq_true zg_0
               have q449 : a3 < (l0.length : Int) := of_decide_eq_true zg_0
               obtain ⟨ad449, d2, d3, e449, hx449_0, hl449_0, hi449_0⟩ := at_L1 HR0.out a3 a9 q449
               cases e449
               have HR449_0 := Aside0.mk hi449_0
               have b7 := Aside0.mk hl449_0
               clear hi449_0 hl449_0
               replace a9 := eq_true a9
               replace q449 := eq_true q449
               have b0 : 0 ≤ (a1 : Int) := of_decide_eq_true zg_0
               have q450 : a1 < ((rd_L1 l0 a3).length : Int) := of_decide_eq_true zg_0
               obtain ⟨ad450, e450, hx450_0⟩ := Kd.at_int HR449_0.out a1 b0 q450
               cases e450
               replace b0 := eq_true b0
               replace q450 := eq_true q450
               have b2 : 0 ≤ (a3 : Int) := of_decide_eq_true zg_0
               have q451 : a3 < (l0.length : Int) := of_decide_eq_true zg_0
               obtain ⟨ad451, d7, d8, e451, hx451_0, hl451_0, hi451_0⟩ := at_L1 HR0.out a3 b2 q451
               obtain rfl : ad449 = ad451 := (by injection e451)
               have HR451_0 := Aside0.mk hi451_0
               have d6 := Aside0.mk hl451_0
               clear hi451_0 hl451_0
               replace b2 := eq_true b2
               replace q451 := eq_true q451
               have ea_ := Option.some.inj (hx449_0.symm.trans hx451_0)
               injection ea_ with ea_ en_ ec_
               subst ea_
               subst ec_
               clear en_
               have b3 : 0 ≤ (a2 : Int) := of_decide_eq_true zg_0
               have q452 : a2 < ((rd_L1 l0 a3).length : Int) := of_decide_eq_true zg_0
               obtain ⟨ad452, e452, hx452_0⟩ := Kd.at_int HR451_0.out a2 b3 q452
               cases e452
               replace b3 := eq_true b3
               replace q452 := eq_true q452
               have d4 : 0 ≤ (a3 : Int) := of_decide_eq_true zg_0
               have q453 : a3 < (l0.length : Int) := of_decide_eq_true zg_0
               obtain ⟨ad453, f4, f5, e453, hx453_0, hl453_0, hi453_0⟩ := at_L1 HR0.out a3 d4 q453
               obtain rfl : ad449 = ad453 := (by injection e453)
               have HR453_0 := Aside0.mk hi453_0
               have e0 := Aside0.mk hl453_0
               clear hi453_0 hl453_0
               replace d4 := eq_true d4
               replace q453 := eq_true q453
               have ea_ := Option.some.inj (hx449_0.symm.trans hx453_0)
               injection ea_ with ea_ en_ ec_
               subst ea_
               subst ec_
               clear en_
               have d5 : 0 ≤ (a4 : Int) := of_decide_eq_true zg_0
               have q454 : a4 < ((rd_L1 l0 a3).length : Int) := of_decide_eq_true zg_0
               obtain ⟨ad454, e454, hx454_0⟩ := Kd.at_int HR453_0.out a4 d5 q454
               cases e454
               replace d5 := eq_true d5
               replace q454 := eq_true q454
               go_wp2
               go_roundg k2
               case measure => have := HK1.out; have := HK2.out; omega
               case rel => exact ⟨(wrap64 (a3 + 1)), zg_1, H', ⟨by have := HK1.out; have := HK2.out; omega⟩, by repeat (first | exact Drawn0.refl _ | apply Drawn0.step)⟩
              rw [if_neg i1] at H
              exact absurd H (by simp)
             rw [if_neg i0] at H
             exact absurd H (by simp)
            rw [if_neg f2] at H
            have h1 := bv_ f2
            have h2 := bw_ f2
            have H' := Aside0.mk H
            clear H
            have a9 : 0 ≤ (a3 : Int) := of_decide_eq_true zg_0
            have q449 : a3 < (l0.length : Int) := of_decide_eq_true zg_0
            obtain ⟨ad449, d2, d3, e449, hx449_0, hl449_0, hi449_0⟩ := at_L1 HR0.out a3 a9 q449
            cases e449
            have HR449_0 := Aside0.mk hi449_0
            have b7 := Aside0.mk hl449_0
            clear hi449_0 hl449_0
            replace a9 := eq_true a9
            replace q449 := eq_true q449
            have b0 : 0 ≤ (a1 : Int) := of_decide_eq_true zg_0
            have q450 : a1 < ((rd_L1 l0 a3).length : Int) := of_decide_eq_true zg_0
            obtain ⟨ad450, e450, hx450_0⟩ := Kd.at_int HR449_0.out a1 b0 q450
            cases e450
            replace b0 := eq_true b0
            replace q450 := eq_true q450
            have b2 : 0 ≤ (a3 : Int) := of_decide_eq_true zg_0
            have q451 : a3 < (l0.length : Int) := of_decide_eq_true zg_0
            obtain ⟨ad451, d7, d8, e451, hx451_0, hl451_0, hi451_0⟩ := at_L1 HR0.out a3 b2 q451
            obtain rfl : ad449 = ad451 := (by injection e451)
            have HR451_0 := Aside0.mk hi451_0
            have d6 := Aside0.mk hl451_0
            clear hi451_0 hl451_0
            replace b2 := eq_true b2
            replace q451 := eq_true q451
            have ea_ := Option.some.inj (hx449_0.symm.trans hx451_0)
            injection ea_ with ea_ en_ ec_
            subst ea_
            subst ec_
            clear en_
            have b3 : 0 ≤ (a2 : Int) := of_decide_eq_true zg_0
            have q452 : a2 < ((rd_L1 l0 a3).length : Int) := of_decide_eq_true zg_0
            obtain ⟨ad452, e452, hx452_0⟩ := Kd.at_int HR451_0.out a2 b3 q452
            cases e452
            replace b3 := eq_true b3
            replace q452 := eq_true q452
            go_wp2
            go_roundg k2
            case measure => have := HK1.out; have := HK2.out; omega
            case rel => exact ⟨(wrap64 (a3 + 1)), zg_1, H', ⟨by have := HK1.out; have := HK2.out; omega⟩, by repeat (first | exact Drawn0.refl _ | apply Drawn0.step)⟩
           rw [if_neg h9] at H
           exact absurd H (by simp)
          rw [if_neg h8] at H
          exact absurd H (by simp)
         rw [if_neg f1] at H
         have g9 := bv_ f1
         have h0 := bw_ f1
         have H' := Aside0.mk H
         clear H
         have a9 : 0 ≤ (a3 : Int) := of_decide_eq_true zg_0
         have q449 : a3 < (l0.length : Int) := of_decide_eq_true zg_0
         obtain ⟨ad449, d2, d3, e449, hx449_0, hl449_0, hi449_0⟩ := at_L1 HR0.out a3 a9 q449
         cases e449
         have HR449_0 := Aside0.mk hi449_0
         have b7 := Aside0.mk hl449_0
         clear hi449_0 hl449_0
         replace a9 := eq_true a9
         replace q449 := eq_true q449
         have b0 : 0 ≤ (a1 : Int) := of_decide_eq_true zg_0
         have q450 : a1 < ((rd_L1 l0 a3).length : Int) := of_decide_eq_true zg_0
         obtain ⟨ad450, e450, hx450_0⟩ := Kd.at_int HR449_0.out a1 b0 q450
         cases e450
         replace b0 := eq_true b0
         replace q450 := eq_true q450
         go_wp2
         go_roundg k2
         case measure => have := HK1.out; have := HK2.out; omega
         case rel => exact ⟨(wrap64 (a3 + 1)), zg_1, H', ⟨by have := HK1.out; have := HK2.out; omega⟩, by repeat (first | exact Drawn0.refl _ | apply Drawn0.step)⟩
        rw [if_neg h7] at H
        exact absurd H (by simp)
       rw [if_neg h6] at H
       exact absurd H (by simp)
      rw [if_neg h5] at H
      exact absurd H (by simp)
     rw [if_neg f6] at H
     have g8 : decide (a3 < (l0.length : Int)) = false := decide_eq_false f6
     clear f6
     obtain rfl := Option.some.inj H
     go_wp2
     go_ret
     exact ⟨by first | rfl | (simp; done) | (simp [*]; done), by repeat (first | exact Drawn0.refl _ | apply Drawn0.step)⟩

end Go.Proofs.Ytjgfpiilfnchnaa.P

-- written by gen.py (a program of this session) out of the kit's print of this seat's translation
namespace Go.Proofs.Ytjgfpiilfnchnaa.P
open Go.RowKit Go.Proofs.YtjgfpiilfnchnaaW.PrintWords Go.Proofs.YtjgfpiilfnchnaaW.PrintLast Go.Proofs.YtjgfpiilfnchnaaW.PrintMore
attribute [local go_sem] max2_int min2_int max_two min_two max_three min_three max_four min_four
set_option linter.unusedVariables false
set_option linter.unusedSimpArgs false
theorem zi_1 {p : Prop} (h : p := by first | rfl | (simp; done) | (simp [*]; done)) : p := h
theorem zi_0 {p : Prop} (h : p := by first | (with_reducible assumption) | assumption) : p := h
set_option maxHeartbeats 8000000 in
set_option maxRecDepth 100000 in
theorem spec_l1Join.calls (k : Nat) (A0 : Option Addr) (c0 : Nat) (l0 : List (List Int)) (a1 : Int) (a2 : Int) (r : Int) (w : World) (hr0 : Kd.C (Kd.slice 3 (Kd.int .i64)) w A0 l0.length l0) (hc0 : l0.length ≤ c0) (h : spec_l1Join.f k l0 a1 a2 = some r) :
  Calls Try.prog 65 #[.slice A0 l0.length c0, .int .i64 a1, .int .i64 a2] w fun e w' => e = .returned (.int .i64 r) ∧ Drawn0 w w' := by
 have HR0 := Aside0.mk hr0
 have k3 := Aside0.mk hc0
 clear hr0 hc0
 have H : (spec_l1Join.l0 k l0 a1 a2 (-1) 0) = some r := h
 clear h
 have H' := Aside0.mk H
 clear H
 go_enter Try.func65, Try.ntmps65
 go_wp2
 go_loopg [7, 8] k (fun kq v7 v8 w' => ∃ (a4 : Int) (a0 : Int), v7 = .int .i64 a4 ∧ v8 = .int .i64 a0 ∧ Aside0 (spec_l1Join.l0 kq l0 a1 a2 a4 a0 = some r) ∧ Aside0 (kq ≤ k) ∧ Drawn0 w w')
 case atStart => exact ⟨((-1)), (0), zi_1, zi_1, H', ⟨Nat.le_refl _⟩, by repeat (first | exact Drawn0.refl _ | apply Drawn0.step)⟩
 case round =>
  clear H'
  try clear p2
  obtain ⟨a4, a0, rfl, rfl, HA, HK1, ⟨m1, rfl⟩⟩ := hrel
  cases gk with
  | zero => exact absurd HA.out (by simp [spec_l1Join.l0])
  | succ k1 =>
   have H := HA.out
   clear HA
   simp only [spec_l1Join.l0] at H
   by_cases c4 : a0 < (l0.length : Int)
   ·
    rw [if_pos c4] at H
    have f7 : decide (a0 < (l0.length : Int)) = true := decide_eq_true c4
    clear c4
    by_cases c5 : 0 ≤ a1
    ·
     rw [if_pos c5] at H
     have i7 : decide (0 ≤ a1) = true := decide_eq_true c5
     clear c5
     by_cases c6 : a1 < (l0.length : Int)
     ·
      rw [if_pos c6] at H
      have i8 : decide (a1 < (l0.length : Int)) = true := decide_eq_true c6
      clear c6
      by_cases c7 : 0 ≤ a0
      ·
       rw [if_pos c7] at H
       have i9 : decide (0 ≤ a0) = true := decide_eq_true c7
       clear c7
       by_cases c8 : a0 < ((rd_L1 l0 a1).length : Int)
       ·
        rw [if_pos c8] at H
        have j0 : decide (a0 < ((rd_L1 l0 a1).length : Int)) = true := decide_eq_true c8
        clear c8
        by_cases c9 : (rd (rd_L1 l0 a1) a0) = 1
        ·
         rw [if_pos c9] at H
         have f8 := bt_ c9
         have f9 := bu_ c9
         clear c9
         by_cases g0 : 0 ≤ a2
         ·
          rw [if_pos g0] at H
          have g1 : decide (0 ≤ a2) = true := decide_eq_true g0
          clear g0
          by_cases g2 : a2 < (l0.length : Int)
          ·
           rw [if_pos g2] at H
           have g3 : decide (a2 < (l0.length : Int)) = true := decide_eq_true g2
           clear g2
           by_cases g4 : a0 < ((rd_L1 l0 a2).length : Int)
           ·
            rw [if_pos g4] at H
            have g5 : decide (a0 < ((rd_L1 l0 a2).length : Int)) = true := decide_eq_true g4
            clear g4
            by_cases e1 : (rd (rd_L1 l0 a2) a0) = 1
            ·
             rw [if_pos e1] at H
             have e2 := bt_ e1
             have e3 := bu_ e1
             clear e1
             by_cases e8 : a4 < 0
             ·
              rw [if_pos e8] at H
              have e4 : decide (a4 < 0) = true := decide_eq_true e8
              clear e8
              have H' := Aside0.mk H
              clear H
              have a5 : 0 ≤ (a1 : Int) := of_decide_eq_true zi_0
              have q455 : a1 < (l0.length : Int) := of_decide_eq_true zi_0
              obtain ⟨ad455, b4, b5, e455, hx455_0, hl455_0, hi455_0⟩ := at_L1 HR0.out a1 a5 q455
              cases e455
              have HR455_0 := Aside0.mk hi455_0
              have b1 := Aside0.mk hl455_0
              clear hi455_0 hl455_0
              replace a5 := eq_true a5
              replace q455 := eq_true q455
              have a6 : 0 ≤ (a0 : Int) := of_decide_eq_true zi_0
              have q456 : a0 < ((rd_L1 l0 a1).length : Int) := of_decide_eq_true zi_0
              obtain ⟨ad456, e456, hx456_0⟩ := Kd.at_int HR455_0.out a0 a6 q456
              cases e456
              replace a6 := eq_true a6
              replace q456 := eq_true q456
              have a7 : 0 ≤ (a2 : Int) := of_decide_eq_true zi_0
              have q457 : a2 < (l0.length : Int) := of_decide_eq_true zi_0
              obtain ⟨ad457, d0, d1, e457, hx457_0, hl457_0, hi457_0⟩ := at_L1 HR0.out a2 a7 q457
              obtain rfl : ad455 = ad457 := (by injection e457)
              have HR457_0 := Aside0.mk hi457_0
              have b6 := Aside0.mk hl457_0
              clear hi457_0 hl457_0
              replace a7 := eq_true a7
              replace q457 := eq_true q457
              have a8 : 0 ≤ (a0 : Int) := of_decide_eq_true zi_0
              have q458 : a0 < ((rd_L1 l0 a2).length : Int) := of_decide_eq_true zi_0
              obtain ⟨ad458, e458, hx458_0⟩ := Kd.at_int HR457_0.out a0 a8 q458
              cases e458
              replace a8 := eq_true a8
              replace q458 := eq_true q458
              go_wp2
              go_roundg k1
              case measure => have := HK1.out; omega
              case rel => exact ⟨(a0), (wrap64 (a0 + 1)), zi_1, zi_1, H', ⟨by have := HK1.out; omega⟩, by repeat (first | exact Drawn0.refl _ | apply Drawn0.step)⟩
             rw [if_neg e8] at H
             have e4 : decide (a4 < 0) = false := decide_eq_false e8
             clear e8
             by_cases g6 : 0 ≤ a4
             ·
              rw [if_pos g6] at H
              have g7 : decide (0 ≤ a4) = true := decide_eq_true g6
              clear g6
              by_cases g8 : a4 < ((rd_L1 l0 a0).length : Int)
              ·
               rw [if_pos g8] at H
               have g9 : decide (a4 < ((rd_L1 l0 a0).length : Int)) = true := decide_eq_true g8
               clear g8
               by_cases e5 : (rd (rd_L1 l0 a0) a4) = 1
               ·
                rw [if_pos e5] at H
                have e6 := bt_ e5
                have e7 := bu_ e5
                clear e5
                have H' := Aside0.mk H
                clear H
                have a5 : 0 ≤ (a1 : Int) := of_decide_eq_true zi_0
                have q455 : a1 < (l0.length : Int) := of_decide_eq_true zi_0
                obtain ⟨ad455, b4, b5, e455, hx455_0, hl455_0, hi455_0⟩ := at_L1 HR0.out a1 a5 q455
                cases e455
                have HR455_0 := Aside0.mk hi455_0
                have b1 := Aside0.mk hl455_0
                clear hi455_0 hl455_0
                replace a5 := eq_true a5
                replace q455 := eq_true q455
                have a6 : 0 ≤ (a0 : Int) := of_decide_eq_true zi_0
                have q456 : a0 < ((rd_L1 l0 a1).length : Int) := of_decide_eq_true zi_0
                obtain ⟨ad456, e456, hx456_0⟩ := Kd.at_int HR455_0.out a0 a6 q456
                cases e456
                replace a6 := eq_true a6
                replace q456 := eq_true q456
                have a7 : 0 ≤ (a2 : Int) := of_decide_eq_true zi_0
                have q457 : a2 < (l0.length : Int) := of_decide_eq_true zi_0
                obtain ⟨ad457, d0, d1, e457, hx457_0, hl457_0, hi457_0⟩ := at_L1 HR0.out a2 a7 q457
                obtain rfl : ad455 = ad457 := (by injection e457)
                have HR457_0 := Aside0.mk hi457_0
                have b6 := Aside0.mk hl457_0
                clear hi457_0 hl457_0
                replace a7 := eq_true a7
                replace q457 := eq_true q457
                have a8 : 0 ≤ (a0 : Int) := of_decide_eq_true zi_0
                have q458 : a0 < ((rd_L1 l0 a2).length : Int) := of_decide_eq_true zi_0
                obtain ⟨ad458, e458, hx458_0⟩ := Kd.at_int HR457_0.out a0 a8 q458
                cases e458
                replace a8 := eq_true a8
                replace q458 := eq_true q458
                have b8 : 0 ≤ (a0 : Int) := of_decide_eq_true zi_0
                have q459 : a0 < (l0.length : Int) := of_decide_eq_true zi_0
                obtain ⟨ad459, e9, f0, e459, hx459_0, hl459_0, hi459_0⟩ := at_L1 HR0.out a0 b8 q459
                obtain rfl : ad455 = ad459 := (by injection e459)
                have HR459_0 := Aside0.mk hi459_0
                have d9 := Aside0.mk hl459_0
                clear hi459_0 hl459_0
                replace b8 := eq_true b8
                replace q459 := eq_true q459
                have b9 : 0 ≤ (a4 : Int) := of_decide_eq_true zi_0
                have q460 : a4 < ((rd_L1 l0 a0).length : Int) := of_decide_eq_true zi_0
                obtain ⟨ad460, e460, hx460_0⟩ := Kd.at_int HR459_0.out a4 b9 q460
                cases e460
                replace b9 := eq_true b9
                replace q460 := eq_true q460
                go_wp2
                go_roundg k1
                case measure => have := HK1.out; omega
                case rel => exact ⟨(a0), (wrap64 (a0 + 1)), zi_1, zi_1, H', ⟨by have := HK1.out; omega⟩, by repeat (first | exact Drawn0.refl _ | apply Drawn0.step)⟩
               rw [if_neg e5] at H
               have e6 := bv_ e5
               have e7 := bw_ e5
               have H' := Aside0.mk H
               clear H
               have a5 : 0 ≤ (a1 : Int) := of_decide_eq_true zi_0
               have q455 : a1 < (l0.length : Int) := of_decide_eq_true zi_0
               obtain ⟨ad455, b4, b5, e455, hx455_0, hl455_0, hi455_0⟩ := at_L1 HR0.out a1 a5 q455
               cases e455
               have HR455_0 := Aside0.mk hi455_0
               have b1 := Aside0.mk hl455_0
               clear hi455_0 hl455_0
               replace a5 := eq_true a5
               replace q455 := eq_true q455
               have a6 : 0 ≤ (a0 : Int) := of_decide_eq_true zi_0
               have q456 : a0 < ((rd_L1 l0 a1).length : Int) := of_decide_eq_true zi_0
               obtain ⟨ad456, e456, hx456_0⟩ := Kd.at_int HR455_0.out a0 a6 q456
               cases e456
               replace a6 := eq_true a6
               replace q456 := eq_true q456
               have a7 : 0 ≤ (a2 : Int) := of_decide_eq_true zi_0
               have q457 : a2 < (l0.length : Int) := of_decide_eq_true zi_0
               obtain ⟨ad457, d0, d1, e457, hx457_0, hl457_0, hi457_0⟩ := at_L1 HR0.out a2 a7 q457
               obtain rfl : ad455 = ad457 := (by injection e457)
               have HR457_0 := Aside0.mk hi457_0
               have b6 := Aside0.mk hl457_0
               clear hi457_0 hl457_0
               replace a7 := eq_true a7
               replace q457 := eq_true q457
               have a8 : 0 ≤ (a0 : Int) := of_decide_eq_true zi_0
               have q458 : a0 < ((rd_L1 l0 a2).length : Int) := of_decide_eq_true zi_0
               obtain ⟨ad458, e458, hx458_0⟩ := Kd.at_int HR457_0.out a0 a8 q458
               cases e458
               replace a8 := eq_true a8
               replace q458 := eq_true q458
               have b8 : 0 ≤ (a0 : Int) := of_decide_eq_true zi_0
               have q459 : a0 < (l0.length : Int) := of_decide_eq_true zi_0
               obtain ⟨ad459, e9, f0, e459, hx459_0, hl459_0, hi459_0⟩ := at_L1 HR0.out a0 b8 q459
               obtain rfl : ad455 = ad459 := (by injection e459)
               have HR459_0 := Aside0.mk hi459_0
               have d9 := Aside0.mk hl459_0
               clear hi459_0 hl459_0
               replace b8 := eq_true b8
               replace q459 := eq_true q459
               have b9 : 0 ≤ (a4 : Int) := of_decide_eq_true zi_0
               have q460 : a4 < ((rd_L1 l0 a0).length : Int) := of_decide_eq_true zi_0
               obtain ⟨ad460, e460, hx460_0⟩ := Kd.at_int HR459_0.out a4 b9 q460
               cases e460
               replace b9 := eq_true b9
               replace q460 := eq_true q460
               go_wp2
               go_roundg k1
               case measure => have := HK1.out; omega
               case rel => exact ⟨(a4), (wrap64 (a0 + 1)), zi_1, zi_1, H', ⟨by have := HK1.out; omega⟩, by repeat (first | exact Drawn0.refl _ | apply Drawn0.step)⟩
              rw [if_neg g8] at H
              exact absurd H (by simp)
             rw [if_neg g6] at H
             exact absurd H (by simp)
            rw [if_neg e1] at H
            have e2 := bv_ e1
            have e3 := bw_ e1
            have H' := Aside0.mk H
            clear H
            have a5 : 0 ≤ (a1 : Int) := of_decide_eq_true zi_0
            have q455 : a1 < (l0.length : Int) := of_decide_eq_true zi_0
            obtain ⟨ad455, b4, b5, e455, hx455_0, hl455_0, hi455_0⟩ := at_L1 HR0.out a1 a5 q455
            cases e455
            have HR455_0 := Aside0.mk hi455_0
            have b1 := Aside0.mk hl455_0
            clear hi455_0 hl455_0
            replace a5 := eq_true a5
            replace q455 := eq_true q455
            have a6 : 0 ≤ (a0 : Int) := of_decide_eq_true zi_0
            have q456 : a0 < ((rd_L1 l0 a1).length : Int) := of_decide_eq_true zi_0
            obtain ⟨ad456, e456, hx456_0⟩ := Kd.at_int HR455_0.out a0 a6 q456
            cases e456
            replace a6 := eq_true a6
            replace q456 := eq_true q456
            have a7 : 0 ≤ (a2 : Int) := of_decide_eq_true zi_0
            have q457 : a2 < (l0.length : Int) := of_decide_eq_true zi_0
            obtain ⟨ad457, d0, d1, e457, hx457_0, hl457_0, hi457_0⟩ := at_L1 HR0.out a2 a7 q457
            obtain rfl : ad455 = ad457 := (by injection e457)
            have HR457_0 := Aside0.mk hi457_0
            have b6 := Aside0.mk hl457_0
            clear hi457_0 hl457_0
            replace a7 := eq_true a7
            replace q457 := eq_true q457
            have a8 : 0 ≤ (a0 : Int) := of_decide_eq_true zi_0
            have q458 : a0 < ((rd_L1 l0 a2).length : Int) := of_decide_eq_true zi_0
            obtain ⟨ad458, e458, hx458_0⟩ := Kd.at_int HR457_0.out a0 a8 q458
            cases e458
            replace a8 := eq_true a8
            replace q458 := eq_true q458
            go_wp2
            go_roundg k1
            case measure => have := HK1.out; omega
            case rel => exact ⟨(a4), (wrap64 (a0 + 1)), zi_1, zi_1, H', ⟨by have := HK1.out; omega⟩, by repeat (first | exact Drawn0.refl _ | apply Drawn0.step)⟩
           rw [if_neg g4] at H
           exact absurd H (by simp)
          rw [if_neg g2] at H
          exact absurd H (by simp)
         rw [if_neg g0] at H
         exact absurd H (by simp)
        rw [if_neg c9] at H
        have f8 := bv_ c9
        have f9 := bw_ c9
        have H' := Aside0.mk H
        clear H
        have a5 : 0 ≤ (a1 : Int) := of_decide_eq_true zi_0
        have q455 : a1 < (l0.length : Int) := of_decide_eq_true zi_0
        obtain ⟨ad455, b4, b5, e455, hx455_0, hl455_0, hi455_0⟩ := at_L1 HR0.out a1 a5 q455
        cases e455
        have HR455_0 := Aside0.mk hi455_0
        have b1 := Aside0.mk hl455_0
        clear hi455_0 hl455_0
        replace a5 := eq_true a5
        replace q455 := eq_true q455
        have a6 : 0 ≤ (a0 : Int) := of_decide_eq_true zi_0
        have q456 : a0 < ((rd_L1 l0 a1).length : Int) := of_decide_eq_true zi_0
        obtain ⟨ad456, e456, hx456_0⟩ := Kd.at_int HR455_0.out a0 a6 q456
        cases e456
        replace a6 := eq_true a6
        replace q456 := eq_true q456
        go_wp2
        go_roundg k1
        case measure => have := HK1.out; omega
        case rel => exact ⟨(a4), (wrap64 (a0 + 1)), zi_1, zi_1, H', ⟨by have := HK1.out; omega⟩, by repeat (first | exact Drawn0.refl _ | apply Drawn0.step)⟩
       rw [if_neg c8] at H
       exact absurd H (by simp)
      rw [if_neg c7] at H
      exact absurd H (by simp)
     rw [if_neg c6] at H
     exact absurd H (by simp)
    rw [if_neg c5] at H
    exact absurd H (by simp)
   rw [if_neg c4] at H
   have f7 : decide (a0 < (l0.length : Int)) = false := decide_eq_false c4
   clear c4
   have H' := Aside0.mk H
   clear H
   go_wp2
   go_loopg [9] k1 (fun kq v9 w' => ∃ (a3 : Int), v9 = .int .i64 a3 ∧ Aside0 (spec_l1Join.l1 kq l0 a1 a2 a4 a3 = some r) ∧ Aside0 (kq ≤ k1) ∧ Drawn0 w w')
   case atStart => exact ⟨(0), zi_1, H', ⟨Nat.le_refl _⟩, by repeat (first | exact Drawn0.refl _ | apply Drawn0.step)⟩
   case round =>
    clear H'
    try clear c1
    try clear p2
    try clear c4
    try clear f7
    try clear p4
    try clear q4
    try clear hx4
    try clear c5
    try clear i7
    try clear c6
    try clear i8
    try clear p6
    try clear c7
    try clear i9
    try clear c8
    try clear j0
    try clear c9
    try clear f8
    try clear f9
    try clear g0
    try clear g1
    try clear g2
    try clear g3
    try clear g4
    try clear g5
    try clear e1
    try clear e2
    try clear e3
    try clear e8
    try clear e4
    try clear g6
    try clear g7
    try clear g8
    try clear g9
    try clear e5
    try clear e6
    try clear e7
    try clear hx455_0
    try clear hx456_0
    try clear hx457_0
    try clear hx458_0
    try clear hx459_0
    try clear hx460_0
    try clear a5
    try clear a6
    try clear a7
    try clear a8
    try clear b8
    try clear b9
    try clear q455
    try clear q456
    try clear q457
    try clear q458
    try clear q459
    try clear q460
    obtain ⟨a3, rfl, HA, HK2, ⟨m2, rfl⟩⟩ := hrel
    cases gk with
    | zero => exact absurd HA.out (by simp [spec_l1Join.l1])
    | succ k2 =>
     have H := HA.out
     clear HA
     simp only [spec_l1Join.l1] at H
     by_cases f6 : a3 < (l0.length : Int)
     ·
      rw [if_pos f6] at H
      have h0 : decide (a3 < (l0.length : Int)) = true := decide_eq_true f6
      clear f6
      by_cases h7 : 0 ≤ a1
      ·
       rw [if_pos h7] at H
       have j1 : decide (0 ≤ a1) = true := decide_eq_true h7
       clear h7
       by_cases h8 : a1 < (l0.length : Int)
       ·
        rw [if_pos h8] at H
        have j2 : decide (a1 < (l0.length : Int)) = true := decide_eq_true h8
        clear h8
        by_cases h9 : 0 ≤ a3
        ·
         rw [if_pos h9] at H
         have j3 : decide (0 ≤ a3) = true := decide_eq_true h9
         clear h9
         by_cases i0 : a3 < ((rd_L1 l0 a1).length : Int)
         ·
          rw [if_pos i0] at H
          have j4 : decide (a3 < ((rd_L1 l0 a1).length : Int)) = true := decide_eq_true i0
          clear i0
          by_cases f1 : (rd (rd_L1 l0 a1) a3) = 1
          ·
           rw [if_pos f1] at H
           have h1 := bt_ f1
           have h2 := bu_ f1
           clear f1
           by_cases i1 : 0 ≤ a2
           ·
            rw [if_pos i1] at H
            have j5 : decide (0 ≤ a2) = true := decide_eq_true i1
            clear i1
            by_cases i2 : a2 < (l0.length : Int)
            ·
             rw [if_pos i2] at H
             have j6 : decide (a2 < (l0.length : Int)) = true := decide_eq_true i2
             clear i2
             by_cases i3 : a3 < ((rd_L1 l0 a2).length : Int)
             ·
              rw [if_pos i3] at H
              have j7 : decide (a3 < ((rd_L1 l0 a2).length : Int)) = true := decide_eq_true i3
              clear i3
              by_cases f2 : (rd (rd_L1 l0 a2) a3) = 1
              ·
               rw [if_pos f2] at H
               have h3 := bt_ f2
               have h4 := bu_ f2
               clear f2
               by_cases i4 : 0 ≤ a4
               ·
                rw [if_pos i4] at H
                have j8 : decide (0 ≤ a4) = true := decide_eq_true i4
                clear i4
                by_cases i5 : a4 < (l0.length : Int)
                ·
                 rw [if_pos i5] at H
                 have j9 : decide (a4 < (l0.length : Int)) = true := decide_eq_true i5
                 clear i5
                 by_cases i6 : a3 < ((rd_L1 l0 a4).length : Int)
                 ·
                  rw [if_pos i6] at H
                  have k0 : decide (a3 < ((rd_L1 l0 a4).length : Int)) = true := decide_eq_true i6
                  clear i6
                  by_cases f3 : (rd (rd_L1 l0 a4) a3) = 0
                  ·
                   rw [if_pos f3] at H
                   have h5 := bt_ f3
                   have h6 := bu_ f3
                   clear f3
                   obtain rfl := Option.some.inj H
                   have a9 : 0 ≤ (a1 : Int) := of_decide_eq_true zi_0
                   have q461 : a1 < (l0.length : Int) := of_decide_eq_true zi_0
                   obtain ⟨ad461, d2, d3, e461, hx461_0, hl461_0, hi461_0⟩ := at_L1 HR0.out a1 a9 q461
                   cases e461
                   have HR461_0 := Aside0.mk hi461_0
                   have b7 := Aside0.mk hl461_0
                   clear hi461_0 hl461_0
                   replace a9 := eq_true a9
                   replace q461 := eq_true q461
                   have b0 : 0 ≤ (a3 : Int) := of_decide_eq_true zi_0
                   have q462 : a3 < ((rd_L1 l0 a1).length : Int) := of_decide_eq_true zi_0
                   obtain ⟨ad462, e462, hx462_0⟩ := Kd.at_int HR461_0.out a3 b0 q462
                   cases e462
                   replace b0 := eq_true b0
                   replace q462 := eq_true q462
                   have b2 : 0 ≤ (a2 : Int) := of_decide_eq_true zi_0
                   have q463 : a2 < (l0.length : Int) := of_decide_eq_true zi_0
                   obtain ⟨ad463, d7, d8, e463, hx463_0, hl463_0, hi463_0⟩ := at_L1 HR0.out a2 b2 q463
                   obtain rfl : ad461 = ad463 := (by injection e463)
                   have HR463_0 := Aside0.mk hi463_0
                   have d6 := Aside0.mk hl463_0
                   clear hi463_0 hl463_0
                   replace b2 := eq_true b2
                   replace q463 := eq_true q463
                   have b3 : 0 ≤ (a3 : Int) := of_decide_eq_true zi_0
                   have q464 : a3 < ((rd_L1 l0 a2).length : Int) := of_decide_eq_true zi_0
                   obtain ⟨ad464, e464, hx464_0⟩ := Kd.at_int HR463_0.out a3 b3 q464
                   cases e464
                   replace b3 := eq_true b3
                   replace q464 := eq_true q464
                   have d4 : 0 ≤ (a4 : Int) := of_decide_eq_true zi_0
                   have q465 : a4 < (l0.length : Int) := of_decide_eq_true zi_0
                   obtain ⟨ad465, f4, f5, e465, hx465_0, hl465_0, hi465_0⟩ := at_L1 HR0.out a4 d4 q465
                   obtain rfl : ad461 = ad465 := (by injection e465)
                   have HR465_0 := Aside0.mk hi465_0
                   have e0 := Aside0.mk hl465_0
                   clear hi465_0 hl465_0
                   replace d4 := eq_true d4
                   replace q465 := eq_true q465
                   have d5 : 0 ≤ (a3 : Int) := of_decide_eq_true zi_0
                   have q466 : a3 < ((rd_L1 l0 a4).length : Int) := of_decide_eq_true zi_0
                   obtain ⟨ad466, e466, hx466_0⟩ := Kd.at_int HR465_0.out a3 d5 q466
                   cases e466
                   replace d5 := eq_true d5
                   replace q466 := eq_true q466
                   go_wp2
                   go_ret
                   exact ⟨by first | rfl | (simp; done) | (simp [*]; done), by repeat (first | exact Drawn0.refl _ | apply Drawn0.step)⟩
                  rw [if_neg f3] at H
                  have h5 := bv_ f3
                  have h6 := bw_ f3
                  have H' := Aside0.mk H
                  clear H
                  have a9 : 0 ≤ (a1 : Int) := of_decide_eq_true zi_0
                  have q461 : a1 < (l0.length : Int) := of_decide_eq_true zi_0
                  obtain ⟨ad461, d2, d3, e461, hx461_0, hl461_0, hi461_0⟩ := at_L1 HR0.out a1 a9 q461
                  cases e461
                  have HR461_0 := Aside0.mk hi461_0
                  have b7 := Aside0.mk hl461_0
                  clear hi461_0 hl461_0
                  replace a9 := eq_true a9
                  replace q461 := eq_true q461
                  have b0 : 0 ≤ (a3 : Int) := of_decide_eq_true zi_0
                  have q462 : a3 < ((rd_L1 l0 a1).length : Int) := of_decide_eq_true zi_0
                  obtain ⟨ad462, e462, hx462_0⟩ := Kd.at_int HR461_0.out a3 b0 q462
                  cases e462
                  replace b0 := eq_true b0
                  replace q462 := eq_true q462
                  have b2 : 0 ≤ (a2 : Int) := of_decide_eq_true zi_0
                  have q463 : a2 < (l0.length : Int) := of_decide_eq_true zi_0
                  obtain ⟨ad463, d7, d8, e463, hx463_0, hl463_0, hi463_0⟩ := at_L1 HR0.out a2 b2 q463
                  obtain rfl : ad461 = ad463 := (by injection e463)
                  have HR463_0 := Aside0.mk hi463_0
                  have d6 := Aside0.mk hl463_0
                  clear hi463_0 hl463_0
                  replace b2 := eq_true b2
                  replace q463 := eq_true q463
                  have b3 : 0 ≤ (a3 : Int) := of_decide_eq_true zi_0
                  have q464 : a3 < ((rd_L1 l0 a2).length : Int) := of_decide_eq_true zi_0
                  obtain ⟨ad464, e464, hx464_0⟩ := Kd.at_int HR463_0.out a3 b3 q464
                  cases e464
                  replace b3 := eq_true b3
                  replace q464 := eq_true q464
                  have d4 : 0 ≤ (a4 : Int) := of_decide_eq_true zi_0
                  have q465 : a4 < (l0.length : Int) := of_decide_eq_true zi_0
                  obtain ⟨ad465, f4, f5, e465, hx465_0, hl465_0, hi465_0⟩ := at_L1 HR0.out a4 d4 q465
                  obtain rfl : ad461 = ad465 := (by injection e465)
                  have HR465_0 := Aside0.mk hi465_0
                  have e0 := Aside0.mk hl465_0
                  clear hi465_0 hl465_0
                  replace d4 := eq_true d4
                  replace q465 := eq_true q465
                  have d5 : 0 ≤ (a3 : Int) := of_decide_eq_true zi_0
                  have q466 : a3 < ((rd_L1 l0 a4).length : Int) := of_decide_eq_true zi_0
                  obtain ⟨ad466, e466, hx466_0⟩ := Kd.at_int HR465_0.out a3 d5 q466
                  cases e466
                  replace d5 := eq_true d5
                  replace q466 := eq_true q466
                  go_wp2
                  go_roundg k2
                  case measure => have := HK1.out; have := HK2.out; omega
                  case rel => exact ⟨(wrap64 (a3 + 1)), zi_1, H', ⟨by have := HK1.out; have := HK2.out; omega⟩, by repeat (first | exact Drawn0.refl _ | apply Drawn0.step)⟩
                 rw [if_neg i6] at H
                 exact absurd H (by simp)
                rw [if_neg i5] at H
                exact absurd H (by simp)
               rw [if_neg i4] at H
               exact absurd H (by simp)
              rw [if_neg f2] at H
              have h3 := bv_ f2
              have h4 := bw_ f2
              have H' := Aside0.mk H
              clear H
              have a9 : 0 ≤ (a1 : Int) := of_decide_eq_true zi_0
              have q461 : a1 < (l0.length : Int) := of_decide_eq_true zi_0
              obtain ⟨ad461, d2, d3, e461, hx461_0, hl461_0, hi461_0⟩ := at_L1 HR0.out a1 a9 q461
              cases e461
              have HR461_0 := Aside0.mk hi461_0
              have b7 := Aside0.mk hl461_0
              clear hi461_0 hl461_0
              replace a9 := eq_true a9
              replace q461 := eq_true q461
              have b0 : 0 ≤ (a3 : Int) := of_decide_eq_true zi_0
              have q462 : a3 < ((rd_L1 l0 a1).length : Int) := of_decide_eq_true zi_0
              obtain ⟨ad462, e462, hx462_0⟩ := Kd.at_int HR461_0.out a3 b0 q462
              cases e462
              replace b0 := eq_true b0
              replace q462 := eq_true q462
              have b2 : 0 ≤ (a2 : Int) := of_decide_eq_true zi_0
              have q463 : a2 < (l0.length : Int) := of_decide_eq_true zi_0
              obtain ⟨ad463, d7, d8, e463, hx463_0, hl463_0, hi463_0⟩ := at_L1 HR0.out a2 b2 q463
              obtain rfl : ad461 = ad463 := (by injection e463)
              have HR463_0 := Aside0.mk hi463_0
              have d6 := Aside0.mk hl463_0
              clear hi463_0 hl463_0
              replace b2 := eq_true b2
              replace q463 := eq_true q463
              have b3 : 0 ≤ (a3 : Int) := of_decide_eq_true zi_0
              have q464 : a3 < ((rd_L1 l0 a2).length : Int) := of_decide_eq_true zi_0
              obtain ⟨ad464, e464, hx464_0⟩ := Kd.at_int HR463_0.out a3 b3 q464
              cases e464
              replace b3 := eq_true b3
              replace q464 := eq_true q464
              go_wp2
              go_roundg k2
              case measure => have := HK1.out; have := HK2.out; omega
              case rel => exact ⟨(wrap64 (a3 + 1)), zi_1, H', ⟨by have := HK1.out; have := HK2.out; omega⟩, by repeat (first | exact Drawn0.refl _ | apply Drawn0.step)⟩
             rw [if_neg i3] at H
             exact absurd H (by simp)
            rw [if_neg i2] at H
            exact absurd H (by simp)
           rw [if_neg i1] at H
           exact absurd H (by simp)
          rw [if_neg f1] at H
          have h1 := bv_ f1
          have h2 := bw_ f1
          have H' := Aside0.mk H
          clear H
          have a9 : 0 ≤ (a1 : Int) := of_decide_eq_true zi_0
          have q461 : a1 < (l0.length : Int) := of_decide_eq_true zi_0
          obtain ⟨ad461, d2, d3, e461, hx461_0, hl461_0, hi461_0⟩ := at_L1 HR0.out a1 a9 q461
          cases e461
          have HR461_0 := Aside0.mk hi461_0
          have b7 := Aside0.mk hl461_0
          clear hi461_0 hl461_0
          replace a9 := eq_true a9
          replace q461 := eq_true q461
          have b0 : 0 ≤ (a3 : Int) := of_decide_eq_true zi_0
          have q462 : a3 < ((rd_L1 l0 a1).length : Int) := of_decide_eq_true zi_0
          obtain ⟨ad462, e462, hx462_0⟩ := Kd.at_int HR461_0.out a3 b0 q462
          cases e462
          replace b0 := eq_true b0
          replace q462 := eq_true q462
          go_wp2
          go_roundg k2
          case measure => have := HK1.out; have := HK2.out; omega
          case rel => exact ⟨(wrap64 (a3 + 1)), zi_1, H', ⟨by have := HK1.out; have := HK2.out; omega⟩, by repeat (first | exact Drawn0.refl _ | apply Drawn0.step)⟩
         rw [if_neg i0] at H
         exact absurd H (by simp)
        rw [if_neg h9] at H
        exact absurd H (by simp)
       rw [if_neg h8] at H
       exact absurd H (by simp)
      rw [if_neg h7] at H
      exact absurd H (by simp)
     rw [if_neg f6] at H
     have h0 : decide (a3 < (l0.length : Int)) = false := decide_eq_false f6
     clear f6
     obtain rfl := Option.some.inj H
     go_wp2
     go_ret
     exact ⟨by first | rfl | (simp; done) | (simp [*]; done), by repeat (first | exact Drawn0.refl _ | apply Drawn0.step)⟩

end Go.Proofs.Ytjgfpiilfnchnaa.P

-- written by gen.py (a program of this session) out of the kit's print of this seat's translation
namespace Go.Proofs.Ytjgfpiilfnchnaa.P
open Go.RowKit Go.Proofs.YtjgfpiilfnchnaaW.PrintWords Go.Proofs.YtjgfpiilfnchnaaW.PrintLast Go.Proofs.YtjgfpiilfnchnaaW.PrintMore
attribute [local go_sem] max2_int min2_int max_two min_two max_three min_three max_four min_four
set_option linter.unusedVariables false
set_option linter.unusedSimpArgs false
theorem zj_3 {p : Prop} (h : p := by have := HK1.out; have := HK2.out; have := HK3.out; first | omega | exact Nat.le_refl _) : p := h
theorem zj_2 {p : Prop} (h : p := by have := HK1.out; have := HK2.out; have := HK3.out; have := e2.out; have := HK5.out; omega) : p := h
theorem zj_1 {p : Prop} (h : p := by first | rfl | (simp; done) | (simp [*]; done)) : p := h
theorem zj_0 {p : Prop} (h : p := by first | (with_reducible assumption) | assumption) : p := h
set_option maxHeartbeats 8000000 in
set_option maxRecDepth 100000 in
theorem spec_OrderOk.calls (k : Nat) (A0 : Option Addr) (c0 : Nat) (l0 : List (List Int)) (r : Bool) (w : World) (hr0 : Kd.C (Kd.slice 3 (Kd.int .i64)) w A0 l0.length l0) (hc0 : l0.length ≤ c0) (h : spec_OrderOk.f k l0 = some r) :
  Calls Try.prog 86 #[.slice A0 l0.length c0] w fun e w' => e = .returned (.bool r) ∧ Drawn0 w w' := by
 have HR0 := Aside0.mk hr0
 have q2 := Aside0.mk hc0
 clear hr0 hc0
 have H : ((spec_l1In.f (l0.length : Int) 1 12).bind fun i1 => (if i1 = true then (spec_OrderOk.l0 k l0 (l0.length : Int) 0) else (some false))) = some r := h
 clear h
 obtain ⟨i1, A2, H⟩ := bd_ H
 try dsimp only at H
 by_cases c3 : i1 = true
 ·
  subst c3
  rw [if_pos rfl] at H
  have H' := Aside0.mk H
  clear H
  go_enter Try.func86, Try.ntmps86
  go_wp2_with (first | ((with_reducible refine gate_callee (f := 58) rfl ?_); refine gl_ (some 12) Try.func58 #[.int .i64 (l0.length : Int), .int .i64 1, .int .i64 12] ?_; (with_reducible refine (spec_l1In.calls (l0.length : Int) 1 12 true _ A2.out).mono ?_); rintro e w' ⟨rfl, ⟨nd, rfl⟩⟩; refine ⟨_, rfl, ?_⟩))
  go_loopg [4] k (fun kq v4 w' => ∃ (a2 : Int), v4 = .int .i64 a2 ∧ Aside0 (spec_OrderOk.l0 kq l0 (l0.length : Int) a2 = some r) ∧ Aside0 (kq ≤ k) ∧ Drawn0 w w')
  case atStart => exact ⟨(0), zj_1, H', ⟨Nat.le_refl _⟩, by repeat (first | exact Drawn0.refl _ | apply Drawn0.step)⟩
  case round =>
   clear H'
   try clear p2
   try clear c3
   obtain ⟨a2, rfl, HA, HK1, ⟨m1, rfl⟩⟩ := hrel
   cases gk with
   | zero => exact absurd HA.out (by simp [spec_OrderOk.l0])
   | succ k1 =>
    have H := HA.out
    clear HA
    simp only [spec_OrderOk.l0] at H
    by_cases c4 : a2 < (l0.length : Int)
    ·
     rw [if_pos c4] at H
     have d8 : decide (a2 < (l0.length : Int)) = true := decide_eq_true c4
     clear c4
     by_cases c5 : 0 ≤ a2
     ·
      rw [if_pos c5] at H
      have e3 : decide (0 ≤ a2) = true := decide_eq_true c5
      clear c5
      by_cases c6 : a2 < (l0.length : Int)
      ·
       rw [if_pos c6] at H
       have e4 : decide (a2 < (l0.length : Int)) = true := decide_eq_true c6
       clear c6
       by_cases c7 : ((rd_L1 l0 a2).length : Int) = (l0.length : Int)
       ·
        rw [if_pos c7] at H
        have d9 := bt_ c7
        have e0 := bu_ c7
        have e1 : ((rd_L1 l0 a2).length == l0.length) = true := by first | simpa using c7 | (simp at c7 ⊢; omega)
        clear c7
        have H' := Aside0.mk H
        clear H
        have a7 : 0 ≤ (a2 : Int) := of_decide_eq_true zj_0
        have q468 : a2 < (l0.length : Int) := of_decide_eq_true zj_0
        obtain ⟨ad468, i2, i3, e468, hx468_0, hl468_0, hi468_0⟩ := at_L1 HR0.out a2 a7 q468
        cases e468
        have HR468_0 := Aside0.mk hi468_0
        have f6 := Aside0.mk hl468_0
        clear hi468_0 hl468_0
        replace a7 := eq_true a7
        replace q468 := eq_true q468
        go_wp2
        go_loopg [5] k1 (fun kq v5 w' => ∃ (a4 : Int), v5 = .int .i64 a4 ∧ Aside0 (spec_OrderOk.l1 kq l0 (l0.length : Int) a2 a4 = some r) ∧ Aside0 (kq ≤ k1) ∧ Drawn0 w w')
        case atStart => exact ⟨(0), zj_1, H', ⟨Nat.le_refl _⟩, by repeat (first | exact Drawn0.refl _ | apply Drawn0.step)⟩
        case round =>
         clear H'
         try clear p2
         try clear c3
         try clear c4
         try clear d8
         try clear p4
         try clear q4
         try clear hx4
         try clear c5
         try clear e3
         try clear c6
         try clear e4
         try clear c7
         try clear d9
         try clear e0
         try clear e1
         try clear hx468_0
         try clear a7
         try clear q468
         obtain ⟨a4, rfl, HA, HK2, ⟨m2, rfl⟩⟩ := hrel
         cases gk with
         | zero => exact absurd HA.out (by simp [spec_OrderOk.l1])
         | succ k2 =>
          have H := HA.out
          clear HA
          simp only [spec_OrderOk.l1] at H
          by_cases c8 : a4 < (l0.length : Int)
          ·
           rw [if_pos c8] at H
           have e5 : decide (a4 < (l0.length : Int)) = true := decide_eq_true c8
           clear c8
           by_cases c9 : 0 ≤ a2
           ·
            rw [if_pos c9] at H
            have f7 : decide (0 ≤ a2) = true := decide_eq_true c9
            clear c9
            by_cases g6 : a2 < (l0.length : Int)
            ·
             rw [if_pos g6] at H
             have d3 : decide (a2 < (l0.length : Int)) = true := decide_eq_true g6
             clear g6
             by_cases g7 : 0 ≤ a4
             ·
              rw [if_pos g7] at H
              have d4 : decide (0 ≤ a4) = true := decide_eq_true g7
              clear g7
              by_cases g8 : a4 < ((rd_L1 l0 a2).length : Int)
              ·
               rw [if_pos g8] at H
               have d5 : decide (a4 < ((rd_L1 l0 a2).length : Int)) = true := decide_eq_true g8
               clear g8
               obtain ⟨n9, o2, H⟩ := bd_ H
               try dsimp only at H
               by_cases g9 : n9 = true
               ·
                subst g9
                rw [if_pos rfl] at H
                have H' := Aside0.mk H
                clear H
                have a8 : 0 ≤ (a2 : Int) := of_decide_eq_true zj_0
                have q469 : a2 < (l0.length : Int) := of_decide_eq_true zj_0
                obtain ⟨ad469, i4, i5, e469, hx469_0, hl469_0, hi469_0⟩ := at_L1 HR0.out a2 a8 q469
                obtain rfl : ad468 = ad469 := (by injection e469)
                have HR469_0 := Aside0.mk hi469_0
                have f8 := Aside0.mk hl469_0
                clear hi469_0 hl469_0
                replace a8 := eq_true a8
                replace q469 := eq_true q469
                have a9 : 0 ≤ (a4 : Int) := of_decide_eq_true zj_0
                have q470 : a4 < ((rd_L1 l0 a2).length : Int) := of_decide_eq_true zj_0
                obtain ⟨ad470, e470, hx470_0⟩ := Kd.at_int HR469_0.out a4 a9 q470
                cases e470
                replace a9 := eq_true a9
                replace q470 := eq_true q470
                go_wp2_with (first | ((with_reducible refine gate_callee (f := 58) rfl ?_); refine gl_ (some 38) Try.func58 #[.int .i64 (rd (rd_L1 l0 a2) a4), .int .i64 0, .int .i64 1] ?_; (with_reducible refine (spec_l1In.calls (rd (rd_L1 l0 a2) a4) 0 1 true _ o2.out).mono ?_); rintro e w' ⟨rfl, ⟨nd, rfl⟩⟩; refine ⟨_, rfl, ?_⟩))
                go_roundg k2
                case measure => have := HK1.out; have := HK2.out; omega
                case rel => exact ⟨(wrap64 (a4 + 1)), zj_1, H', ⟨by have := HK1.out; have := HK2.out; omega⟩, by repeat (first | exact Drawn0.refl _ | apply Drawn0.step)⟩
               replace g9 := Bool.eq_false_iff.mpr g9
               subst g9
               rw [if_neg nf_] at H
               obtain rfl := Option.some.inj H
               have a8 : 0 ≤ (a2 : Int) := of_decide_eq_true zj_0
               have q469 : a2 < (l0.length : Int) := of_decide_eq_true zj_0
               obtain ⟨ad469, i4, i5, e469, hx469_0, hl469_0, hi469_0⟩ := at_L1 HR0.out a2 a8 q469
               obtain rfl : ad468 = ad469 := (by injection e469)
               have HR469_0 := Aside0.mk hi469_0
               have f8 := Aside0.mk hl469_0
               clear hi469_0 hl469_0
               replace a8 := eq_true a8
               replace q469 := eq_true q469
               have a9 : 0 ≤ (a4 : Int) := of_decide_eq_true zj_0
               have q470 : a4 < ((rd_L1 l0 a2).length : Int) := of_decide_eq_true zj_0
               obtain ⟨ad470, e470, hx470_0⟩ := Kd.at_int HR469_0.out a4 a9 q470
               cases e470
               replace a9 := eq_true a9
               replace q470 := eq_true q470
               go_wp2_with (first | ((with_reducible refine gate_callee (f := 58) rfl ?_); refine gl_ (some 38) Try.func58 #[.int .i64 (rd (rd_L1 l0 a2) a4), .int .i64 0, .int .i64 1] ?_; (with_reducible refine (spec_l1In.calls (rd (rd_L1 l0 a2) a4) 0 1 false _ o2.out).mono ?_); rintro e w' ⟨rfl, ⟨nd, rfl⟩⟩; refine ⟨_, rfl, ?_⟩))
               go_ret
               exact ⟨by first | rfl | (simp; done) | (simp [*]; done), by repeat (first | exact Drawn0.refl _ | apply Drawn0.step)⟩
              rw [if_neg g8] at H
              exact absurd H (by simp)
             rw [if_neg g7] at H
             exact absurd H (by simp)
            rw [if_neg g6] at H
            exact absurd H (by simp)
           rw [if_neg c9] at H
           exact absurd H (by simp)
          rw [if_neg c8] at H
          have e5 : decide (a4 < (l0.length : Int)) = false := decide_eq_false c8
          clear c8
          have H' := Aside0.mk H
          clear H
          go_wp2
          go_roundg k2
          case measure => have := HK1.out; have := HK2.out; omega
          case rel => exact ⟨(wrap64 (a2 + 1)), zj_1, H', ⟨by have := HK1.out; have := HK2.out; omega⟩, by repeat (first | exact Drawn0.refl _ | apply Drawn0.step)⟩
       rw [if_neg c7] at H
       have d9 := bv_ c7
       have e0 := bw_ c7
       have e1 : ((rd_L1 l0 a2).length == l0.length) = false := by first | simpa using c7 | (simp at c7 ⊢; omega)
       obtain rfl := Option.some.inj H
       have a7 : 0 ≤ (a2 : Int) := of_decide_eq_true zj_0
       have q468 : a2 < (l0.length : Int) := of_decide_eq_true zj_0
       obtain ⟨ad468, i2, i3, e468, hx468_0, hl468_0, hi468_0⟩ := at_L1 HR0.out a2 a7 q468
       cases e468
       have HR468_0 := Aside0.mk hi468_0
       have f6 := Aside0.mk hl468_0
       clear hi468_0 hl468_0
       replace a7 := eq_true a7
       replace q468 := eq_true q468
       go_wp2
       go_ret
       exact ⟨by first | rfl | (simp; done) | (simp [*]; done), by repeat (first | exact Drawn0.refl _ | apply Drawn0.step)⟩
      rw [if_neg c6] at H
      exact absurd H (by simp)
     rw [if_neg c5] at H
     exact absurd H (by simp)
    rw [if_neg c4] at H
    have d8 : decide (a2 < (l0.length : Int)) = false := decide_eq_false c4
    clear c4
    have H' := Aside0.mk H
    clear H
    go_wp2
    go_loopg [6] k1 (fun kq v6 w' => ∃ (a0 : Int), v6 = .int .i64 a0 ∧ Aside0 (spec_OrderOk.l2 kq l0 (l0.length : Int) a0 = some r) ∧ Aside0 (kq ≤ k1) ∧ Drawn0 w w')
    case atStart => exact ⟨(0), zj_1, H', ⟨Nat.le_refl _⟩, by repeat (first | exact Drawn0.refl _ | apply Drawn0.step)⟩
    case round =>
     clear H'
     try clear c1
     try clear p2
     try clear c3
     try clear c4
     try clear d8
     try clear p4
     try clear q4
     try clear hx4
     try clear c5
     try clear e3
     try clear c6
     try clear e4
     try clear p6
     try clear c7
     try clear d9
     try clear e0
     try clear e1
     try clear c8
     try clear e5
     try clear c9
     try clear f7
     try clear g6
     try clear d3
     try clear g7
     try clear d4
     try clear g8
     try clear d5
     try clear g9
     try clear hx468_0
     try clear hx469_0
     try clear hx470_0
     try clear a7
     try clear a8
     try clear a9
     try clear q468
     try clear q469
     try clear q470
     obtain ⟨a0, rfl, HA, HK2, ⟨m2, rfl⟩⟩ := hrel
     cases gk with
     | zero => exact absurd HA.out (by simp [spec_OrderOk.l2])
     | succ k2 =>
      have H := HA.out
      clear HA
      simp only [spec_OrderOk.l2] at H
      by_cases f9 : a0 < (l0.length : Int)
      ·
       rw [if_pos f9] at H
       have d6 : decide (a0 < (l0.length : Int)) = true := decide_eq_true f9
       clear f9
       have H' := Aside0.mk H
       clear H
       go_wp2
       go_loopg [7] k2 (fun kq v7 w' => ∃ (a1 : Int), v7 = .int .i64 a1 ∧ Aside0 (spec_OrderOk.l3 kq l0 (l0.length : Int) a0 a1 = some r) ∧ Aside0 (kq ≤ k2) ∧ Drawn0 w w')
       case atStart => exact ⟨(0), zj_1, H', ⟨Nat.le_refl _⟩, by repeat (first | exact Drawn0.refl _ | apply Drawn0.step)⟩
       case round =>
        clear H'
        try clear c1
        try clear p2
        try clear c3
        try clear c4
        try clear d8
        try clear p4
        try clear q4
        try clear hx4
        try clear c5
        try clear e3
        try clear c6
        try clear e4
        try clear p6
        try clear c7
        try clear d9
        try clear e0
        try clear e1
        try clear c8
        try clear e5
        try clear c9
        try clear f7
        try clear g6
        try clear d3
        try clear g7
        try clear d4
        try clear g8
        try clear d5
        try clear g9
        try clear f9
        try clear d6
        try clear hx468_0
        try clear hx469_0
        try clear hx470_0
        try clear a7
        try clear a8
        try clear a9
        try clear q468
        try clear q469
        try clear q470
        obtain ⟨a1, rfl, HA, HK3, ⟨m3, rfl⟩⟩ := hrel
        cases gk with
        | zero => exact absurd HA.out (by simp [spec_OrderOk.l3])
        | succ k3 =>
         have H := HA.out
         clear HA
         simp only [spec_OrderOk.l3] at H
         by_cases h0 : a1 < (l0.length : Int)
         ·
          rw [if_pos h0] at H
          have e6 : decide (a1 < (l0.length : Int)) = true := decide_eq_true h0
          clear h0
          have i6 := Aside0.mk H
          clear H
          go_upto_region 20 with (fail)
          go_cut [87] (fun q1 wc => ∃ (kq : Nat) (b3 : Bool), q1 = .bool b3 ∧ Aside0 (spec_OrderOk.j4 kq l0 (l0.length : Int) a0 a1 b3 = some r) ∧ Aside0 (kq ≤ k3) ∧ Drawn0 w wc)
          case first =>
           have H := i6.out
           clear i6
           by_cases g0 : a0 = a1
           ·
            rw [if_pos g0] at H
            have b0 := bt_ g0
            have e7 := bu_ g0
            clear g0
            (first | rw [b0] | (simp only [i64_w, i32_w]; rw [b0]) | skip)
            by_cases j7 : 0 ≤ a0
            ·
             rw [if_pos j7] at H
             have h1 : decide (0 ≤ a0) = true := decide_eq_true j7
             clear j7
             by_cases j8 : a0 < (l0.length : Int)
             ·
              rw [if_pos j8] at H
              have h2 : decide (a0 < (l0.length : Int)) = true := decide_eq_true j8
              clear j8
              by_cases j9 : 0 ≤ a1
              ·
               rw [if_pos j9] at H
               have h3 : decide (0 ≤ a1) = true := decide_eq_true j9
               clear j9
               by_cases k0 : a1 < ((rd_L1 l0 a0).length : Int)
               ·
                rw [if_pos k0] at H
                have h4 : decide (a1 < ((rd_L1 l0 a0).length : Int)) = true := decide_eq_true k0
                clear k0
                by_cases g1 : (rd (rd_L1 l0 a0) a1) = 0
                ·
                 rw [if_pos g1] at H
                 have e8 := bt_ g1
                 have e9 := bu_ g1
                 clear g1
                 have H' := Aside0.mk H
                 clear H
                 have b4 : 0 ≤ (a0 : Int) := of_decide_eq_true zj_0
                 have q472 : a0 < (l0.length : Int) := of_decide_eq_true zj_0
                 obtain ⟨ad472, i7, i8, e472, hx472_0, hl472_0, hi472_0⟩ := at_L1 HR0.out a0 b4 q472
                 cases e472
                 have HR472_0 := Aside0.mk hi472_0
                 have g2 := Aside0.mk hl472_0
                 clear hi472_0 hl472_0
                 replace b4 := eq_true b4
                 replace q472 := eq_true q472
                 have b5 : 0 ≤ (a1 : Int) := of_decide_eq_true zj_0
                 have q473 : a1 < ((rd_L1 l0 a0).length : Int) := of_decide_eq_true zj_0
                 obtain ⟨ad473, e473, hx473_0⟩ := Kd.at_int HR472_0.out a1 b5 q473
                 cases e473
                 replace b5 := eq_true b5
                 replace q473 := eq_true q473
                 go_wp2
                 go_meet
                 case rel => exact ⟨_, (true), zj_1, H', ⟨zj_3⟩, by repeat (first | exact Drawn0.refl _ | apply Drawn0.step)⟩
                rw [if_neg g1] at H
                have e8 := bv_ g1
                have e9 := bw_ g1
                have H' := Aside0.mk H
                clear H
                have b4 : 0 ≤ (a0 : Int) := of_decide_eq_true zj_0
                have q472 : a0 < (l0.length : Int) := of_decide_eq_true zj_0
                obtain ⟨ad472, i7, i8, e472, hx472_0, hl472_0, hi472_0⟩ := at_L1 HR0.out a0 b4 q472
                cases e472
                have HR472_0 := Aside0.mk hi472_0
                have g2 := Aside0.mk hl472_0
                clear hi472_0 hl472_0
                replace b4 := eq_true b4
                replace q472 := eq_true q472
                have b5 : 0 ≤ (a1 : Int) := of_decide_eq_true zj_0
                have q473 : a1 < ((rd_L1 l0 a0).length : Int) := of_decide_eq_true zj_0
                obtain ⟨ad473, e473, hx473_0⟩ := Kd.at_int HR472_0.out a1 b5 q473
                cases e473
                replace b5 := eq_true b5
                replace q473 := eq_true q473
                go_wp2
                go_meet
                case rel => exact ⟨_, (false), zj_1, H', ⟨zj_3⟩, by repeat (first | exact Drawn0.refl _ | apply Drawn0.step)⟩
               rw [if_neg k0] at H
               exact absurd H (by simp)
              rw [if_neg j9] at H
              exact absurd H (by simp)
             rw [if_neg j8] at H
             exact absurd H (by simp)
            rw [if_neg j7] at H
            exact absurd H (by simp)
           rw [if_neg g0] at H
           have b0 := bv_ g0
           have e7 := bw_ g0
           (first | rw [b0] | (simp only [i64_w, i32_w]; rw [b0]) | skip)
           by_cases k4 : 0 ≤ a0
           ·
            rw [if_pos k4] at H
            have h5 : decide (0 ≤ a0) = true := decide_eq_true k4
            clear k4
            by_cases k6 : a0 < (l0.length : Int)
            ·
             rw [if_pos k6] at H
             have h6 : decide (a0 < (l0.length : Int)) = true := decide_eq_true k6
             clear k6
             by_cases k7 : 0 ≤ a1
             ·
              rw [if_pos k7] at H
              have h7 : decide (0 ≤ a1) = true := decide_eq_true k7
              clear k7
              by_cases k8 : a1 < ((rd_L1 l0 a0).length : Int)
              ·
               rw [if_pos k8] at H
               have h8 : decide (a1 < ((rd_L1 l0 a0).length : Int)) = true := decide_eq_true k8
               clear k8
               by_cases g3 : (rd (rd_L1 l0 a0) a1) = 1
               ·
                rw [if_pos g3] at H
                have f0 := bt_ g3
                have f1 := bu_ g3
                clear g3
                by_cases k9 : a1 < (l0.length : Int)
                ·
                 rw [if_pos k9] at H
                 have h9 : decide (a1 < (l0.length : Int)) = true := decide_eq_true k9
                 clear k9
                 by_cases l5 : a0 < ((rd_L1 l0 a1).length : Int)
                 ·
                  rw [if_pos l5] at H
                  have i0 : decide (a0 < ((rd_L1 l0 a1).length : Int)) = true := decide_eq_true l5
                  clear l5
                  have H' := Aside0.mk H
                  clear H
                  have b6 : 0 ≤ (a0 : Int) := of_decide_eq_true zj_0
                  have q474 : a0 < (l0.length : Int) := of_decide_eq_true zj_0
                  obtain ⟨ad474, i9, j0, e474, hx474_0, hl474_0, hi474_0⟩ := at_L1 HR0.out a0 b6 q474
                  cases e474
                  have HR474_0 := Aside0.mk hi474_0
                  have g4 := Aside0.mk hl474_0
                  clear hi474_0 hl474_0
                  replace b6 := eq_true b6
                  replace q474 := eq_true q474
                  have b7 : 0 ≤ (a1 : Int) := of_decide_eq_true zj_0
                  have q475 : a1 < ((rd_L1 l0 a0).length : Int) := of_decide_eq_true zj_0
                  obtain ⟨ad475, e475, hx475_0⟩ := Kd.at_int HR474_0.out a1 b7 q475
                  cases e475
                  replace b7 := eq_true b7
                  replace q475 := eq_true q475
                  have f2 : 0 ≤ (a1 : Int) := of_decide_eq_true zj_0
                  have q476 : a1 < (l0.length : Int) := of_decide_eq_true zj_0
                  obtain ⟨ad476, o0, o1, e476, hx476_0, hl476_0, hi476_0⟩ := at_L1 HR0.out a1 f2 q476
                  obtain rfl : ad474 = ad476 := (by injection e476)
                  have HR476_0 := Aside0.mk hi476_0
                  have n0 := Aside0.mk hl476_0
                  clear hi476_0 hl476_0
                  replace f2 := eq_true f2
                  replace q476 := eq_true q476
                  have f3 : 0 ≤ (a0 : Int) := of_decide_eq_true zj_0
                  have q477 : a0 < ((rd_L1 l0 a1).length : Int) := of_decide_eq_true zj_0
                  obtain ⟨ad477, e477, hx477_0⟩ := Kd.at_int HR476_0.out a0 f3 q477
                  cases e477
                  replace f3 := eq_true f3
                  replace q477 := eq_true q477
                  go_wp2
                  go_meet
                  case rel => exact ⟨_, (((rd (rd_L1 l0 a1) a0) == 1)), zj_1, H', ⟨zj_3⟩, by repeat (first | exact Drawn0.refl _ | apply Drawn0.step)⟩
                 rw [if_neg l5] at H
                 exact absurd H (by simp)
                rw [if_neg k9] at H
                exact absurd H (by simp)
               rw [if_neg g3] at H
               have f0 := bv_ g3
               have f1 := bw_ g3
               have H' := Aside0.mk H
               clear H
               have b6 : 0 ≤ (a0 : Int) := of_decide_eq_true zj_0
               have q474 : a0 < (l0.length : Int) := of_decide_eq_true zj_0
               obtain ⟨ad474, i9, j0, e474, hx474_0, hl474_0, hi474_0⟩ := at_L1 HR0.out a0 b6 q474
               cases e474
               have HR474_0 := Aside0.mk hi474_0
               have g4 := Aside0.mk hl474_0
               clear hi474_0 hl474_0
               replace b6 := eq_true b6
               replace q474 := eq_true q474
               have b7 : 0 ≤ (a1 : Int) := of_decide_eq_true zj_0
               have q475 : a1 < ((rd_L1 l0 a0).length : Int) := of_decide_eq_true zj_0
               obtain ⟨ad475, e475, hx475_0⟩ := Kd.at_int HR474_0.out a1 b7 q475
               cases e475
               replace b7 := eq_true b7
               replace q475 := eq_true q475
               go_wp2
               go_meet
               case rel => exact ⟨_, (false), zj_1, H', ⟨zj_3⟩, by repeat (first | exact Drawn0.refl _ | apply Drawn0.step)⟩
              rw [if_neg k8] at H
              exact absurd H (by simp)
             rw [if_neg k7] at H
             exact absurd H (by simp)
            rw [if_neg k6] at H
            exact absurd H (by simp)
           rw [if_neg k4] at H
           exact absurd H (by simp)
          case rest =>
           clear i6
           try clear c1
           try clear c2
           try clear p2
           try clear c3
           try clear c4
           try clear d8
           try clear p4
           try clear q4
           try clear hx4
           try clear c5
           try clear e3
           try clear c6
           try clear e4
           try clear p6
           try clear c7
           try clear d9
           try clear e0
           try clear e1
           try clear c8
           try clear e5
           try clear c9
           try clear f7
           try clear g6
           try clear d3
           try clear g7
           try clear d4
           try clear g8
           try clear d5
           try clear g9
           try clear f9
           try clear d6
           try clear h0
           try clear e6
           try clear g0
           try clear b0
           try clear e7
           try clear j7
           try clear h1
           try clear j8
           try clear h2
           try clear j9
           try clear h3
           try clear k0
           try clear h4
           try clear g1
           try clear e8
           try clear e9
           try clear k4
           try clear h5
           try clear k6
           try clear h6
           try clear k7
           try clear h7
           try clear k8
           try clear h8
           try clear g3
           try clear f0
           try clear f1
           try clear k9
           try clear h9
           try clear l5
           try clear i0
           try clear hx468_0
           try clear hx469_0
           try clear hx470_0
           try clear hx472_0
           try clear hx473_0
           try clear hx474_0
           try clear hx475_0
           try clear hx476_0
           try clear hx477_0
           try clear a7
           try clear a8
           try clear a9
           try clear b4
           try clear b5
           try clear b6
           try clear b7
           try clear f2
           try clear f3
           try clear q468
           try clear q469
           try clear q470
           try clear q472
           try clear q473
           try clear q474
           try clear q475
           try clear q476
           try clear q477
           obtain ⟨kq, b3, rfl, HA, e2, ⟨mc16, rfl⟩⟩ := hcut
           cases kq with
           | zero => exact absurd HA.out (by simp [spec_OrderOk.j4])
           | succ l7 =>
            have H := HA.out
            clear HA
            simp only [spec_OrderOk.j4] at H
            by_cases l8 : b3 = true
            ·
             subst l8
             rw [if_pos rfl] at H
             obtain rfl := Option.some.inj H
             go_wp2
             go_ret
             exact ⟨by first | rfl | (simp; done) | (simp [*]; done), by repeat (first | exact Drawn0.refl _ | apply Drawn0.step)⟩
            replace l8 := Bool.eq_false_iff.mpr l8
            subst l8
            rw [if_neg nf_] at H
            have H' := Aside0.mk H
            clear H
            go_wp2
            go_loopg [8] l7 (fun kq v8 w' => ∃ (a3 : Int), v8 = .int .i64 a3 ∧ Aside0 (spec_OrderOk.l4 kq l0 (l0.length : Int) a0 a1 a3 = some r) ∧ Aside0 (kq ≤ l7) ∧ Drawn0 w w')
            case atStart => exact ⟨(0), zj_1, H', ⟨Nat.le_refl _⟩, by repeat (first | exact Drawn0.refl _ | apply Drawn0.step)⟩
            case round =>
             clear H'
             try clear c1
             try clear c2
             try clear p2
             try clear c3
             try clear c4
             try clear d8
             try clear p4
             try clear q4
             try clear hx4
             try clear c5
             try clear e3
             try clear c6
             try clear e4
             try clear p6
             try clear c7
             try clear d9
             try clear e0
             try clear e1
             try clear c8
             try clear e5
             try clear c9
             try clear f7
             try clear g6
             try clear d3
             try clear g7
             try clear d4
             try clear g8
             try clear d5
             try clear g9
             try clear f9
             try clear d6
             try clear h0
             try clear e6
             try clear g0
             try clear b0
             try clear e7
             try clear j7
             try clear h1
             try clear j8
             try clear h2
             try clear j9
             try clear h3
             try clear k0
             try clear h4
             try clear g1
             try clear e8
             try clear e9
             try clear k4
             try clear h5
             try clear k6
             try clear h6
             try clear k7
             try clear h7
             try clear k8
             try clear h8
             try clear g3
             try clear f0
             try clear f1
             try clear k9
             try clear h9
             try clear l5
             try clear i0
             try clear l8
             try clear hx468_0
             try clear hx469_0
             try clear hx470_0
             try clear hx472_0
             try clear hx473_0
             try clear hx474_0
             try clear hx475_0
             try clear hx476_0
             try clear hx477_0
             try clear a7
             try clear a8
             try clear a9
             try clear b4
             try clear b5
             try clear b6
             try clear b7
             try clear f2
             try clear f3
             try clear q468
             try clear q469
             try clear q470
             try clear q472
             try clear q473
             try clear q474
             try clear q475
             try clear q476
             try clear q477
             obtain ⟨a3, rfl, HA, HK5, ⟨m5, rfl⟩⟩ := hrel
             cases gk with
             | zero => exact absurd HA.out (by simp [spec_OrderOk.l4])
             | succ k5 =>
              have H := HA.out
              clear HA
              simp only [spec_OrderOk.l4] at H
              by_cases l6 : a3 < (l0.length : Int)
              ·
               rw [if_pos l6] at H
               have l9 : decide (a3 < (l0.length : Int)) = true := decide_eq_true l6
               clear l6
               by_cases n1 : 0 ≤ a0
               ·
                rw [if_pos n1] at H
                have o3 : decide (0 ≤ a0) = true := decide_eq_true n1
                clear n1
                by_cases n2 : a0 < (l0.length : Int)
                ·
                 rw [if_pos n2] at H
                 have o4 : decide (a0 < (l0.length : Int)) = true := decide_eq_true n2
                 clear n2
                 by_cases n3 : 0 ≤ a1
                 ·
                  rw [if_pos n3] at H
                  have o5 : decide (0 ≤ a1) = true := decide_eq_true n3
                  clear n3
                  by_cases n4 : a1 < ((rd_L1 l0 a0).length : Int)
                  ·
                   rw [if_pos n4] at H
                   have o6 : decide (a1 < ((rd_L1 l0 a0).length : Int)) = true := decide_eq_true n4
                   clear n4
                   by_cases j1 : (rd (rd_L1 l0 a0) a1) = 1
                   ·
                    rw [if_pos j1] at H
                    have m0 := bt_ j1
                    have m4 := bu_ j1
                    clear j1
                    by_cases n5 : a1 < (l0.length : Int)
                    ·
                     rw [if_pos n5] at H
                     have o7 : decide (a1 < (l0.length : Int)) = true := decide_eq_true n5
                     clear n5
                     by_cases n6 : 0 ≤ a3
                     ·
                      rw [if_pos n6] at H
                      have o8 : decide (0 ≤ a3) = true := decide_eq_true n6
                      clear n6
                      by_cases n7 : a3 < ((rd_L1 l0 a1).length : Int)
                      ·
                       rw [if_pos n7] at H
                       have o9 : decide (a3 < ((rd_L1 l0 a1).length : Int)) = true := decide_eq_true n7
                       clear n7
                       by_cases j2 : (rd (rd_L1 l0 a1) a3) = 1
                       ·
                        rw [if_pos j2] at H
                        have m6 := bt_ j2
                        have m7 := bu_ j2
                        clear j2
                        by_cases n8 : a3 < ((rd_L1 l0 a0).length : Int)
                        ·
                         rw [if_pos n8] at H
                         have q0 : decide (a3 < ((rd_L1 l0 a0).length : Int)) = true := decide_eq_true n8
                         clear n8
                         by_cases j3 : (rd (rd_L1 l0 a0) a3) = 0
                         ·
                          rw [if_pos j3] at H
                          have m8 := bt_ j3
                          have m9 := bu_ j3
                          clear j3
                          obtain rfl := Option.some.inj H
                          have a5 : 0 ≤ (a0 : Int) := of_decide_eq_true zj_0
                          have q478 : a0 < (l0.length : Int) := of_decide_eq_true zj_0
                          obtain ⟨ad478, b9, d0, e478, hx478_0, hl478_0, hi478_0⟩ := at_L1 HR0.out a0 a5 q478
                          cases e478
                          have HR478_0 := Aside0.mk hi478_0
                          have b8 := Aside0.mk hl478_0
                          clear hi478_0 hl478_0
                          replace a5 := eq_true a5
                          replace q478 := eq_true q478
                          have a6 : 0 ≤ (a1 : Int) := of_decide_eq_true zj_0
                          have q479 : a1 < ((rd_L1 l0 a0).length : Int) := of_decide_eq_true zj_0
                          obtain ⟨ad479, e479, hx479_0⟩ := Kd.at_int HR478_0.out a1 a6 q479
                          cases e479
                          replace a6 := eq_true a6
                          replace q479 := eq_true q479
                          have b1 : 0 ≤ (a1 : Int) := of_decide_eq_true zj_0
                          have q480 : a1 < (l0.length : Int) := of_decide_eq_true zj_0
                          obtain ⟨ad480, f4, f5, e480, hx480_0, hl480_0, hi480_0⟩ := at_L1 HR0.out a1 b1 q480
                          obtain rfl : ad478 = ad480 := (by injection e480)
                          have HR480_0 := Aside0.mk hi480_0
                          have d7 := Aside0.mk hl480_0
                          clear hi480_0 hl480_0
                          replace b1 := eq_true b1
                          replace q480 := eq_true q480
                          have b2 : 0 ≤ (a3 : Int) := of_decide_eq_true zj_0
                          have q481 : a3 < ((rd_L1 l0 a1).length : Int) := of_decide_eq_true zj_0
                          obtain ⟨ad481, e481, hx481_0⟩ := Kd.at_int HR480_0.out a3 b2 q481
                          cases e481
                          replace b2 := eq_true b2
                          replace q481 := eq_true q481
                          have d1 : 0 ≤ (a0 : Int) := of_decide_eq_true zj_0
                          have q482 : a0 < (l0.length : Int) := of_decide_eq_true zj_0
                          obtain ⟨ad482, j5, j6, e482, hx482_0, hl482_0, hi482_0⟩ := at_L1 HR0.out a0 d1 q482
                          obtain rfl : ad478 = ad482 := (by injection e482)
                          have HR482_0 := Aside0.mk hi482_0
                          have g5 := Aside0.mk hl482_0
                          clear hi482_0 hl482_0
                          replace d1 := eq_true d1
                          replace q482 := eq_true q482
                          have ea_ := Option.some.inj (hx478_0.symm.trans hx482_0)
                          injection ea_ with ea_ en_ ec_
                          subst ea_
                          subst ec_
                          clear en_
                          have d2 : 0 ≤ (a3 : Int) := of_decide_eq_true zj_0
                          have q483 : a3 < ((rd_L1 l0 a0).length : Int) := of_decide_eq_true zj_0
                          obtain ⟨ad483, e483, hx483_0⟩ := Kd.at_int HR482_0.out a3 d2 q483
                          cases e483
                          replace d2 := eq_true d2
                          replace q483 := eq_true q483
                          go_wp2
                          go_ret
                          exact ⟨by first | rfl | (simp; done) | (simp [*]; done), by repeat (first | exact Drawn0.refl _ | apply Drawn0.step)⟩
                         rw [if_neg j3] at H
                         have m8 := bv_ j3
                         have m9 := bw_ j3
                         have H' := Aside0.mk H
                         clear H
                         have a5 : 0 ≤ (a0 : Int) := of_decide_eq_true zj_0
                         have q478 : a0 < (l0.length : Int) := of_decide_eq_true zj_0
                         obtain ⟨ad478, b9, d0, e478, hx478_0, hl478_0, hi478_0⟩ := at_L1 HR0.out a0 a5 q478
                         cases e478
                         have HR478_0 := Aside0.mk hi478_0
                         have b8 := Aside0.mk hl478_0
                         clear hi478_0 hl478_0
                         replace a5 := eq_true a5
                         replace q478 := eq_true q478
                         have a6 : 0 ≤ (a1 : Int) := of_decide_eq_true zj_0
                         have q479 : a1 < ((rd_L1 l0 a0).length : Int) := of_decide_eq_true zj_0
                         obtain ⟨ad479, e479, hx479_0⟩ := Kd.at_int HR478_0.out a1 a6 q479
                         cases e479
                         replace a6 := eq_true a6
                         replace q479 := eq_true q479
                         have b1 : 0 ≤ (a1 : Int) := of_decide_eq_true zj_0
                         have q480 : a1 < (l0.length : Int) := of_decide_eq_true zj_0
                         obtain ⟨ad480, f4, f5, e480, hx480_0, hl480_0, hi480_0⟩ := at_L1 HR0.out a1 b1 q480
                         obtain rfl : ad478 = ad480 := (by injection e480)
                         have HR480_0 := Aside0.mk hi480_0
                         have d7 := Aside0.mk hl480_0
                         clear hi480_0 hl480_0
                         replace b1 := eq_true b1
                         replace q480 := eq_true q480
                         have b2 : 0 ≤ (a3 : Int) := of_decide_eq_true zj_0
                         have q481 : a3 < ((rd_L1 l0 a1).length : Int) := of_decide_eq_true zj_0
                         obtain ⟨ad481, e481, hx481_0⟩ := Kd.at_int HR480_0.out a3 b2 q481
                         cases e481
                         replace b2 := eq_true b2
                         replace q481 := eq_true q481
                         have d1 : 0 ≤ (a0 : Int) := of_decide_eq_true zj_0
                         have q482 : a0 < (l0.length : Int) := of_decide_eq_true zj_0
                         obtain ⟨ad482, j5, j6, e482, hx482_0, hl482_0, hi482_0⟩ := at_L1 HR0.out a0 d1 q482
                         obtain rfl : ad478 = ad482 := (by injection e482)
                         have HR482_0 := Aside0.mk hi482_0
                         have g5 := Aside0.mk hl482_0
                         clear hi482_0 hl482_0
                         replace d1 := eq_true d1
                         replace q482 := eq_true q482
                         have ea_ := Option.some.inj (hx478_0.symm.trans hx482_0)
                         injection ea_ with ea_ en_ ec_
                         subst ea_
                         subst ec_
                         clear en_
                         have d2 : 0 ≤ (a3 : Int) := of_decide_eq_true zj_0
                         have q483 : a3 < ((rd_L1 l0 a0).length : Int) := of_decide_eq_true zj_0
                         obtain ⟨ad483, e483, hx483_0⟩ := Kd.at_int HR482_0.out a3 d2 q483
                         cases e483
                         replace d2 := eq_true d2
                         replace q483 := eq_true q483
                         go_wp2
                         go_roundg k5
                         case measure => have := HK1.out; have := HK2.out; have := HK3.out; have := e2.out; have := HK5.out; omega
                         case rel => exact ⟨(wrap64 (a3 + 1)), zj_1, H', ⟨zj_2⟩, by repeat (first | exact Drawn0.refl _ | apply Drawn0.step)⟩
                        rw [if_neg n8] at H
                        exact absurd H (by simp)
                       rw [if_neg j2] at H
                       have m6 := bv_ j2
                       have m7 := bw_ j2
                       have H' := Aside0.mk H
                       clear H
                       have a5 : 0 ≤ (a0 : Int) := of_decide_eq_true zj_0
                       have q478 : a0 < (l0.length : Int) := of_decide_eq_true zj_0
                       obtain ⟨ad478, b9, d0, e478, hx478_0, hl478_0, hi478_0⟩ := at_L1 HR0.out a0 a5 q478
                       cases e478
                       have HR478_0 := Aside0.mk hi478_0
                       have b8 := Aside0.mk hl478_0
                       clear hi478_0 hl478_0
                       replace a5 := eq_true a5
                       replace q478 := eq_true q478
                       have a6 : 0 ≤ (a1 : Int) := of_decide_eq_true zj_0
                       have q479 : a1 < ((rd_L1 l0 a0).length : Int) := of_decide_eq_true zj_0
                       obtain ⟨ad479, e479, hx479_0⟩ := Kd.at_int HR478_0.out a1 a6 q479
                       cases e479
                       replace a6 := eq_true a6
                       replace q479 := eq_true q479
                       have b1 : 0 ≤ (a1 : Int) := of_decide_eq_true zj_0
                       have q480 : a1 < (l0.length : Int) := of_decide_eq_true zj_0
                       obtain ⟨ad480, f4, f5, e480, hx480_0, hl480_0, hi480_0⟩ := at_L1 HR0.out a1 b1 q480
                       obtain rfl : ad478 = ad480 := (by injection e480)
                       have HR480_0 := Aside0.mk hi480_0
                       have d7 := Aside0.mk hl480_0
                       clear hi480_0 hl480_0
                       replace b1 := eq_true b1
                       replace q480 := eq_true q480
                       have b2 : 0 ≤ (a3 : Int) := of_decide_eq_true zj_0
                       have q481 : a3 < ((rd_L1 l0 a1).length : Int) := of_decide_eq_true zj_0
                       obtain ⟨ad481, e481, hx481_0⟩ := Kd.at_int HR480_0.out a3 b2 q481
                       cases e481
                       replace b2 := eq_true b2
                       replace q481 := eq_true q481
                       go_wp2
                       go_roundg k5
                       case measure => have := HK1.out; have := HK2.out; have := HK3.out; have := e2.out; have := HK5.out; omega
                       case rel => exact ⟨(wrap64 (a3 + 1)), zj_1, H', ⟨zj_2⟩, by repeat (first | exact Drawn0.refl _ | apply Drawn0.step)⟩
                      rw [if_neg n7] at H
                      exact absurd H (by simp)
                     rw [if_neg n6] at H
                     exact absurd H (by simp)
                    rw [if_neg n5] at H
                    exact absurd H (by simp)
                   rw [if_neg j1] at H
                   have m0 := bv_ j1
                   have m4 := bw_ j1
                   have H' := Aside0.mk H
                   clear H
                   have a5 : 0 ≤ (a0 : Int) := of_decide_eq_true zj_0
                   have q478 : a0 < (l0.length : Int) := of_decide_eq_true zj_0
                   obtain ⟨ad478, b9, d0, e478, hx478_0, hl478_0, hi478_0⟩ := at_L1 HR0.out a0 a5 q478
                   cases e478
                   have HR478_0 := Aside0.mk hi478_0
                   have b8 := Aside0.mk hl478_0
                   clear hi478_0 hl478_0
                   replace a5 := eq_true a5
                   replace q478 := eq_true q478
                   have a6 : 0 ≤ (a1 : Int) := of_decide_eq_true zj_0
                   have q479 : a1 < ((rd_L1 l0 a0).length : Int) := of_decide_eq_true zj_0
                   obtain ⟨ad479, e479, hx479_0⟩ := Kd.at_int HR478_0.out a1 a6 q479
                   cases e479
                   replace a6 := eq_true a6
                   replace q479 := eq_true q479
                   go_wp2
                   go_roundg k5
                   case measure => have := HK1.out; have := HK2.out; have := HK3.out; have := e2.out; have := HK5.out; omega
                   case rel => exact ⟨(wrap64 (a3 + 1)), zj_1, H', ⟨zj_2⟩, by repeat (first | exact Drawn0.refl _ | apply Drawn0.step)⟩
                  rw [if_neg n4] at H
                  exact absurd H (by simp)
                 rw [if_neg n3] at H
                 exact absurd H (by simp)
                rw [if_neg n2] at H
                exact absurd H (by simp)
               rw [if_neg n1] at H
               exact absurd H (by simp)
              rw [if_neg l6] at H
              have l9 : decide (a3 < (l0.length : Int)) = false := decide_eq_false l6
              clear l6
              have H' := Aside0.mk H
              clear H
              go_wp2
              go_roundg k5
              case measure => have := HK1.out; have := HK2.out; have := HK3.out; have := e2.out; have := HK5.out; omega
              case rel => exact ⟨(wrap64 (a1 + 1)), zj_1, H', ⟨zj_2⟩, by repeat (first | exact Drawn0.refl _ | apply Drawn0.step)⟩
         rw [if_neg h0] at H
         have e6 : decide (a1 < (l0.length : Int)) = false := decide_eq_false h0
         clear h0
         have H' := Aside0.mk H
         clear H
         go_wp2
         go_roundg k3
         case measure => have := HK1.out; have := HK2.out; have := HK3.out; omega
         case rel => exact ⟨(wrap64 (a0 + 1)), zj_1, H', ⟨by have := HK1.out; have := HK2.out; have := HK3.out; omega⟩, by repeat (first | exact Drawn0.refl _ | apply Drawn0.step)⟩
      rw [if_neg f9] at H
      have d6 : decide (a0 < (l0.length : Int)) = false := decide_eq_false f9
      clear f9
      obtain rfl := Option.some.inj H
      go_wp2
      go_ret
      exact ⟨by first | rfl | (simp; done) | (simp [*]; done), by repeat (first | exact Drawn0.refl _ | apply Drawn0.step)⟩
 replace c3 := Bool.eq_false_iff.mpr c3
 subst c3
 rw [if_neg nf_] at H
 obtain rfl := Option.some.inj H
 go_enter Try.func86, Try.ntmps86
 go_wp2_with (first | ((with_reducible refine gate_callee (f := 58) rfl ?_); refine gl_ (some 12) Try.func58 #[.int .i64 (l0.length : Int), .int .i64 1, .int .i64 12] ?_; (with_reducible refine (spec_l1In.calls (l0.length : Int) 1 12 false _ A2.out).mono ?_); rintro e w' ⟨rfl, ⟨nd, rfl⟩⟩; refine ⟨_, rfl, ?_⟩))
 go_ret
 exact ⟨by first | rfl | (simp; done) | (simp [*]; done), by repeat (first | exact Drawn0.refl _ | apply Drawn0.step)⟩

end Go.Proofs.Ytjgfpiilfnchnaa.P

-- written by gen.py (a program of this session) out of the kit's print of this seat's translation
namespace Go.Proofs.Ytjgfpiilfnchnaa.P
open Go.RowKit Go.Proofs.YtjgfpiilfnchnaaW.PrintWords Go.Proofs.YtjgfpiilfnchnaaW.PrintLast Go.Proofs.YtjgfpiilfnchnaaW.PrintMore
attribute [local go_sem] max2_int min2_int max_two min_two max_three min_three max_four min_four
set_option linter.unusedVariables false
set_option linter.unusedSimpArgs false
theorem zh_0 {p : Prop} (h : p := by first | rfl | (simp; done) | (simp [*]; done)) : p := h
set_option maxHeartbeats 8000000 in
set_option maxRecDepth 100000 in
theorem spec_LatticeOk.calls (k : Nat) (A0 : Option Addr) (c0 : Nat) (l0 : List (List Int)) (r : Bool) (w : World) (hr0 : Kd.C (Kd.slice 3 (Kd.int .i64)) w A0 l0.length l0) (hc0 : l0.length ≤ c0) (h : spec_LatticeOk.f k l0 = some r) :
  Calls Try.prog 57 #[.slice A0 l0.length c0] w fun e w' => e = .returned (.bool r) ∧ Drawn0 w w' := by
 have HR0 := Aside0.mk hr0
 have a6 := Aside0.mk hc0
 clear hr0 hc0
 have H : (spec_LatticeOk.l0 k l0 0) = some r := h
 clear h
 have H' := Aside0.mk H
 clear H
 go_enter Try.func57, Try.ntmps57
 go_wp2
 go_loopg [3] k (fun kq v3 w' => ∃ (a0 : Int), v3 = .int .i64 a0 ∧ Aside0 (spec_LatticeOk.l0 kq l0 a0 = some r) ∧ Aside0 (kq ≤ k) ∧ Drawn0 w w')
 case atStart => exact ⟨(0), zh_0, H', ⟨Nat.le_refl _⟩, by repeat (first | exact Drawn0.refl _ | apply Drawn0.step)⟩
 case round =>
  clear H'
  obtain ⟨a0, rfl, HA, HK1, ⟨m1, rfl⟩⟩ := hrel
  cases gk with
  | zero => exact absurd HA.out (by simp [spec_LatticeOk.l0])
  | succ k1 =>
   have H := HA.out
   clear HA
   simp only [spec_LatticeOk.l0] at H
   have b1 := Aside0.mk H
   clear H
   go_upto_region 2 with (fail)
   go_cut [12] (fun b6 wc => ∃ (kq : Nat) (a3 : Bool), b6 = .bool a3 ∧ Aside0 (spec_LatticeOk.j1 kq l0 a0 a3 = some r) ∧ Aside0 (kq ≤ k1) ∧ Drawn0 w wc)
   case first =>
    have H := b1.out
    clear b1
    by_cases c3 : a0 < (l0.length : Int)
    ·
     rw [if_pos c3] at H
     have a2 : decide (a0 < (l0.length : Int)) = true := decide_eq_true c3
     clear c3
     (first | rw [a2] | (simp only [i64_w, i32_w]; rw [a2]) | skip)
     obtain ⟨a8, A4, H⟩ := bd_ H
     try dsimp only at H
     have H' := Aside0.mk H
     clear H
     go_wp2_with (first | (go_at_call 86; (with_reducible refine (spec_OrderOk.calls k1 _ _ l0 a8 _ (y4 HR0.out) a6.out A4.out).mono ?_); rintro e w' ⟨rfl, ⟨nd, rfl⟩⟩))
     go_meet
     case rel => exact ⟨_, (a8), zh_0, H', ⟨by have := HK1.out; first | omega | exact Nat.le_refl _⟩, by repeat (first | exact Drawn0.refl _ | apply Drawn0.step)⟩
    rw [if_neg c3] at H
    have a2 : decide (a0 < (l0.length : Int)) = false := decide_eq_false c3
    clear c3
    (first | rw [a2] | (simp only [i64_w, i32_w]; rw [a2]) | skip)
    have H' := Aside0.mk H
    clear H
    go_wp2
    go_meet
    case rel => exact ⟨_, (false), zh_0, H', ⟨by have := HK1.out; first | omega | exact Nat.le_refl _⟩, by repeat (first | exact Drawn0.refl _ | apply Drawn0.step)⟩
   case rest =>
    clear b1
    try clear p2
    try clear c3
    try clear a2
    obtain ⟨kq, a3, rfl, HA, b0, ⟨mc1, rfl⟩⟩ := hcut
    cases kq with
    | zero => exact absurd HA.out (by simp [spec_LatticeOk.j1])
    | succ b2 =>
     have H := HA.out
     clear HA
     simp only [spec_LatticeOk.j1] at H
     by_cases c5 : a3 = true
     ·
      subst c5
      rw [if_pos rfl] at H
      have H' := Aside0.mk H
      clear H
      go_wp2
      go_loopg [4] b2 (fun kq v4 w' => ∃ (a1 : Int), v4 = .int .i64 a1 ∧ Aside0 (spec_LatticeOk.l1 kq l0 a0 a1 = some r) ∧ Aside0 (kq ≤ b2) ∧ Drawn0 w w')
      case atStart => exact ⟨(0), zh_0, H', ⟨Nat.le_refl _⟩, by repeat (first | exact Drawn0.refl _ | apply Drawn0.step)⟩
      case round =>
       clear H'
       try clear c1
       try clear p2
       try clear c3
       try clear a2
       try clear c5
       obtain ⟨a1, rfl, HA, HK3, ⟨m3, rfl⟩⟩ := hrel
       cases gk with
       | zero => exact absurd HA.out (by simp [spec_LatticeOk.l1])
       | succ k3 =>
        have H := HA.out
        clear HA
        simp only [spec_LatticeOk.l1] at H
        by_cases c6 : a1 < a0
        ·
         rw [if_pos c6] at H
         have b3 : decide (a1 < a0) = true := decide_eq_true c6
         clear c6
         obtain ⟨a4, A7, H⟩ := bd_ H
         try dsimp only at H
         by_cases c8 : a4 < 0
         ·
          rw [if_pos c8] at H
          have b4 : decide (a4 < 0) = true := decide_eq_true c8
          clear c8
          obtain rfl := Option.some.inj H
          go_wp2_with (first | ((with_reducible refine gate_callee (f := 60) rfl ?_); refine gl_ (some 23) Try.func60 #[.slice A0 l0.length c0, .int .i64 a0, .int .i64 a1] ?_; (with_reducible refine (spec_l1Meet.calls k3 _ _ l0 a0 a1 a4 _ (y4 HR0.out) a6.out A7.out).mono ?_); rintro e w' ⟨rfl, ⟨nd, rfl⟩⟩; refine ⟨_, rfl, ?_⟩))
          go_ret
          exact ⟨by first | rfl | (simp; done) | (simp [*]; done), by repeat (first | exact Drawn0.refl _ | apply Drawn0.step)⟩
         rw [if_neg c8] at H
         have b4 : decide (a4 < 0) = false := decide_eq_false c8
         clear c8
         obtain ⟨a5, A9, H⟩ := bd_ H
         try dsimp only at H
         by_cases a7 : a5 < 0
         ·
          rw [if_pos a7] at H
          have a9 : decide (a5 < 0) = true := decide_eq_true a7
          clear a7
          obtain rfl := Option.some.inj H
          go_wp2_with (first | ((with_reducible refine gate_callee (f := 60) rfl ?_); refine gl_ (some 23) Try.func60 #[.slice A0 l0.length c0, .int .i64 a0, .int .i64 a1] ?_; (with_reducible refine (spec_l1Meet.calls k3 _ _ l0 a0 a1 a4 _ (y4 HR0.out) a6.out A7.out).mono ?_); rintro e w' ⟨rfl, ⟨nd, rfl⟩⟩; refine ⟨_, rfl, ?_⟩) | (go_at_call 65; (with_reducible refine (spec_l1Join.calls k3 _ _ l0 a0 a1 a5 _ (y4 HR0.out) a6.out A9.out).mono ?_); rintro e w' ⟨rfl, ⟨nd, rfl⟩⟩))
          go_ret
          exact ⟨by first | rfl | (simp; done) | (simp [*]; done), by repeat (first | exact Drawn0.refl _ | apply Drawn0.step)⟩
         rw [if_neg a7] at H
         have a9 : decide (a5 < 0) = false := decide_eq_false a7
         clear a7
         have H' := Aside0.mk H
         clear H
         go_wp2_with (first | ((with_reducible refine gate_callee (f := 60) rfl ?_); refine gl_ (some 23) Try.func60 #[.slice A0 l0.length c0, .int .i64 a0, .int .i64 a1] ?_; (with_reducible refine (spec_l1Meet.calls k3 _ _ l0 a0 a1 a4 _ (y4 HR0.out) a6.out A7.out).mono ?_); rintro e w' ⟨rfl, ⟨nd, rfl⟩⟩; refine ⟨_, rfl, ?_⟩) | (go_at_call 65; (with_reducible refine (spec_l1Join.calls k3 _ _ l0 a0 a1 a5 _ (y4 HR0.out) a6.out A9.out).mono ?_); rintro e w' ⟨rfl, ⟨nd, rfl⟩⟩))
         go_roundg k3
         case measure => have := HK1.out; have := b0.out; have := HK3.out; omega
         case rel => exact ⟨(wrap64 (a1 + 1)), zh_0, H', ⟨by have := HK1.out; have := b0.out; have := HK3.out; omega⟩, by repeat (first | exact Drawn0.refl _ | apply Drawn0.step)⟩
        rw [if_neg c6] at H
        have b3 : decide (a1 < a0) = false := decide_eq_false c6
        clear c6
        have H' := Aside0.mk H
        clear H
        go_wp2
        go_roundg k3
        case measure => have := HK1.out; have := b0.out; have := HK3.out; omega
        case rel => exact ⟨(wrap64 (a0 + 1)), zh_0, H', ⟨by have := HK1.out; have := b0.out; have := HK3.out; omega⟩, by repeat (first | exact Drawn0.refl _ | apply Drawn0.step)⟩
     replace c5 := Bool.eq_false_iff.mpr c5
     subst c5
     rw [if_neg nf_] at H
     obtain ⟨b5, b7, H⟩ := bd_ H
     try dsimp only at H
     obtain rfl := Option.some.inj H
     go_wp2_with (first | ((with_reducible refine gate_callee (f := 86) rfl ?_); refine gl_ (some 33) Try.func86 #[.slice A0 l0.length c0] ?_; (with_reducible refine (spec_OrderOk.calls b2 _ _ l0 b5 _ (y4 HR0.out) a6.out b7.out).mono ?_); rintro e w' ⟨rfl, ⟨nd, rfl⟩⟩; refine ⟨_, rfl, ?_⟩))
     go_ret
     exact ⟨by first | rfl | (simp; done) | (simp [*]; done), by repeat (first | exact Drawn0.refl _ | apply Drawn0.step)⟩

end Go.Proofs.Ytjgfpiilfnchnaa.P

-- written by gen.py (a program of this session) out of the kit's print of this seat's translation
namespace Go.Proofs.Ytjgfpiilfnchnaa.P
open Go.RowKit Go.Proofs.YtjgfpiilfnchnaaW.PrintWords Go.Proofs.YtjgfpiilfnchnaaW.PrintLast Go.Proofs.YtjgfpiilfnchnaaW.PrintMore
attribute [local go_sem] max2_int min2_int max_two min_two max_three min_three max_four min_four
set_option linter.unusedVariables false
set_option linter.unusedSimpArgs false
theorem zk_1 {p : Prop} (h : p := by first | (with_reducible assumption) | assumption) : p := h
theorem zk_0 {p : Prop} (h : p := by first | rfl | (simp; done) | (simp [*]; done)) : p := h
set_option maxHeartbeats 8000000 in
set_option maxRecDepth 100000 in
theorem spec_LeastOf.calls (k : Nat) (A0 : Option Addr) (c0 : Nat) (l0 : List (List Int)) (r1 : Int) (r2 : Bool) (w : World) (hr0 : Kd.C (Kd.slice 3 (Kd.int .i64)) w A0 l0.length l0) (hc0 : l0.length ≤ c0) (h : spec_LeastOf.f k l0 = some (r1, r2)) :
  Calls Try.prog 59 #[.slice A0 l0.length c0] w fun e w' => e = .returned (.tuple #[.int .i64 r1, .bool r2]) ∧ Drawn0 w w' := by
 have HR0 := Aside0.mk hr0
 have d0 := Aside0.mk hc0
 clear hr0 hc0
 have H : (spec_LeastOf.l0 k l0 0) = some (r1, r2) := h
 clear h
 have H' := Aside0.mk H
 clear H
 go_enter Try.func59, Try.ntmps59
 go_wp2
 go_loopg [4] k (fun kq v4 w' => ∃ (a0 : Int), v4 = .int .i64 a0 ∧ Aside0 (spec_LeastOf.l0 kq l0 a0 = some (r1, r2)) ∧ Aside0 (kq ≤ k) ∧ Drawn0 w w')
 case atStart => exact ⟨(0), zk_0, H', ⟨Nat.le_refl _⟩, by repeat (first | exact Drawn0.refl _ | apply Drawn0.step)⟩
 case round =>
  clear H'
  obtain ⟨a0, rfl, HA, HK1, ⟨m1, rfl⟩⟩ := hrel
  cases gk with
  | zero => exact absurd HA.out (by simp [spec_LeastOf.l0])
  | succ k1 =>
   have H := HA.out
   clear HA
   simp only [spec_LeastOf.l0] at H
   have b3 := Aside0.mk H
   clear H
   go_upto_region 2 with (fail)
   go_cut [14] (fun d1 wc => ∃ (kq : Nat) (a3 : Bool), d1 = .bool a3 ∧ Aside0 (spec_LeastOf.j1 kq l0 a0 a3 = some (r1, r2)) ∧ Aside0 (kq ≤ k1) ∧ Drawn0 w wc)
   case first =>
    have H := b3.out
    clear b3
    by_cases c3 : a0 < (l0.length : Int)
    ·
     rw [if_pos c3] at H
     have a2 : decide (a0 < (l0.length : Int)) = true := decide_eq_true c3
     clear c3
     (first | rw [a2] | (simp only [i64_w, i32_w]; rw [a2]) | skip)
     obtain ⟨a8, A4, H⟩ := bd_ H
     try dsimp only at H
     have H' := Aside0.mk H
     clear H
     go_wp2_with (first | (go_at_call 86; (with_reducible refine (spec_OrderOk.calls k1 _ _ l0 a8 _ (y4 HR0.out) d0.out A4.out).mono ?_); rintro e w' ⟨rfl, ⟨nd, rfl⟩⟩))
     go_meet
     case rel => exact ⟨_, (a8), zk_0, H', ⟨by have := HK1.out; first | omega | exact Nat.le_refl _⟩, by repeat (first | exact Drawn0.refl _ | apply Drawn0.step)⟩
    rw [if_neg c3] at H
    have a2 : decide (a0 < (l0.length : Int)) = false := decide_eq_false c3
    clear c3
    (first | rw [a2] | (simp only [i64_w, i32_w]; rw [a2]) | skip)
    have H' := Aside0.mk H
    clear H
    go_wp2
    go_meet
    case rel => exact ⟨_, (false), zk_0, H', ⟨by have := HK1.out; first | omega | exact Nat.le_refl _⟩, by repeat (first | exact Drawn0.refl _ | apply Drawn0.step)⟩
   case rest =>
    clear b3
    try clear p2
    try clear c3
    try clear a2
    obtain ⟨kq, a3, rfl, HA, a7, ⟨mc1, rfl⟩⟩ := hcut
    cases kq with
    | zero => exact absurd HA.out (by simp [spec_LeastOf.j1])
    | succ b7 =>
     have H := HA.out
     clear HA
     simp only [spec_LeastOf.j1] at H
     by_cases c5 : a3 = true
     ·
      subst c5
      rw [if_pos rfl] at H
      have H' := Aside0.mk H
      clear H
      go_wp2
      go_loopg [5, 6] b7 (fun kq v5 v6 w' => ∃ (a4 : Bool) (a1 : Int), v5 = .bool a4 ∧ v6 = .int .i64 a1 ∧ Aside0 (spec_LeastOf.l1 kq l0 a0 a4 a1 = some (r1, r2)) ∧ Aside0 (kq ≤ b7) ∧ Drawn0 w w')
      case atStart => exact ⟨(true), (0), zk_0, zk_0, H', ⟨Nat.le_refl _⟩, by repeat (first | exact Drawn0.refl _ | apply Drawn0.step)⟩
      case round =>
       clear H'
       try clear c1
       try clear p2
       try clear c3
       try clear a2
       try clear c5
       obtain ⟨a4, a1, rfl, rfl, HA, HK3, ⟨m3, rfl⟩⟩ := hrel
       cases gk with
       | zero => exact absurd HA.out (by simp [spec_LeastOf.l1])
       | succ k3 =>
        have H := HA.out
        clear HA
        simp only [spec_LeastOf.l1] at H
        by_cases c6 : a1 < (l0.length : Int)
        ·
         rw [if_pos c6] at H
         have b4 : decide (a1 < (l0.length : Int)) = true := decide_eq_true c6
         clear c6
         by_cases c7 : a4 = true
         ·
          subst c7
          rw [if_pos rfl] at H
          by_cases c8 : 0 ≤ a0
          ·
           rw [if_pos c8] at H
           have d2 : decide (0 ≤ a0) = true := decide_eq_true c8
           clear c8
           by_cases c9 : a0 < (l0.length : Int)
           ·
            rw [if_pos c9] at H
            have d3 : decide (a0 < (l0.length : Int)) = true := decide_eq_true c9
            clear c9
            by_cases a9 : 0 ≤ a1
            ·
             rw [if_pos a9] at H
             have b8 : decide (0 ≤ a1) = true := decide_eq_true a9
             clear a9
             by_cases b0 : a1 < ((rd_L1 l0 a0).length : Int)
             ·
              rw [if_pos b0] at H
              have b9 : decide (a1 < ((rd_L1 l0 a0).length : Int)) = true := decide_eq_true b0
              clear b0
              have H' := Aside0.mk H
              clear H
              have a5 : 0 ≤ (a0 : Int) := of_decide_eq_true zk_1
              have q489 : a0 < (l0.length : Int) := of_decide_eq_true zk_1
              obtain ⟨ad489, b5, b6, e489, hx489_0, hl489_0, hi489_0⟩ := at_L1 HR0.out a0 a5 q489
              cases e489
              have HR489_0 := Aside0.mk hi489_0
              have b1 := Aside0.mk hl489_0
              clear hi489_0 hl489_0
              replace a5 := eq_true a5
              replace q489 := eq_true q489
              have a6 : 0 ≤ (a1 : Int) := of_decide_eq_true zk_1
              have q490 : a1 < ((rd_L1 l0 a0).length : Int) := of_decide_eq_true zk_1
              obtain ⟨ad490, e490, hx490_0⟩ := Kd.at_int HR489_0.out a1 a6 q490
              cases e490
              replace a6 := eq_true a6
              replace q490 := eq_true q490
              go_wp2
              go_roundg k3
              case measure => have := HK1.out; have := a7.out; have := HK3.out; omega
              case rel => exact ⟨(((rd (rd_L1 l0 a0) a1) == 1)), (wrap64 (a1 + 1)), zk_0, zk_0, H', ⟨by have := HK1.out; have := a7.out; have := HK3.out; omega⟩, by repeat (first | exact Drawn0.refl _ | apply Drawn0.step)⟩
             rw [if_neg b0] at H
             exact absurd H (by simp)
            rw [if_neg a9] at H
            exact absurd H (by simp)
           rw [if_neg c9] at H
           exact absurd H (by simp)
          rw [if_neg c8] at H
          exact absurd H (by simp)
         replace c7 := Bool.eq_false_iff.mpr c7
         subst c7
         rw [if_neg nf_] at H
         have H' := Aside0.mk H
         clear H
         go_wp2
         go_roundg k3
         case measure => have := HK1.out; have := a7.out; have := HK3.out; omega
         case rel => exact ⟨(false), (wrap64 (a1 + 1)), zk_0, zk_0, H', ⟨by have := HK1.out; have := a7.out; have := HK3.out; omega⟩, by repeat (first | exact Drawn0.refl _ | apply Drawn0.step)⟩
        rw [if_neg c6] at H
        have b4 : decide (a1 < (l0.length : Int)) = false := decide_eq_false c6
        clear c6
        by_cases b2 : a4 = true
        ·
         subst b2
         rw [if_pos rfl] at H
         simp only [Option.some.injEq, Prod.mk.injEq] at H
         obtain ⟨rfl, rfl⟩ := H
         go_wp2
         go_ret2
         exact ⟨by first | rfl | (simp; done) | (simp [*]; done), by repeat (first | exact Drawn0.refl _ | apply Drawn0.step)⟩
        replace b2 := Bool.eq_false_iff.mpr b2
        subst b2
        rw [if_neg nf_] at H
        have H' := Aside0.mk H
        clear H
        go_wp2
        go_roundg k3
        case measure => have := HK1.out; have := a7.out; have := HK3.out; omega
        case rel => exact ⟨(wrap64 (a0 + 1)), zk_0, H', ⟨by have := HK1.out; have := a7.out; have := HK3.out; omega⟩, by repeat (first | exact Drawn0.refl _ | apply Drawn0.step)⟩
     replace c5 := Bool.eq_false_iff.mpr c5
     subst c5
     rw [if_neg nf_] at H
     simp only [Option.some.injEq, Prod.mk.injEq] at H
     obtain ⟨rfl, rfl⟩ := H
     go_wp2
     go_ret2
     exact ⟨by first | rfl | (simp; done) | (simp [*]; done), by repeat (first | exact Drawn0.refl _ | apply Drawn0.step)⟩

end Go.Proofs.Ytjgfpiilfnchnaa.P
