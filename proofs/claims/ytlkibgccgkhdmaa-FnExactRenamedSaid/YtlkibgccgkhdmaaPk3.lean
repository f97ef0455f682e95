/- 7 texts of this seat joined: walks, and the laws of what they compute. -/
import Derived.Test.YtlkibgccgkhdmaaPk2
namespace Go.Proofs.Ytlkibgccgkhdmaa.P
open Go.RowKit Go.Proofs.YtlkibgccgkhdmaaW.PrintWords Go.Proofs.YtlkibgccgkhdmaaW.PrintLast Go.Proofs.YtlkibgccgkhdmaaW.PrintMore
attribute [local go_sem] max2_int min2_int max_two min_two max_three min_three max_four min_four
set_option linter.unusedVariables false
set_option linter.unusedSimpArgs false
def spec_Renamed.T22 : Bool × List (List Nat × List Nat) := (true, [([], []), ([], []), ([1], [1]), ([], []), ([], []), ([3, 4], [3, 4]), ([5], [5]), ([2, 6], [2, 6]), ([7], [7]), ([], []), ([], []), ([9, 10], [9, 10]), ([11], [11]), ([8, 12], [8, 12]), ([13], [13]), ([14], [14]), ([0, 15], [0, 15]), ([16, 16, 0, 1, 2, 3, 4, 5, 6, 7, 8, 9, 10, 11, 12, 13, 14, 15, 16], [0, 16])])
def spec_Renamed.B22 : List Nat := [0, 0, 2, 0, 0, 24, 56, 126, 254, 0, 0, 1536, 3584, 8190, 16382, 32766, 65535, 131071]
theorem spec_Renamed.tab22 : rtab .any (opsOf Try.f39 22) = spec_Renamed.T22 := by kernel_rfl
theorem spec_Renamed.bits22 : waitsOk spec_Renamed.T22.2 spec_Renamed.B22 = true := by kernel_rfl
def spec_Renamed.T24 : Bool × List (List Nat × List Nat) := (true, [([], []), ([0], [0]), ([], []), ([], []), ([3], [3]), ([], []), ([], []), ([5, 6], [5, 6]), ([7], [7]), ([4, 8], [4, 8]), ([9], [9]), ([2, 10], [2, 10]), ([11], [11]), ([12], [12]), ([1, 13], [1, 13]), ([0, 1, 2, 3, 4, 5, 6, 7, 8, 9, 10, 11, 12, 13, 14], []), ([15, 14, 14, 0, 1, 2, 3, 4, 5, 6, 7, 8, 9, 10, 11, 12, 13, 14], [14, 15])])
def spec_Renamed.B24 : List Nat := [0, 1, 0, 0, 8, 0, 0, 96, 224, 504, 1016, 2044, 4092, 8188, 16383, 32767, 65535]
theorem spec_Renamed.tab24 : rtab .any (opsOf Try.f39 24) = spec_Renamed.T24 := by kernel_rfl
theorem spec_Renamed.bits24 : waitsOk spec_Renamed.T24.2 spec_Renamed.B24 = true := by kernel_rfl
theorem zd_16 {p : Prop} (h : p := by decide) : p := h
theorem zd_15 {p : Prop} (h : p := by (with_reducible repeat (first | apply Kd.S_alloc | apply Kd.S_drewN | apply Kd.S_drew)); exact Kd.S_mono a4.out (fun _ hk => ⟨hk.1.1, ⟨hk.2, hk.1.2⟩⟩)) : p := h
theorem zd_14 {p : Prop} (h : p := by first | rfl | (simp [errW_none, errW_some] <;> rfl) | (simp only [← hji47]; first | rfl | (simp [errW_none, errW_some] <;> rfl)) | (simp [*, errW_none, errW_some] <;> rfl)) : p := h
theorem zd_13 {p : Prop} (h : p := by (with_reducible repeat (first | refine blk_drewN ?_ _ | refine blk_drew ?_ | refine blk_alloc ?_ _)); refine blk_far ?_ b1.out _; (with_reducible repeat (first | refine blk_drewN ?_ _ | refine blk_drew ?_ | refine blk_alloc ?_ _)); exact a1.out) : p := h
theorem zd_12 {p : Prop} (h : p := by (with_reducible repeat (first | refine blk_drewN ?_ _ | refine blk_drew ?_ | refine blk_alloc ?_ _)); refine blk_far ?_ b4.out _; (with_reducible repeat (first | refine blk_drewN ?_ _ | refine blk_drew ?_ | refine blk_alloc ?_ _)); exact a2.out) : p := h
theorem zd_11 {p : Prop} (h : p := by repeat (first | (with_reducible first | exact HB.out | apply below_alloc | apply pw_below_drewN | apply below_drew1) | exact HB.out)) : p := h
theorem zd_10 {p : Prop} (h : p := by (with_reducible repeat (first | apply Kd.R_alloc | apply Kd.R_drewN | apply Kd.R_drew)); exact Kd.R_mono b3.out (fun _ hk => ⟨hk.2, hk.1⟩)) : p := h
theorem zd_9 {p : Prop} (h : p := by repeat (first | (with_reducible first | exact HB.out | apply below_alloc | apply pw_below_drewN | apply below_drew1 | refine below_set ?_ e3.out) | exact HB.out)) : p := h
theorem zd_8 {p : Prop} (h : p := by first | rfl | (simp; done) | (simp [*]; done)) : p := h
theorem zd_7 {p : Prop} (h : p := by repeat (first | (with_reducible first | exact HB.out | apply below_alloc | apply pw_below_drewN | apply below_drew1 | refine below_set ?_ e3.out | refine below_set ?_ f6.out) | exact HB.out)) : p := h
theorem zd_6 {p : Prop} (h : p := by (with_reducible repeat (first | refine blk_drewN ?_ _ | refine blk_drew ?_ | refine blk_alloc ?_ _)); refine blk_far ?_ b1.out _; (with_reducible repeat (first | refine blk_drewN ?_ _ | refine blk_drew ?_ | refine blk_alloc ?_ _)); refine blk_far ?_ b1.out _; (with_reducible repeat (first | refine blk_drewN ?_ _ | refine blk_drew ?_ | refine blk_alloc ?_ _)); exact a1.out) : p := h
theorem zd_5 {p : Prop} (h : p := by (with_reducible repeat (first | refine blk_drewN ?_ _ | refine blk_drew ?_ | refine blk_alloc ?_ _)); refine blk_far ?_ b4.out _; (with_reducible repeat (first | refine blk_drewN ?_ _ | refine blk_drew ?_ | refine blk_alloc ?_ _)); refine blk_far ?_ b4.out _; (with_reducible repeat (first | refine blk_drewN ?_ _ | refine blk_drew ?_ | refine blk_alloc ?_ _)); exact a2.out) : p := h
theorem zd_4 {p : Prop} (h : p := by first | exact Kd.R_nil _ _ _ _ _ | exact Kd.N_nil _ _ _ _ _ | exact Kd.V_nil _ _ _ _ _ | exact Kd.Q_nil _ _ _ _ _ | exact Kd.S_nil _ _ _ _ _) : p := h
theorem zd_3 {p : Prop} (h : p := by first | exact Kd.S_nil _ _ _ _ _ | exact Kd.N_nil _ _ _ _ _ | exact Kd.V_nil _ _ _ _ _ | exact Kd.Q_nil _ _ _ _ _ | exact Kd.R_nil _ _ _ _ _) : p := h
theorem zd_2 {p : Prop} (h : p := by (with_reducible repeat (first | refine blk_drewN ?_ _ | refine blk_drew ?_ | refine blk_alloc ?_ _)); refine blk_put (cs := #[.slice none 0 0, .slice none 0 0]) ?_ 1 _ rfl; (with_reducible repeat (first | refine blk_drewN ?_ _ | refine blk_drew ?_ | refine blk_alloc ?_ _)); refine blk_put (cs := #[.slice none 0 0, .slice none 0 0]) ?_ 0 _ rfl; (with_reducible repeat (first | refine blk_drewN ?_ _ | refine blk_drew ?_ | refine blk_alloc ?_ _)); exact a0.out) : p := h
theorem zd_1 {p : Prop} (h : p := by (with_reducible repeat (first | refine blk_drewN ?_ _ | refine blk_drew ?_ | refine blk_alloc ?_ _)); refine blk_put (cs := #[.slice none 0 0, .slice none 0 0]) ?_ 1 _ rfl; (with_reducible repeat (first | refine blk_drewN ?_ _ | refine blk_drew ?_ | refine blk_alloc ?_ _)); refine blk_put (cs := #[.slice none 0 0, .slice none 0 0]) ?_ 0 _ rfl; (with_reducible repeat (first | refine blk_drewN ?_ _ | refine blk_drew ?_ | refine blk_alloc ?_ _)); exact a2.out) : p := h
theorem zd_0 {p : Prop} (h : p := by repeat (first | (with_reducible first | exact HB.out | apply below_alloc | apply pw_below_drewN | apply below_drew1 | refine below_set ?_ e3.out | refine below_set ?_ f6.out | refine below_set ?_ h6.out) | exact HB.out)) : p := h
set_option maxHeartbeats 8000000 in
set_option maxRecDepth 100000 in
theorem spec_Renamed.calls (k : Nat) (A0_0 : Option Addr) (c0_0 : Nat) (l0_0 : List (List Int)) (A0_1 : Option Addr) (c0_1 : Nat) (l0_1 : List Int) (A1 : Option Addr) (c1 : Nat) (l1 : List Int) (r1 : List (List Int)) (r2 : List Int) (w : World) (hr0_0 : Kd.C (Kd.slice 3 (Kd.int .i64)) w A0_0 l0_0.length l0_0) (hc0_0 : l0_0.length ≤ c0_0) (hr0_1 : Kd.C (Kd.int .i64) w A0_1 l0_1.length l0_1) (hc0_1 : l0_1.length ≤ c0_1) (hr1 : Kd.C (Kd.int .i64) w A1 l1.length l1) (hc1 : l1.length ≤ c1) (h : spec_Renamed.f k l0_0 l0_1 l1 = some (r1, r2)) :
 Calls Try.prog 39 #[.agg #[.slice A0_0 l0_0.length c0_0, .slice A0_1 l0_1.length c0_1], .slice A1 l1.length c1] w fun e w' => ∃ v0_ v1_ : Value, e = .returned (.agg #[v0_, v1_]) ∧ Kd.S (Kd.slice 3 (Kd.int .i64)) 23 w' w.heap.size (fun k_ => some k_ ≠ (v1_ : Value).ownBlock) v0_ r1 ∧ Kd.R (Kd.int .i64) 3 w' w.heap.size (fun _ => True) v1_ r2 ∧ Below w.heap.size w w' := by
 have hu29 := Try.underlying29
 have HR0_0 := ak hr0_0
 have f7 := ak hc0_0
 clear hr0_0 hc0_0
 have HR0_1 := ak hr0_1
 have f8 := ak hc0_1
 clear hr0_1 hc0_1
 have HR1 := ak hr1
 have v6 := ak hc1
 clear hr1 hc1
 have HB := ak (Below.refl w.heap.size w)
 have H : ((spec_LogicOk.f k l0_0 l0_1).bind fun h7 => (if h7 = true then (spec_Renamed.j0 k l1 ((l1.length : Int) != (l0_1.length : Int)) l0_0 l0_1) else (spec_Renamed.j0 k l1 true l0_0 l0_1))) = some (r1, r2) := h
 clear h
 have j2 := ak H
 clear H
 go_enter Try.func39, Try.ntmps39
 go_upto_region 2 with (first | ((with_reducible refine gate_dst (N := 2) rfl ?_); (try (refine gate_guard (by rfl) ?_; dsimp only)); refine box_event ?hg (N := 2) ?hd (cs := #[.slice A0_0 l0_0.length c0_0, .slice A0_1 l0_1.length c0_1]) (t := 29) ?hr ?_; (case hd => rfl); (case hg => rfl); (case hr => first | (go_simp; done) | (go_simp; rfl)); intro a9 hg w4 hbox hb; have a1 := ak (hbox); have k6 := ak ((by rw [hg]; exact (below_size zd_11) : w.heap.size ≤ a9)); have e3 := ak ((by rw [hg]; exact (below_size zd_11) : w.heap.size ≤ a9)); replace HB := ak (below_step zd_11 hb); clear hb hbox hg) | ((with_reducible refine gate_dst (N := 4) rfl ?_); (try (refine gate_guard (by rfl) ?_; dsimp only)); refine box_event ?hg (N := 4) ?hd (cs := #[.slice none 0 0, .slice none 0 0]) (t := 29) ?hr ?_; (case hd => rfl); (case hg => rfl); (case hr => first | (go_simp; done) | (go_simp; rfl)); intro a7 hg w5 hbox hb; have a2 := ak (hbox); have k7 := ak ((by rw [hg]; exact (below_size zd_9) : w.heap.size ≤ a7)); have f6 := ak ((by rw [hg]; exact (below_size zd_9) : w.heap.size ≤ a7)); replace HB := ak (below_step zd_9 hb); have d3 := ak ((by rw [hg]; exact Nat.ne_of_lt (blk_lt (g := a9) (o := .cells #[.slice A0_0 l0_0.length c0_0, .slice A0_1 l0_1.length c0_1] 29 (0, 0)) (xb a1.out)) : a9 ≠ a7)); have d4 := ak ((by rw [hg]; exact Nat.ne_of_gt (blk_lt (g := a9) (o := .cells #[.slice A0_0 l0_0.length c0_0, .slice A0_1 l0_1.length c0_1] 29 (0, 0)) (xb a1.out)) : a7 ≠ a9)); replace a1 := ak (blk_below (g := a9) (o := .cells #[.slice A0_0 l0_0.length c0_0, .slice A0_1 l0_1.length c0_1] 29 (0, 0)) (xb a1.out) hb); clear hb hbox hg) | ((with_reducible refine gate_dst (N := 5) rfl ?_); (try (refine gate_guard (by rfl) ?_; dsimp only)); refine box_event ?hg (N := 5) ?hd (cs := #[.slice none 0 0, .slice none 0 0]) (t := 29) ?hr ?_; (case hd => rfl); (case hg => rfl); (case hr => first | (go_simp; done) | (go_simp; rfl)); intro a5 hg w6 hbox hb; have a0 := ak (hbox); have k8 := ak ((by rw [hg]; exact (below_size zd_7) : w.heap.size ≤ a5)); have h6 := ak ((by rw [hg]; exact (below_size zd_7) : w.heap.size ≤ a5)); replace HB := ak (below_step zd_7 hb); have b1 := ak ((by rw [hg]; exact Nat.ne_of_lt (blk_lt (g := a9) (o := .cells #[.slice A0_0 l0_0.length c0_0, .slice A0_1 l0_1.length c0_1] 29 (0, 0)) (xb a1.out)) : a9 ≠ a5)); have b5 := ak ((by rw [hg]; exact Nat.ne_of_gt (blk_lt (g := a9) (o := .cells #[.slice A0_0 l0_0.length c0_0, .slice A0_1 l0_1.length c0_1] 29 (0, 0)) (xb a1.out)) : a5 ≠ a9)); replace a1 := ak (blk_below (g := a9) (o := .cells #[.slice A0_0 l0_0.length c0_0, .slice A0_1 l0_1.length c0_1] 29 (0, 0)) (xb a1.out) hb); have b4 := ak ((by rw [hg]; exact Nat.ne_of_lt (blk_lt (g := a7) (o := .cells #[.slice none 0 0, .slice none 0 0] 29 (0, 0)) (xb a2.out)) : a7 ≠ a5)); have b7 := ak ((by rw [hg]; exact Nat.ne_of_gt (blk_lt (g := a7) (o := .cells #[.slice none 0 0, .slice none 0 0] 29 (0, 0)) (xb a2.out)) : a5 ≠ a7)); replace a2 := ak (blk_below (g := a7) (o := .cells #[.slice none 0 0, .slice none 0 0] 29 (0, 0)) (xb a2.out) hb); clear hb hbox hg; have u1 := b5.out; have u2 := b1.out; have u3 := b7.out; have u4 := b4.out; have b8 := cz20 a0.out; have b9 := cz21 a0.out; have d0 := blk_frozen a0.out 0; have d1 := blk_frozen a0.out 1))
 (try simp only [Act.put, List.setIfInBounds_toArray, List.set_cons_zero, List.set_cons_succ])
 go_cut [23] (fun u5 wc => ∃ (kq : Nat) (e4 : Bool), u5 = .bool e4 ∧ Aside0 (spec_Renamed.j0 kq l1 e4 l0_0 l0_1 = some (r1, r2)) ∧ Aside0 (kq ≤ k) ∧ Aside0 (wc.heap[a9]? = some (.cells #[(.slice A0_0 l0_0.length c0_0), (.slice A0_1 l0_1.length c0_1)] 29 (0, 0))) ∧ Aside0 (wc.heap[a7]? = some (.cells #[(.slice none 0 0), (.slice none 0 0)] 29 (0, 0))) ∧ Aside0 (wc.heap[a5]? = some (.cells #[(.slice none 0 0), (.slice none 0 0)] 29 (0, 0))) ∧ Aside0 (Below w.heap.size w wc))
 case first =>
  have H := j2.out
  clear j2
  obtain ⟨h7, k9, H⟩ := bd_ H
  try dsimp only at H
  replace H := ox_ H
  rcases H with ⟨rfl, H⟩ | ⟨rfl, H⟩
  ·
   have H' := ak H
   clear H
   have l3 := d3.out
   have l4 := d4.out
   have l5 := b1.out
   have l6 := b5.out
   have b8 := cz20 a1.out
   have b9 := cz21 a1.out
   have d0 := blk_frozen a1.out 0
   have d1 := blk_frozen a1.out 1
   go_wp2_with (first | ((with_reducible refine gate_callee (f := 50) rfl ?_); refine gl_ (some 14) Try.func50 #[.agg #[.slice A0_0 l0_0.length c0_0, .slice A0_1 l0_1.length c0_1]] ?_; (with_reducible refine (spec_LogicOk.calls k _ _ l0_0 _ _ l0_1 true _ (by exact Kd.C_below HR0_0.out zd_0) f7.out (by exact Kd.C_below HR0_1.out zd_0) f8.out k9.out).mono ?_); rintro e w' ⟨rfl, hb⟩; refine ⟨_, rfl, ?_⟩; replace a1 := ak (blk_below (g := a9) (o := .cells #[.slice A0_0 l0_0.length c0_0, .slice A0_1 l0_1.length c0_1] 29 (0, 0)) zd_6 hb); replace a2 := ak (blk_below (g := a7) (o := .cells #[.slice none 0 0, .slice none 0 0] 29 (0, 0)) zd_5 hb); replace a0 := ak (blk_below (g := a5) (o := .cells #[.slice none 0 0, .slice none 0 0] 29 (0, 0)) zd_2 hb); replace HB := ak (below_step zd_0 hb); (try clear hb); (try clear hb2); (try clear hk); (try clear hi); have b8 := cz20 a1.out; have b9 := cz21 a1.out; have d0 := blk_frozen a1.out 0; have d1 := blk_frozen a1.out 1))
   go_meet
   case rel => exact ⟨_, (((l1.length : Int) != (l0_1.length : Int))), zd_8, H', ⟨(by first | omega | exact Nat.le_refl _)⟩, ⟨(xb a1.out)⟩, ⟨(xb a2.out)⟩, ⟨(xb a0.out)⟩, ⟨zd_0⟩⟩
  have H' := ak H
  clear H
  have l7 := d3.out
  have l8 := d4.out
  have l9 := b1.out
  have m0 := b5.out
  have b8 := cz20 a1.out
  have b9 := cz21 a1.out
  have d0 := blk_frozen a1.out 0
  have d1 := blk_frozen a1.out 1
  go_wp2_with (first | ((with_reducible refine gate_callee (f := 50) rfl ?_); refine gl_ (some 14) Try.func50 #[.agg #[.slice A0_0 l0_0.length c0_0, .slice A0_1 l0_1.length c0_1]] ?_; (with_reducible refine (spec_LogicOk.calls k _ _ l0_0 _ _ l0_1 false _ (by exact Kd.C_below HR0_0.out zd_0) f7.out (by exact Kd.C_below HR0_1.out zd_0) f8.out k9.out).mono ?_); rintro e w' ⟨rfl, hb⟩; refine ⟨_, rfl, ?_⟩; replace a1 := ak (blk_below (g := a9) (o := .cells #[.slice A0_0 l0_0.length c0_0, .slice A0_1 l0_1.length c0_1] 29 (0, 0)) zd_6 hb); replace a2 := ak (blk_below (g := a7) (o := .cells #[.slice none 0 0, .slice none 0 0] 29 (0, 0)) zd_5 hb); replace a0 := ak (blk_below (g := a5) (o := .cells #[.slice none 0 0, .slice none 0 0] 29 (0, 0)) zd_2 hb); replace HB := ak (below_step zd_0 hb); (try clear hb); (try clear hb2); (try clear hk); (try clear hi)))
  go_meet
  case rel => exact ⟨_, (true), zd_8, H', ⟨(by first | omega | exact Nat.le_refl _)⟩, ⟨(xb a1.out)⟩, ⟨(xb a2.out)⟩, ⟨(xb a0.out)⟩, ⟨zd_0⟩⟩
 case rest =>
  clear j2
  try clear c1
  try clear b8
  try clear b9
  try clear d0
  try clear d1
  obtain ⟨kq, e4, rfl, HA, h3, a1, a2, a0, HB⟩ := hcut
  cases kq with
  | zero => exact absurd HA.out (by simp [spec_Renamed.j0])
  | succ j3 =>
   have H := HA.out
   clear HA
   simp only [spec_Renamed.j0] at H
   replace H := ox_ H
   rcases H with ⟨rfl, H⟩ | ⟨rfl, H⟩
   ·
    simp only [Option.some.injEq, Prod.mk.injEq] at H
    obtain ⟨rfl, rfl⟩ := H
    have m1 := b5.out
    have m2 := b1.out
    have m3 := b7.out
    have m4 := b4.out
    have b8 := cz20 a0.out
    have b9 := cz21 a0.out
    have d0 := blk_frozen a0.out 0
    have d1 := blk_frozen a0.out 1
    have m5 := d4.out
    have m6 := d3.out
    have b8 := cz20 a2.out
    have b9 := cz21 a2.out
    have d0 := blk_frozen a2.out 0
    have d1 := blk_frozen a2.out 1
    go_wp2
    refine bodyPost_ret (results_cell_row rfl _ _ a7 29 #[.slice none 0 0, .slice none 0 0] (0, 0) _ rfl zd_1 Try.underlying29 rfl (by kernel_rfl)) rfl ?_
    exact ⟨_, _, (by first | rfl | (simp [errW_none, errW_some] <;> rfl) | (simp [*, errW_none, errW_some] <;> rfl)), zd_3, zd_4, zd_0⟩
   replace H := ok_ H
   obtain ⟨h4, H⟩ := H
   have e5 := eq_true h4
   have e6 : decide (0 ≤ (l1.length : Int)) = true := dT_ h4
   clear h4
   replace H := ok_ H
   obtain ⟨h5, H⟩ := H
   have e7 := eq_true h5
   have e8 : decide (((l1.length : Int) : Int).toNat ≤ 35184372088832) = true := dT_ h5
   clear h5
   obtain ⟨y616, hy616⟩ : ∃ y_ : List Int, y_ = (List.replicate ((l1.length : Int) : Int).toNat 0) := ⟨_, rfl⟩
   replace H : (spec_Renamed.l0 j3 l1 y616 0 0 l0_0 l0_1) = some (r1, r2) := by first | (rw [hy616]; with_reducible exact H) | (have H2_ := (Option.bind_some _ _).symm.trans H; rw [hy616]; with_reducible exact H2_) | (have H2_ := (Option.bind_some _ _).symm.trans H; with_reducible exact H2_) | with_reducible exact H | (rw [hy616]; exact H) | exact H
   have Ny616 := ak hy616
   clear hy616
   have H' := ak H
   clear H
   go_wp2_with (first | ((with_reducible refine gate_dst (N := 27) rfl ?_); (try (refine gate_guard (by rfl) ?_; dsimp only)); refine Kd.R_make (Kd.int .i64) _ 3 rfl (N := 27) rfl 23 _ _ rfl (l1.length : Int) rfl rfl Try.underlying23 (.int .i64 0) 8 info3 rfl zd_16 (by omega) 0 (ok := fun _ => True) (okp := fun _ => True) rfl (fun _ hk => hk) trivial (oa_) (Nat.le_trans (Nat.mul_le_mul_right _ (oa_ : (l1.length : Int).toNat ≤ 35184372088832)) (by omega)) (Below.refl _ _) (Nat.le_refl _) ?_; intro d5 x0 ho30 hb hg_ hnew_; clear hg_ hnew_; (first | rw [← Ny616.out] at ho30 | (simp only [Int.reduceToNat] at ho30; rw [← Ny616.out] at ho30)); have h8 := ak (Kd.R_lower ho30 (below_size zd_0)); replace a1 := ak (blk_below (g := a9) (o := .cells #[.slice A0_0 l0_0.length c0_0, .slice A0_1 l0_1.length c0_1] 29 (0, 0)) (xb a1.out) hb); replace a2 := ak (blk_below (g := a7) (o := .cells #[.slice none 0 0, .slice none 0 0] 29 (0, 0)) (xb a2.out) hb); replace a0 := ak (blk_below (g := a5) (o := .cells #[.slice none 0 0, .slice none 0 0] 29 (0, 0)) (xb a0.out) hb); replace HB := ak (below_step zd_0 hb); clear hb ho30))
   go_loopg [7, 8] j3 (fun kq v7 v8 w' => ∃ (d2 : List Int) (e1 : Int) (b2 : Int), v7 = .int .i64 e1 ∧ v8 = .int .i64 b2 ∧ Aside0 (spec_Renamed.l0 kq l1 d2 e1 b2 l0_0 l0_1 = some (r1, r2)) ∧ Aside0 (kq ≤ j3) ∧ Aside0 (Kd.R (Kd.int .i64) 3 w' w.heap.size (fun _ => True) d5 d2) ∧ Aside0 (w'.heap[a9]? = some (.cells #[(.slice A0_0 l0_0.length c0_0), (.slice A0_1 l0_1.length c0_1)] 29 (0, 0))) ∧ Aside0 (w'.heap[a7]? = some (.cells #[(.slice none 0 0), (.slice none 0 0)] 29 (0, 0))) ∧ Aside0 (w'.heap[a5]? = some (.cells #[(.slice none 0 0), (.slice none 0 0)] 29 (0, 0))) ∧ Aside0 (Below w.heap.size w w'))
   case atStart => exact ⟨(y616), (0), (0), zd_8, zd_8, H', ⟨Nat.le_refl _⟩, ⟨(xR h8.out)⟩, ⟨(xb a1.out)⟩, ⟨(xb a2.out)⟩, ⟨(xb a0.out)⟩, ⟨zd_0⟩⟩
   case round =>
    clear H'
    try clear c1
    try clear m7
    try clear h4
    try clear e5
    try clear e6
    try clear h5
    try clear e7
    try clear e8
    try clear b8
    try clear b9
    try clear d0
    try clear d1
    obtain ⟨d2, e1, b2, rfl, rfl, HA, HK2, b3, a1, a2, a0, HB⟩ := hrel
    cases gk with
    | zero => exact absurd HA.out (by simp [spec_Renamed.l0])
    | succ k2 =>
     have H := HA.out
     clear HA
     simp only [spec_Renamed.l0] at H
     replace H := os_ H
     rcases H with ⟨e9, H⟩ | ⟨e9, H⟩
     ·
      replace H := od_ H
      obtain ⟨m8, H⟩ := H
      obtain ⟨u6, j4, H⟩ := bd_ H
      try dsimp only at H
      replace H := ox_ H
      rcases H with ⟨rfl, H⟩ | ⟨rfl, H⟩
      ·
       replace H := od2 H
       obtain ⟨m9, n0, H⟩ := H
       obtain ⟨y622, hy622⟩ : ∃ y_ : List Int, y_ = (d2.set ((rd l1 b2) : Int).toNat b2) := ⟨_, rfl⟩
       replace H : (spec_Renamed.l0 k2 l1 y622 (Go.bits .or .i64 e1 (shl .i64 1 (rd l1 b2))) (wrap64 (b2 + 1)) l0_0 l0_1) = some (r1, r2) := by first | (rw [hy622]; with_reducible exact H) | (have H2_ := (Option.bind_some _ _).symm.trans H; rw [hy622]; with_reducible exact H2_) | (have H2_ := (Option.bind_some _ _).symm.trans H; with_reducible exact H2_) | with_reducible exact H | (rw [hy622]; exact H) | exact H
       have Ny622 := ak hy622
       clear hy622
       have n1 := eq_true (oa_ : 0 ≤ (rd l1 b2))
       obtain ⟨ji39, hji39⟩ : ∃ j_ : Int, (shl .i64 1 (rd l1 b2)) = j_ := ⟨_, rfl⟩
       replace H : (spec_Renamed.l0 k2 l1 y622 (Go.bits .or .i64 e1 (ji39)) (wrap64 (b2 + 1)) l0_0 l0_1) = some (r1, r2) := by first | (rw [hji39] at H; exact H) | (simp only [hji39] at H ⊢; exact H)
       (try rw [hji39] at j4)
       have hji39_ : (IntKind.i64.wrap (1 * 2 ^ min (rd l1 b2).toNat 64)) = ji39 := hji39
       have hji39z : (rd l1 b2) ≤ 64 → (IntKind.i64.wrap (1 * 2 ^ (rd l1 b2).toNat)) = ji39 := shl_small hji39
       have hji39u : (IntKind.i64.wrap (2 ^ min (rd l1 b2).toNat 64)) = ji39 := by have h_ := hji39_; rw [Int.one_mul] at h_; exact h_
       have hji39v : (rd l1 b2) ≤ 64 → (IntKind.i64.wrap (2 ^ (rd l1 b2).toNat)) = ji39 := fun hle_ => by have h_ := hji39z hle_; rw [Int.one_mul] at h_; exact h_
       have hji39y : (wrap64 (1 * 2 ^ min (rd l1 b2).toNat 64)) = ji39 := (i64_w _).symm.trans hji39_
       have hji39x : (rd l1 b2) ≤ 64 → (wrap64 (1 * 2 ^ (rd l1 b2).toNat)) = ji39 := fun h_ => (i64_w _).symm.trans (hji39z h_)
       have H' := ak H
       clear H
       have e2 : 0 ≤ (b2 : Int) := oa_
       have q619 : b2 < (l1.length : Int) := oa_
       obtain ⟨ad619, e619, hx619_0⟩ := Kd.at_int HR1.out b2 e2 q619
       cases e619
       replace hx619_0 := (HB.out.cell (World.block_lt_of_cell? w _ hx619_0)).trans hx619_0
       replace e2 := eq_true e2
       replace q619 := eq_true q619
       go_wp2_with (first | ((with_reducible refine gate_callee (f := 66) rfl ?_); refine gl_ (some 41) Try.func66 #[.int .i64 (rd l1 b2), .int .i64 0, .int .i64 (wrap64 ((l1.length : Int) - 1))] ?_; (with_reducible refine (spec_l1In.calls (rd l1 b2) 0 (wrap64 ((l1.length : Int) - 1)) true _ j4.out).mono ?_); rintro e w' ⟨rfl, ⟨nd, rfl⟩⟩; refine ⟨_, rfl, ?_⟩; (try (rw [drewN_self wr]; generalize hq_ : World.drewN wr _ = wr; have n0_ : Aside0 (Kd.R (Kd.int .i64) 3 wr w.heap.size (fun _ => True) d5 d2) := ⟨(by rw [← hq_]; exact (xR b3.out))⟩; have n1_ : Aside0 (wr.heap[a9]? = some (.cells #[.slice A0_0 l0_0.length c0_0, .slice A0_1 l0_1.length c0_1] 29 (0, 0))) := ⟨(by rw [← hq_]; exact (xb a1.out))⟩; have n2_ : Aside0 (wr.heap[a7]? = some (.cells #[.slice none 0 0, .slice none 0 0] 29 (0, 0))) := ⟨(by rw [← hq_]; exact (xb a2.out))⟩; have n3_ : Aside0 (wr.heap[a5]? = some (.cells #[.slice none 0 0, .slice none 0 0] 29 (0, 0))) := ⟨(by rw [← hq_]; exact (xb a0.out))⟩; have n4_ : Aside0 (Below w.heap.size w wr) := ⟨(by rw [← hq_]; exact zd_0)⟩; clear b3 a1 a2 a0 HB hq_; have b3 := n0_; have a1 := n1_; have a2 := n2_; have a0 := n3_; have HB := n4_; clear n0_ n1_ n2_ n3_ n4_)); have g2 : 0 ≤ (b2 : Int) := oa_; have q621 : b2 < (l1.length : Int) := oa_; obtain ⟨ad621, e621, hx621_0⟩ := Kd.at_int HR1.out b2 g2 q621; obtain rfl : ad619 = ad621 := (by injection e621); replace hx621_0 := (HB.out.cell (World.block_lt_of_cell? w _ hx621_0)).trans hx621_0; replace g2 := eq_true g2; replace q621 := eq_true q621; have j5 : 0 ≤ ((rd l1 b2) : Int) := oa_; have q37 : ((rd l1 b2) : Int) < ((d2.length : Int) : Int) := oa_; obtain ⟨go37, j6, h9, i0, gl37, cl37, HG37⟩ := Kd.R_form b3.out (by omega); (first | cases h9 | (injection h9 with ea_ en_ ec_; (first | subst ea_ | (injection ea_ with ea_; subst ea_)); subst ec_; clear en_)); have GB37 := ak i0; have GG37 := ak HG37; clear i0 gl37 HG37; obtain ⟨hx37_0, hf37_0⟩ := Kd.R_celln 0 b3.out ((rd l1 b2) : Int) j5 q37; replace j5 := eq_true j5; replace q37 := eq_true q37; obtain ⟨hy40_, hz40_⟩ := Kd.R_celln 0 b3.out ((rd l1 b2) : Int) (oa_) (oa_); have HP40 := Kd.R_putg b3.out ((rd l1 b2) : Int) b2) | ((with_reducible refine gate_store (t := 3) (p := 50) rfl ?_); refine store_event (t := 3) (p := 50) (v := ?vo_w41) (w1 := (wr.setCell ⟨go37, ((rd l1 b2) : Int).toNat, none⟩ (.int .i64 b2))) ?hg ?ho ?hn ?hr ?_; (case ho => rfl); (case hg => rfl); (case hn => rfl); (case hr => first | (go_simp; done) | (go_simp; rfl)); intro j7 hw; have hg : wr.grownBy j7 (some go37) := (by rw [hw]; exact HP40.2); have hp_ : Kd.R (Kd.int .i64) 3 j7 w.heap.size (fun _ => True) (.slice (some ⟨go37, 0, none⟩) d2.length j6) y622 := (by rw [hw, Ny622.out]; exact HP40.1); clear HP40; replace a1 := ak (blk_grown (g := a9) (o := .cells #[.slice A0_0 l0_0.length c0_0, .slice A0_1 l0_1.length c0_1] 29 (0, 0)) (xb a1.out) hg (Kd.R_ne b3.out a1.out zd_16)); replace a2 := ak (blk_grown (g := a7) (o := .cells #[.slice none 0 0, .slice none 0 0] 29 (0, 0)) (xb a2.out) hg (Kd.R_ne b3.out a2.out zd_16)); replace a0 := ak (blk_grown (g := a5) (o := .cells #[.slice none 0 0, .slice none 0 0] 29 (0, 0)) (xb a0.out) hg (Kd.R_ne b3.out a0.out zd_16)); replace b3 := ak (hp_); replace HB := ak ((by rw [hw]; exact below_set (HB.out) GB37.out : Below w.heap.size w j7)); clear hg hw hp_; have g3 : 0 ≤ (b2 : Int) := oa_; have q623 : b2 < (l1.length : Int) := oa_; obtain ⟨ad623, e623, hx623_0⟩ := Kd.at_int HR1.out b2 g3 q623; obtain rfl : ad619 = ad623 := (by injection e623); replace hx623_0 := (HB.out.cell (World.block_lt_of_cell? w _ hx623_0)).trans hx623_0; replace g3 := eq_true g3; replace q623 := eq_true q623))
       go_roundg k2
       case measure => have := h3.out; have := HK2.out; omega
       case rel => exact ⟨(y622), (Go.bits .or .i64 e1 (ji39)), (wrap64 (b2 + 1)), (by first | rfl | (simp; done) | (simp only [← hji39] <;> (first | rfl | simp)) | (simp [*]; done)), zd_8, H', ⟨(by have := h3.out; have := HK2.out; omega)⟩, ⟨(xR b3.out)⟩, ⟨(xb a1.out)⟩, ⟨(xb a2.out)⟩, ⟨(xb a0.out)⟩, ⟨zd_0⟩⟩
      simp only [Option.some.injEq, Prod.mk.injEq] at H
      obtain ⟨rfl, rfl⟩ := H
      have e2 : 0 ≤ (b2 : Int) := oa_
      have q619 : b2 < (l1.length : Int) := oa_
      obtain ⟨ad619, e619, hx619_0⟩ := Kd.at_int HR1.out b2 e2 q619
      cases e619
      replace hx619_0 := (HB.out.cell (World.block_lt_of_cell? w _ hx619_0)).trans hx619_0
      replace e2 := eq_true e2
      replace q619 := eq_true q619
      go_wp2_with (first | ((with_reducible refine gate_callee (f := 66) rfl ?_); refine gl_ (some 41) Try.func66 #[.int .i64 (rd l1 b2), .int .i64 0, .int .i64 (wrap64 ((l1.length : Int) - 1))] ?_; (with_reducible refine (spec_l1In.calls (rd l1 b2) 0 (wrap64 ((l1.length : Int) - 1)) false _ j4.out).mono ?_); rintro e w' ⟨rfl, ⟨nd, rfl⟩⟩; refine ⟨_, rfl, ?_⟩; (try (rw [drewN_self wr]; generalize hq_ : World.drewN wr _ = wr; have n0_ : Aside0 (Kd.R (Kd.int .i64) 3 wr w.heap.size (fun _ => True) d5 d2) := ⟨(by rw [← hq_]; exact (xR b3.out))⟩; have n1_ : Aside0 (wr.heap[a9]? = some (.cells #[.slice A0_0 l0_0.length c0_0, .slice A0_1 l0_1.length c0_1] 29 (0, 0))) := ⟨(by rw [← hq_]; exact (xb a1.out))⟩; have n2_ : Aside0 (wr.heap[a7]? = some (.cells #[.slice none 0 0, .slice none 0 0] 29 (0, 0))) := ⟨(by rw [← hq_]; exact (xb a2.out))⟩; have n3_ : Aside0 (wr.heap[a5]? = some (.cells #[.slice none 0 0, .slice none 0 0] 29 (0, 0))) := ⟨(by rw [← hq_]; exact (xb a0.out))⟩; have n4_ : Aside0 (Below w.heap.size w wr) := ⟨(by rw [← hq_]; exact zd_0)⟩; clear b3 a1 a2 a0 HB hq_; have b3 := n0_; have a1 := n1_; have a2 := n2_; have a0 := n3_; have HB := n4_; clear n0_ n1_ n2_ n3_ n4_)); have n2 := b5.out; have n3 := b1.out; have n4 := b7.out; have n5 := b4.out; have b8 := cz20 a0.out; have b9 := cz21 a0.out; have d0 := blk_frozen a0.out 0; have d1 := blk_frozen a0.out 1; have n6 := d4.out; have n7 := d3.out; have b8 := cz20 a2.out; have b9 := cz21 a2.out; have d0 := blk_frozen a2.out 0; have d1 := blk_frozen a2.out 1))
      refine bodyPost_ret (results_cell_row rfl _ _ a7 29 #[.slice none 0 0, .slice none 0 0] (0, 0) _ rfl zd_1 Try.underlying29 rfl (by kernel_rfl)) rfl ?_
      exact ⟨_, _, (by first | rfl | (simp [errW_none, errW_some] <;> rfl) | (simp [*, errW_none, errW_some] <;> rfl)), zd_3, zd_4, zd_0⟩
     obtain ⟨ji47, hji47⟩ : ∃ j_ : Int, (shl .i64 1 (l1.length : Int)) = j_ := ⟨_, rfl⟩
     replace H : (if e1 = (wrap64 ((ji47) - 1)) then (spec_Renamed.l1 k2 l1 d2 0 l0_0 l0_1 ([] : List (List Int)) ([] : List Int)) else (some (([] : List (List Int)), ([] : List Int)))) = some (r1, r2) := by first | (rw [hji47] at H; exact H) | (simp only [hji47] at H ⊢; exact H)
     have hji47_ : (IntKind.i64.wrap (1 * 2 ^ min (l1.length : Int).toNat 64)) = ji47 := hji47
     have hji47z : (l1.length : Int) ≤ 64 → (IntKind.i64.wrap (1 * 2 ^ (l1.length : Int).toNat)) = ji47 := shl_small hji47
     have hji47p : (IntKind.i64.wrap (1 * 2 ^ min l1.length 64)) = ji47 := hji47_
     have hji47q : (l1.length : Int) ≤ 64 → (IntKind.i64.wrap (1 * 2 ^ l1.length)) = ji47 := hji47z
     have hji47r : (IntKind.i64.wrap (2 ^ min l1.length 64)) = ji47 := by have h_ := hji47p; rw [Int.one_mul] at h_; exact h_
     have hji47s : (l1.length : Int) ≤ 64 → (IntKind.i64.wrap (2 ^ l1.length)) = ji47 := fun hle_ => by have h_ := hji47q hle_; rw [Int.one_mul] at h_; exact h_
     have hji47u : (IntKind.i64.wrap (2 ^ min (l1.length : Int).toNat 64)) = ji47 := by have h_ := hji47_; rw [Int.one_mul] at h_; exact h_
     have hji47v : (l1.length : Int) ≤ 64 → (IntKind.i64.wrap (2 ^ (l1.length : Int).toNat)) = ji47 := fun hle_ => by have h_ := hji47z hle_; rw [Int.one_mul] at h_; exact h_
     have hji47y : (wrap64 (1 * 2 ^ min (l1.length : Int).toNat 64)) = ji47 := (i64_w _).symm.trans hji47_
     have hji47x : (l1.length : Int) ≤ 64 → (wrap64 (1 * 2 ^ (l1.length : Int).toNat)) = ji47 := fun h_ => (i64_w _).symm.trans (hji47z h_)
     replace H := oe2 H
     rcases H with ⟨⟨-, f0, f1⟩, H⟩ | ⟨⟨n8, f0, f1⟩, H⟩
     ·
      have H' := ak H
      clear H
      go_wp2
      go_loopg [9] k2 (fun kq v9 w' => ∃ (b0 : Int) (a8 : List (List Int)) (a6 : List Int) (u615000 : Value) (u615001 : Value), v9 = .int .i64 b0 ∧ Aside0 (spec_Renamed.l1 kq l1 d2 b0 l0_0 l0_1 a8 a6 = some (r1, r2)) ∧ Aside0 (kq ≤ k2) ∧ Aside0 (Kd.R (Kd.int .i64) 3 w' w.heap.size (fun k_ => some k_ ≠ (u615001 : Value).ownBlock) d5 d2) ∧ Aside0 (Kd.S (Kd.slice 3 (Kd.int .i64)) 23 w' w.heap.size (fun k_ => some k_ ≠ (d5 : Value).ownBlock ∧ some k_ ≠ (u615001 : Value).ownBlock) u615000 a8) ∧ Aside0 (Kd.R (Kd.int .i64) 3 w' w.heap.size (fun k_ => some k_ ≠ (d5 : Value).ownBlock) u615001 a6) ∧ Aside0 (w'.heap[a9]? = some (.cells #[(.slice A0_0 l0_0.length c0_0), (.slice A0_1 l0_1.length c0_1)] 29 (0, 0))) ∧ Aside0 (w'.heap[a7]? = some (.cells #[(.slice none 0 0), (.slice none 0 0)] 29 (0, 0))) ∧ Aside0 (w'.heap[a5]? = some (.cells #[u615000, u615001] 29 (0, 0))) ∧ Aside0 (Below w.heap.size w w'))
      case atStart => exact ⟨(0), (([] : List (List Int))), (([] : List Int)), (.slice none 0 0), (.slice none 0 0), zd_8, H', ⟨Nat.le_refl _⟩, ⟨(by (with_reducible repeat (first | apply Kd.R_alloc | apply Kd.R_drewN | apply Kd.R_drew)); exact Kd.R_mono b3.out (fun _ hk => (by simp [Value.ownBlock])))⟩, ⟨zd_3⟩, ⟨zd_4⟩, ⟨(xb a1.out)⟩, ⟨(xb a2.out)⟩, ⟨(xb a0.out)⟩, ⟨zd_0⟩⟩
      case round =>
       clear H'
       try clear c1
       try clear m7
       try clear h4
       try clear e5
       try clear e6
       try clear h5
       try clear e7
       try clear e8
       try clear u7
       try clear e9
       try clear n8
       try clear f0
       try clear f1
       try clear b8
       try clear b9
       try clear d0
       try clear d1
       obtain ⟨b0, a8, a6, u615000, u615001, rfl, HA, HK3, b3, a4, a3, a1, a2, a0, HB⟩ := hrel
       cases gk with
       | zero => exact absurd HA.out (by simp [spec_Renamed.l1])
       | succ k3 =>
        have H := HA.out
        clear HA
        simp only [spec_Renamed.l1] at H
        replace H := os_ H
        rcases H with ⟨f9, H⟩ | ⟨f9, H⟩
        ·
         obtain ⟨y624, hy624⟩ : ∃ y_ : List Int, y_ = (([] : List Int)) := ⟨_, rfl⟩
         replace H : (spec_Renamed.l2 k3 l1 d2 b0 y624 0 l0_0 l0_1 a8 a6) = some (r1, r2) := by first | (rw [hy624]; with_reducible exact H) | (have H2_ := (Option.bind_some _ _).symm.trans H; rw [hy624]; with_reducible exact H2_) | (have H2_ := (Option.bind_some _ _).symm.trans H; with_reducible exact H2_) | with_reducible exact H | (rw [hy624]; exact H) | exact H
         have Ny624 := ak hy624
         clear hy624
         have H' := ak H
         clear H
         go_wp2_with (first | ((with_reducible refine gate_dst (N := 71) rfl ?_); (try (refine gate_guard (by rfl) ?_; dsimp only)); refine Kd.R_lit (Kd.int .i64) _ 3 ?hg (N := 71) ?hd (xs := ([] : List Int)) (inner := []) (ok := fun _ => True) (okp := fun _ => True) ?hr ?hp (fun _ hk => hk) trivial (Below.refl _ _) (Nat.le_refl _) (by simp) ?_; (case hd => rfl); (case hg => rfl); (case hr => first | (go_simp; done) | (go_simp; rfl)); (case hp => exact (Reps.none _ _)); intro u8 x1 ho51 hb hg_ hnew_; clear hg_ hnew_; (first | rw [← Ny624.out] at ho51 | (simp only [Int.reduceToNat] at ho51; rw [← Ny624.out] at ho51)); replace a4 := ak (Kd.S_elder' (xS a4.out) (Kd.R_base ho51) hb); have i1 := ak (Kd.R_lower (Kd.R_new' (Kd.R_new' ho51 (Kd.R_lt (xR b3.out))) (Kd.R_lt (xR a3.out))) (below_size zd_0)); replace b3 := ak (Kd.R_elder' (xR b3.out) (Kd.R_base ho51) hb); replace a3 := ak (Kd.R_elder' (xR a3.out) (Kd.R_base ho51) hb); replace a1 := ak (blk_below (g := a9) (o := .cells #[.slice A0_0 l0_0.length c0_0, .slice A0_1 l0_1.length c0_1] 29 (0, 0)) (xb a1.out) hb); replace a2 := ak (blk_below (g := a7) (o := .cells #[.slice none 0 0, .slice none 0 0] 29 (0, 0)) (xb a2.out) hb); replace a0 := ak (blk_below (g := a5) (o := .cells #[u615000, u615001] 29 (0, 0)) (xb a0.out) hb); replace HB := ak (below_step zd_0 hb); clear hb ho51))
         go_loopg [10, 11] k3 (fun kq i9 u9 w' => ∃ (e0 : List Int) (b6 : Int), u9 = .int .i64 b6 ∧ Aside0 (spec_Renamed.l2 kq l1 d2 b0 e0 b6 l0_0 l0_1 a8 a6 = some (r1, r2)) ∧ Aside0 (kq ≤ k3) ∧ Aside0 (Kd.R (Kd.int .i64) 3 w' w.heap.size (fun k_ => some k_ ≠ (i9 : Value).ownBlock ∧ some k_ ≠ (u615001 : Value).ownBlock) d5 d2) ∧ Aside0 (Kd.R (Kd.int .i64) 3 w' w.heap.size (fun k_ => some k_ ≠ (d5 : Value).ownBlock ∧ some k_ ≠ (u615001 : Value).ownBlock) i9 e0) ∧ Aside0 (Kd.S (Kd.slice 3 (Kd.int .i64)) 23 w' w.heap.size (fun k_ => some k_ ≠ (d5 : Value).ownBlock ∧ some k_ ≠ (i9 : Value).ownBlock ∧ some k_ ≠ (u615001 : Value).ownBlock) u615000 a8) ∧ Aside0 (Kd.R (Kd.int .i64) 3 w' w.heap.size (fun k_ => some k_ ≠ (d5 : Value).ownBlock ∧ some k_ ≠ (i9 : Value).ownBlock) u615001 a6) ∧ Aside0 (w'.heap[a9]? = some (.cells #[(.slice A0_0 l0_0.length c0_0), (.slice A0_1 l0_1.length c0_1)] 29 (0, 0))) ∧ Aside0 (w'.heap[a7]? = some (.cells #[(.slice none 0 0), (.slice none 0 0)] 29 (0, 0))) ∧ Aside0 (w'.heap[a5]? = some (.cells #[u615000, u615001] 29 (0, 0))) ∧ Aside0 (Below w.heap.size w w'))
         case atStart => exact ⟨(y624), (0), zd_8, H', ⟨Nat.le_refl _⟩, ⟨zd_10⟩, ⟨(by (with_reducible repeat (first | apply Kd.R_alloc | apply Kd.R_drewN | apply Kd.R_drew)); exact Kd.R_mono i1.out (fun _ hk => ⟨hk.1.2, hk.2⟩))⟩, ⟨zd_15⟩, ⟨(xR a3.out)⟩, ⟨(xb a1.out)⟩, ⟨(xb a2.out)⟩, ⟨(xb a0.out)⟩, ⟨zd_0⟩⟩
         case round =>
          clear H'
          try clear c1
          try clear m7
          try clear h4
          try clear e5
          try clear e6
          try clear h5
          try clear e7
          try clear e8
          try clear u7
          try clear e9
          try clear n8
          try clear f0
          try clear f1
          try clear x2
          try clear f9
          try clear b8
          try clear b9
          try clear d0
          try clear d1
          obtain ⟨e0, b6, rfl, HA, HK4, b3, d6, a4, a3, a1, a2, a0, HB⟩ := hrel
          cases gk with
          | zero => exact absurd HA.out (by simp [spec_Renamed.l2])
          | succ k4 =>
           have H := HA.out
           clear HA
           simp only [spec_Renamed.l2] at H
           replace H := os_ H
           rcases H with ⟨i2, H⟩ | ⟨i2, H⟩
           ·
            replace H := od6 H
            obtain ⟨n9, o0, o1, o2, o3, o4, H⟩ := H
            replace H := od_ H
            obtain ⟨o5, H⟩ := H
            replace H := ok_ H
            obtain ⟨o6, H⟩ := H
            have LMc60 := ak o6
            clear o6
            obtain ⟨y631, hy631⟩ : ∃ y_ : List Int, y_ = (e0 ++ [rd (rd_L1 l0_0 (rd l1 b0)) (rd l1 b6)]) := ⟨_, rfl⟩
            replace H : (spec_Renamed.l2 k4 l1 d2 b0 y631 (wrap64 (b6 + 1)) l0_0 l0_1 a8 a6) = some (r1, r2) := by first | (rw [hy631]; with_reducible exact H) | (have H2_ := (Option.bind_some _ _).symm.trans H; rw [hy631]; with_reducible exact H2_) | (have H2_ := (Option.bind_some _ _).symm.trans H; with_reducible exact H2_) | with_reducible exact H | (rw [hy631]; exact H) | exact H
            have Ny631 := ak hy631
            clear hy631
            have H' := ak H
            clear H
            try go_wp2
            replace b3 := ak (Kd.R_drew b3.out)
            replace d6 := ak (Kd.R_drew d6.out)
            replace a4 := ak (Kd.S_drew a4.out)
            replace a3 := ak (Kd.R_drew a3.out)
            replace a1 := ak (blk_drew a1.out)
            replace a2 := ak (blk_drew a2.out)
            replace a0 := ak (blk_drew a0.out)
            replace HB := ak (below_drew1 HB.out)
            have g4 : 0 ≤ (b0 : Int) := oa_
            have q627 : b0 < (l1.length : Int) := oa_
            obtain ⟨ad627, e627, hx627_0⟩ := Kd.at_int HR1.out b0 g4 q627
            have hw627_0 := hx627_0
            cases e627
            replace hx627_0 := (HB.out.cell (World.block_lt_of_cell? w _ hx627_0)).trans hx627_0
            replace g4 := eq_true g4
            replace q627 := eq_true q627
            have g5 : 0 ≤ ((rd l1 b0) : Int) := oa_
            have q628 : (rd l1 b0) < (l0_0.length : Int) := oa_
            obtain ⟨ad628, j8, g6, e628, hx628_0, hl628_0, hi628_0⟩ := at_L1 HR0_0.out (rd l1 b0) g5 q628
            have hw628_0 := hx628_0
            cases e628
            replace hx628_0 := (HB.out.cell (World.block_lt_of_cell? w _ hx628_0)).trans hx628_0
            have HR628_0 := ak hi628_0
            have j1 := ak hl628_0
            clear hi628_0 hl628_0
            replace g5 := eq_true g5
            replace q628 := eq_true q628
            have g7 : 0 ≤ (b6 : Int) := oa_
            have q629 : b6 < (l1.length : Int) := oa_
            obtain ⟨ad629, e629, hx629_0⟩ := Kd.at_int HR1.out b6 g7 q629
            have hw629_0 := hx629_0
            obtain rfl := ij_ e629
            replace hx629_0 := (HB.out.cell (World.block_lt_of_cell? w _ hx629_0)).trans hx629_0
            replace g7 := eq_true g7
            replace q629 := eq_true q629
            have g8 : 0 ≤ ((rd l1 b6) : Int) := oa_
            have q630 : (rd l1 b6) < ((rd_L1 l0_0 (rd l1 b0)).length : Int) := oa_
            obtain ⟨ad630, e630, hx630_0⟩ := Kd.at_int HR628_0.out (rd l1 b6) g8 q630
            have hw630_0 := hx630_0
            cases e630
            replace hx630_0 := (HB.out.cell (World.block_lt_of_cell? w _ hx630_0)).trans hx630_0
            replace g8 := eq_true g8
            replace q630 := eq_true q630
            refine start_ (n := 18) (S := fun w' => w'.cell? ⟨a9, 0, none⟩ = some (.slice (some ad628) l0_0.length c0_0) ∧ w'.cell? ⟨a9, 1, none⟩ = some (.slice A0_1 l0_1.length c0_1) ∧ w'.cell? (ad627.add (b0).toNat) = some (.int .i64 (rd l1 b0)) ∧ w'.cell? (ad628.add ((rd l1 b0)).toNat) = some (.slice (some ad630) (rd_L1 l0_0 (rd l1 b0)).length g6) ∧ w'.cell? (ad627.add (b6).toNat) = some (.int .i64 (rd l1 b6)) ∧ w'.cell? (ad630.add ((rd l1 b6)).toNat) = some (.int .i64 (rd (rd_L1 l0_0 (rd l1 b0)) (rd l1 b6)))) (ds := []) (bA 18 0) (by kernel_rfl) rfl rfl ⟨(blk_cell a1.out 0).trans rfl, (blk_cell a1.out 1).trans rfl, ((HB.out.cell (World.block_lt_of_cell? w _ hw627_0)).trans hw627_0), ((HB.out.cell (World.block_lt_of_cell? w _ hw628_0)).trans hw628_0), ((HB.out.cell (World.block_lt_of_cell? w _ hw629_0)).trans hw629_0), ((HB.out.cell (World.block_lt_of_cell? w _ hw630_0)).trans hw630_0)⟩ (fun hHeld => ?_); refine with_tabW spec_Renamed.tab22 spec_Renamed.bits22 (fun HT_ HW_ => ?_)
            generalize wr.drew = x3 at b3 d6 a4 a3 a1 a2 a0 HB HR628_0 hx627_0 hx628_0 hx629_0 hx630_0 hHeld ⊢
            refine pu_ (i := 0) (N := some 78) (bA 18 1) ?_
            refine pu_ (i := 1) (N := some 79) (bA 18 3) ?_
            refine pu_ (i := 3) (N := some 81) (bA 18 11) ?_
            refine pu_ (i := 4) (N := some 82) (bA 18 27) ?_
            refine pu_ (i := 5) (N := some 83) (bA 18 59) ?_
            refine pu_ (i := 9) (N := some 87) (bA 18 571) ?_
            refine pu_ (i := 10) (N := some 88) (bA 18 1595) ?_
            refine pu_ (i := 11) (N := some 89) (bA 18 3643) ?_
            refine tk_ (i := 2) (N := some 80) (bA 18 3647) ?_
            refine tk_ (i := 6) (N := some 84) (bA 18 3711) ?_
            refine pu_ (i := 7) (N := some 85) (bA 18 3839) ?_
            refine tk_ (i := 8) (N := some 86) (bA 18 4095) ?_
            refine tk_ (i := 12) (N := some 90) (bA 18 8191) ?_
            refine pu_ (i := 13) (N := some 91) (bA 18 16383) ?_
            refine tk_ (i := 14) (N := some 92) (bA 18 32767) ?_
            refine one_ (i := 15) (N := some 93) (bA 18 65535) rfl rfl (one_of HT_.out (by kernel_rfl)) zd_16 (fun K hK => ?_)
            refine value_ (w1 := ?_) (v := ?_) (by rfl) rfl ?_ ?_
            rotate_left 2
            ·
             go_simp
             constructor
             ·
              rfl
             rfl
            refine hK.out _ _ ⟨(blk_cell (blk_alloc a1.out _) 0).trans rfl, (blk_cell (blk_alloc a1.out _) 1).trans rfl, (World.cell?_alloc_lt _ _ _ (World.block_lt_of_cell? _ _ (((HB.out.cell (World.block_lt_of_cell? w _ hw627_0)).trans hw627_0)))).trans (((HB.out.cell (World.block_lt_of_cell? w _ hw627_0)).trans hw627_0)), (World.cell?_alloc_lt _ _ _ (World.block_lt_of_cell? _ _ (((HB.out.cell (World.block_lt_of_cell? w _ hw628_0)).trans hw628_0)))).trans (((HB.out.cell (World.block_lt_of_cell? w _ hw628_0)).trans hw628_0)), (World.cell?_alloc_lt _ _ _ (World.block_lt_of_cell? _ _ (((HB.out.cell (World.block_lt_of_cell? w _ hw629_0)).trans hw629_0)))).trans (((HB.out.cell (World.block_lt_of_cell? w _ hw629_0)).trans hw629_0)), (World.cell?_alloc_lt _ _ _ (World.block_lt_of_cell? _ _ (((HB.out.cell (World.block_lt_of_cell? w _ hw630_0)).trans hw630_0)))).trans (((HB.out.cell (World.block_lt_of_cell? w _ hw630_0)).trans hw630_0))⟩ (fun hHeld => ?_)
            clear hK K
            refine no_ (N := some 93) ?_
            refine one_ (i := 16) (N := some 94) (bA 18 131071) rfl rfl (one_of HT_.out (by kernel_rfl)) zd_16 (fun K hK => ?_)
            refine Kd.R_append_step (Kd.int .i64) (w0 := w) w.heap.size (by rfl) (.tmp 78) (.tmp 93) 23 3 (.int .i64 0) 8 rfl Try.underlying23 info3 rfl zd_16 (by omega) u10 e0 (rd (rd_L1 l0_0 (rd l1 b0)) (rd l1 b6)) [.int .i64 (rd (rd_L1 l0_0 (rd l1 b0)) (rd l1 b6))] (fun k_ => some k_ ≠ (d5 : Value).ownBlock ∧ some k_ ≠ (u615001 : Value).ownBlock) (fun _ => False) rfl rfl ?aP (fun _ hk => hk.elim) ?aF ?aO ?aB ?aS ?aL ?_
            (case aP => exact rfl)
            (case aB => exact zd_0)
            (case aF => exact (fun k_ hk => ⟨Kd.fresh' (Kd.R_lt (xR b3.out)) k_ hk, Kd.fresh' (Kd.R_lt (xR a3.out)) k_ hk⟩))
            (case aO => exact (xR d6.out))
            (case aS => exact (below_size zd_0))
            (case aL => have := LMc60.out; omega)
            intro v0 x4 ho hb hg hat
            rw [← Ny631.out] at ho
            replace b3 := ak (Kd.R_after (ok := (fun k_ => some k_ ≠ (u615001 : Value).ownBlock)) zd_10 hg hat)
            replace a4 := ak (Kd.S_after (ok := (fun k_ => some k_ ≠ (d5 : Value).ownBlock ∧ some k_ ≠ (u615001 : Value).ownBlock)) (by (with_reducible repeat (first | apply Kd.S_alloc | apply Kd.S_drewN | apply Kd.S_drew)); exact Kd.S_mono a4.out (fun _ hk => ⟨⟨hk.1, hk.2.2⟩, hk.2.1⟩)) hg hat)
            replace a3 := ak (Kd.R_after (ok := (fun k_ => some k_ ≠ (d5 : Value).ownBlock)) (xR a3.out) hg hat)
            replace a1 := ak (blk_grown (g := a9) (o := .cells #[.slice (some ad628) l0_0.length c0_0, .slice A0_1 l0_1.length c0_1] 29 (0, 0)) (xb a1.out) hg (Kd.R_ne d6.out a1.out zd_16))
            replace a2 := ak (blk_grown (g := a7) (o := .cells #[.slice none 0 0, .slice none 0 0] 29 (0, 0)) (xb a2.out) hg (Kd.R_ne d6.out a2.out zd_16))
            replace a0 := ak (blk_grown (g := a5) (o := .cells #[u615000, u615001] 29 (0, 0)) (xb a0.out) hg (Kd.R_ne d6.out a0.out zd_16))
            replace HB := ak (hb)
            have i3 := ak (ho)
            clear d6 ho hb hg hat
            refine hK.out _ _ ⟨(blk_cell a1.out 0).trans rfl, (blk_cell a1.out 1).trans rfl, ((HB.out.cell (World.block_lt_of_cell? w _ hw627_0)).trans hw627_0), ((HB.out.cell (World.block_lt_of_cell? w _ hw628_0)).trans hw628_0), ((HB.out.cell (World.block_lt_of_cell? w _ hw629_0)).trans hw629_0), ((HB.out.cell (World.block_lt_of_cell? w _ hw630_0)).trans hw630_0)⟩ (fun hHeld => ?_)
            clear hK K
            refine no_ (N := some 94) ?_
            refine pu_ (i := 17) (N := some 10) (bA 18 262143) ?_
            refine done_ (done_of HT_.out (by kernel_rfl)) ?_
            try go_wp2
            go_roundg k4
            case measure => have := h3.out; have := HK2.out; have := HK3.out; have := HK4.out; omega
            case rel => exact ⟨(y631), (wrap64 (b6 + 1)), zd_8, H', ⟨(by have := h3.out; have := HK2.out; have := HK3.out; have := HK4.out; omega)⟩, ⟨zd_10⟩, ⟨(xR i3.out)⟩, ⟨zd_15⟩, ⟨(xR a3.out)⟩, ⟨(xb a1.out)⟩, ⟨(xb a2.out)⟩, ⟨(xb a0.out)⟩, ⟨zd_0⟩⟩
           replace H := ok_ H
           obtain ⟨o7, H⟩ := H
           have LMc63 := ak o7
           clear o7
           obtain ⟨y634, hy634⟩ : ∃ y_ : List (List Int), y_ = (a8 ++ [e0]) := ⟨_, rfl⟩
           replace H : (if 0 ≤ b0 then (if b0 < (l1.length : Int) then (if 0 ≤ (rd l1 b0) then (if (rd l1 b0) < (l0_1.length : Int) then (if 0 ≤ (rd l0_1 (rd l1 b0)) then (if (rd l0_1 (rd l1 b0)) < (d2.length : Int) then (if a6.length < 17592186044416 then (spec_Renamed.l1 k4 l1 d2 (wrap64 (b0 + 1)) l0_0 l0_1 y634 (a6 ++ [rd d2 (rd l0_1 (rd l1 b0))])) else (none)) else (none)) else (none)) else (none)) else (none)) else (none)) else (none)) = some (r1, r2) := by first | (rw [hy634]; with_reducible exact H) | (have H2_ := (Option.bind_some _ _).symm.trans H; rw [hy634]; with_reducible exact H2_) | (have H2_ := (Option.bind_some _ _).symm.trans H; with_reducible exact H2_) | with_reducible exact H | (rw [hy634]; exact H) | exact H
           have Ny634 := ak hy634
           clear hy634
           replace H := od6 H
           obtain ⟨o8, o9, q0, q1, q2, q3, H⟩ := H
           replace H := ok_ H
           obtain ⟨q4, H⟩ := H
           have LMc70 := ak q4
           clear q4
           obtain ⟨y640, hy640⟩ : ∃ y_ : List Int, y_ = (a6 ++ [rd d2 (rd l0_1 (rd l1 b0))]) := ⟨_, rfl⟩
           replace H : (spec_Renamed.l1 k4 l1 d2 (wrap64 (b0 + 1)) l0_0 l0_1 y634 y640) = some (r1, r2) := by first | (rw [hy640]; with_reducible exact H) | (have H2_ := (Option.bind_some _ _).symm.trans H; rw [hy640]; with_reducible exact H2_) | (have H2_ := (Option.bind_some _ _).symm.trans H; with_reducible exact H2_) | with_reducible exact H | (rw [hy640]; exact H) | exact H
           have Ny640 := ak hy640
           clear hy640
           have H' := ak H
           clear H
           have q5 := b5.out
           have q6 := b1.out
           have q7 := b7.out
           have q8 := b4.out
           have b8 := cz20 a0.out
           have b9 := cz21 a0.out
           have d0 := blk_frozen a0.out 0
           have d1 := blk_frozen a0.out 1
           obtain ⟨i4, i5, j9⟩ := Kd.R_slice d6.out
           subst j9
           try go_wp2_with (first | ((with_reducible refine gate_builtin (b := .append) (xs := #[.tmp 96, .tmp 98]) rfl ?_); (try (refine gate_guard (by rfl) ?_; dsimp only)); at_builtin; refine Kd.S_append (Kd.slice 3 (Kd.int .i64)) (w0 := w) w.heap.size rfl (.tmp 96) (.tmp 98) 22 23 (.slice none 0 0) 24 rfl Try.underlying22 info23 rfl zd_16 (by omega) u615000 a8 e0 [.slice i4 e0.length i5] (fun k_ => some k_ ≠ (d5 : Value).ownBlock ∧ some k_ ≠ (u615001 : Value).ownBlock) (fun k_ => some k_ = (.slice i4 e0.length i5 : Value).ownBlock) rfl rfl ?aP (fun k_ hk_ => ((Kd.R_mono (ok' := fun k_ => ((fun k_ => some k_ ≠ (d5 : Value).ownBlock ∧ some k_ ≠ (u615001 : Value).ownBlock)) k_ ∧ some k_ ≠ (u615000 : Value).ownBlock) (Kd.R_apart' (d6.out) (Kd.S_typed a4.out) zd_16) (fun k_ hk => ⟨⟨hk.1.1, hk.1.2⟩, hk.2⟩))).1 k_ hk_.symm) ?aF ?aO ?aB ?aS ?aL ?_; (case aP => exact Kd.M_row (Kd.R_mono (Kd.R_tight rfl (Kd.R_mono (ok' := fun k_ => ((fun k_ => some k_ ≠ (d5 : Value).ownBlock ∧ some k_ ≠ (u615001 : Value).ownBlock)) k_ ∧ some k_ ≠ (u615000 : Value).ownBlock) (Kd.R_apart' (d6.out) (Kd.S_typed a4.out) zd_16) (fun k_ hk => ⟨⟨hk.1.1, hk.1.2⟩, hk.2⟩))) (fun _ h_ => h_))); (case aB => exact zd_0); (case aF => exact (fun k_ hk => ⟨Kd.fresh' (Kd.R_lt (xR b3.out)) k_ hk, Kd.fresh' (Kd.R_lt (xR a3.out)) k_ hk⟩)); (case aO => exact (by (with_reducible repeat (first | apply Kd.S_alloc | apply Kd.S_drewN | apply Kd.S_drew)); exact Kd.S_mono a4.out (fun k_ hk => ⟨⟨hk.1, hk.2.2⟩, fun e_ => hk.2.1 e_⟩))); (case aS => exact (below_size zd_0)); (case aL => have := LMc63.out; omega); intro v1 g0 ho hb hg hat; rw [← Ny634.out] at ho; replace b3 := ak (Kd.R_over' (xR b3.out) (Kd.S_typed (xS a4.out)) zd_16 hg); replace a3 := ak (Kd.R_over' (xR a3.out) (Kd.S_typed (xS a4.out)) zd_16 hg); replace a1 := ak (blk_grown (g := a9) (o := .cells #[.slice A0_0 l0_0.length c0_0, .slice A0_1 l0_1.length c0_1] 29 (0, 0)) (xb a1.out) hg (Kd.S_ne a4.out a1.out zd_16)); replace a2 := ak (blk_grown (g := a7) (o := .cells #[.slice none 0 0, .slice none 0 0] 29 (0, 0)) (xb a2.out) hg (Kd.S_ne a4.out a2.out zd_16)); replace a0 := ak (blk_grown (g := a5) (o := .cells #[u615000, u615001] 29 (0, 0)) (xb a0.out) hg (Kd.S_ne a4.out a0.out zd_16)); replace HB := ak (hb); have d9 := ak (ho); clear a4 d6; clear ho hb hg hat; obtain ⟨d7, d8, k0⟩ := Kd.S_slice d9.out; subst k0; have b8 := cz20 a0.out; have b9 := cz21 a0.out; have d0 := blk_frozen a0.out 0; have d1 := blk_frozen a0.out 1))
           have n0_ : Aside0 (Kd.R (Kd.int .i64) 3 (g0.setCell ⟨a5, 0, none⟩ (.slice d7 y634.length d8)) w.heap.size (fun k_ => some k_ ≠ (u615001 : Value).ownBlock) d5 d2) := ⟨(by (with_reducible repeat (first | apply Kd.R_alloc | apply Kd.R_drewN | apply Kd.R_drew)); exact Kd.R_mono (Kd.R_far (p := ⟨a5, 0, none⟩) (Kd.R_types b3.out a0.out zd_16) (fun _ hk => hk.2) (.slice d7 y634.length d8)) (fun _ hk => hk.1.2))⟩
           have n1_ : Aside0 (Kd.R (Kd.int .i64) 3 (g0.setCell ⟨a5, 0, none⟩ (.slice d7 y634.length d8)) w.heap.size (fun k_ => some k_ ≠ (d5 : Value).ownBlock) u615001 a6) := ⟨(by (with_reducible repeat (first | apply Kd.R_alloc | apply Kd.R_drewN | apply Kd.R_drew)); exact Kd.R_mono (Kd.R_far (p := ⟨a5, 0, none⟩) (Kd.R_types a3.out a0.out zd_16) (fun _ hk => hk.2) (.slice d7 y634.length d8)) (fun _ hk => hk.1.1))⟩
           have n2_ : Aside0 (Kd.S (Kd.slice 3 (Kd.int .i64)) 23 (g0.setCell ⟨a5, 0, none⟩ (.slice d7 y634.length d8)) w.heap.size (fun k_ => some k_ ≠ (d5 : Value).ownBlock ∧ some k_ ≠ (u615001 : Value).ownBlock) (.slice d7 y634.length d8) y634) := ⟨(by (with_reducible repeat (first | apply Kd.S_alloc | apply Kd.S_drewN | apply Kd.S_drew)); exact Kd.S_mono (Kd.S_far (p := ⟨a5, 0, none⟩) (Kd.S_types d9.out a0.out zd_16) (fun _ hk => hk.2) (.slice d7 y634.length d8)) (fun _ hk => ⟨hk.1.1, hk.1.2⟩))⟩
           have n3_ : Aside0 ((g0.setCell ⟨a5, 0, none⟩ (.slice d7 y634.length d8)).heap[a9]? = some (.cells #[.slice A0_0 l0_0.length c0_0, .slice A0_1 l0_1.length c0_1] 29 (0, 0))) := ⟨zd_13⟩
           have n4_ : Aside0 ((g0.setCell ⟨a5, 0, none⟩ (.slice d7 y634.length d8)).heap[a7]? = some (.cells #[.slice none 0 0, .slice none 0 0] 29 (0, 0))) := ⟨zd_12⟩
           have n5_ : Aside0 ((g0.setCell ⟨a5, 0, none⟩ (.slice d7 y634.length d8)).heap[a5]? = some (.cells #[.slice d7 y634.length d8, u615001] 29 (0, 0))) := ⟨(by (with_reducible repeat (first | refine blk_drewN ?_ _ | refine blk_drew ?_ | refine blk_alloc ?_ _)); refine blk_put (cs := #[u615000, u615001]) ?_ 0 _ rfl; (with_reducible repeat (first | refine blk_drewN ?_ _ | refine blk_drew ?_ | refine blk_alloc ?_ _)); exact a0.out)⟩
           have n6_ : Aside0 (Below w.heap.size w (g0.setCell ⟨a5, 0, none⟩ (.slice d7 y634.length d8))) := ⟨zd_0⟩
           (try clear b3)
           (try clear a3)
           (try clear d9)
           (try clear a1)
           (try clear a2)
           (try clear a0)
           (try clear HB)
           generalize (g0.setCell ⟨a5, 0, none⟩ (.slice d7 y634.length d8)) = v2 at n0_ n1_ n2_ n3_ n4_ n5_ n6_ ⊢
           have b3 := n0_
           have a3 := n1_
           have d9 := n2_
           have a1 := n3_
           have a2 := n4_
           have a0 := n5_
           have HB := n6_
           clear n0_ n1_ n2_ n3_ n4_ n5_ n6_
           replace b3 := ak (Kd.R_drew b3.out)
           replace a3 := ak (Kd.R_drew a3.out)
           replace d9 := ak (Kd.S_drew d9.out)
           replace a1 := ak (blk_drew a1.out)
           replace a2 := ak (blk_drew a2.out)
           replace a0 := ak (blk_drew a0.out)
           replace HB := ak (below_drew1 HB.out)
           have g9 : 0 ≤ (b0 : Int) := oa_
           have q637 : b0 < (l1.length : Int) := oa_
           obtain ⟨ad637, e637, hx637_0⟩ := Kd.at_int HR1.out b0 g9 q637
           have hw637_0 := hx637_0
           cases e637
           replace hx637_0 := (HB.out.cell (World.block_lt_of_cell? w _ hx637_0)).trans hx637_0
           replace g9 := eq_true g9
           replace q637 := eq_true q637
           have h0 : 0 ≤ ((rd l1 b0) : Int) := oa_
           have q638 : (rd l1 b0) < (l0_1.length : Int) := oa_
           obtain ⟨ad638, e638, hx638_0⟩ := Kd.at_int HR0_1.out (rd l1 b0) h0 q638
           have hw638_0 := hx638_0
           cases e638
           replace hx638_0 := (HB.out.cell (World.block_lt_of_cell? w _ hx638_0)).trans hx638_0
           replace h0 := eq_true h0
           replace q638 := eq_true q638
           obtain ⟨v3, i6, i7⟩ := Kd.R_slice b3.out
           (first | subst i7 | (injection i7 with f1_ f2_ f3_; have f4_ := f1_.symm; have f5_ := f3_.symm; clear f1_ f2_ f3_; subst f4_; subst f5_))
           obtain ⟨ad639, e639, hx639_0, v4, q639⟩ := ai_ (Kd.R_reads' b3.out).2.2 (rd l0_1 (rd l1 b0))
           cases e639
           refine start_ (n := 17) (S := fun w' => w'.cell? ⟨a5, 0, none⟩ = some (.slice d7 y634.length d8) ∧ w'.cell? ⟨a5, 1, none⟩ = some (u615001) ∧ w'.cell? ⟨a9, 0, none⟩ = some (.slice A0_0 l0_0.length c0_0) ∧ w'.cell? ⟨a9, 1, none⟩ = some (.slice (some ad638) l0_1.length c0_1) ∧ w'.cell? (ad637.add (b0).toNat) = some (.int .i64 (rd l1 b0)) ∧ w'.cell? (ad638.add ((rd l1 b0)).toNat) = some (.int .i64 (rd l0_1 (rd l1 b0))) ∧ w'.cell? (ad639.add ((rd l0_1 (rd l1 b0))).toNat) = some (.int .i64 (rd d2 (rd l0_1 (rd l1 b0))))) (ds := [14, 16]) (bA 17 0) (by kernel_rfl) rfl rfl ⟨(blk_cell a0.out 0).trans rfl, (blk_cell a0.out 1).trans rfl, (blk_cell a1.out 0).trans rfl, (blk_cell a1.out 1).trans rfl, ((HB.out.cell (World.block_lt_of_cell? w _ hw637_0)).trans hw637_0), ((HB.out.cell (World.block_lt_of_cell? w _ hw638_0)).trans hw638_0), hx639_0⟩ (fun hHeld => ?_); refine with_tabW spec_Renamed.tab24 spec_Renamed.bits24 (fun HT_ HW_ => ?_)
           generalize v2.drew = x5 at b3 a3 d9 a1 a2 a0 HB hx637_0 hx638_0 hx639_0 hHeld ⊢
           refine pu_ (i := 0) (N := some 101) (bA 17 1) ?_
           refine pu_ (i := 2) (N := some 103) (bA 17 5) ?_
           refine pu_ (i := 3) (N := some 104) (bA 17 13) ?_
           refine pu_ (i := 5) (N := some 106) (bA 17 45) ?_
           refine pu_ (i := 6) (N := some 107) (bA 17 109) ?_
           refine pu_ (i := 7) (N := some 108) (bA 17 237) ?_
           refine tk_ (i := 1) (N := some 102) (bA 17 239) ?_
           refine tk_ (i := 4) (N := some 105) (bA 17 255) ?_
           refine tk_ (i := 8) (N := some 109) (bA 17 511) ?_
           refine pu_ (i := 9) (N := some 110) (bA 17 1023) ?_
           refine tk_ (i := 10) (N := some 111) (bA 17 2047) ?_
           refine pu_ (i := 11) (N := some 112) (bA 17 4095) ?_
           refine tk_ (i := 12) (N := some 113) (bA 17 8191) ?_
           refine one_ (i := 13) (N := some 114) (bA 17 16383) rfl rfl (one_of HT_.out (by kernel_rfl)) zd_16 (fun K hK => ?_)
           refine value_ (w1 := ?_) (v := ?_) (by rfl) rfl ?_ ?_
           rotate_left 2
           ·
            go_simp
            constructor
            ·
             rfl
            rfl
           refine hK.out _ _ ⟨(blk_cell (blk_alloc a0.out _) 0).trans rfl, (blk_cell (blk_alloc a0.out _) 1).trans rfl, (blk_cell (blk_alloc a1.out _) 0).trans rfl, (blk_cell (blk_alloc a1.out _) 1).trans rfl, (World.cell?_alloc_lt _ _ _ (World.block_lt_of_cell? _ _ (((HB.out.cell (World.block_lt_of_cell? w _ hw637_0)).trans hw637_0)))).trans (((HB.out.cell (World.block_lt_of_cell? w _ hw637_0)).trans hw637_0)), (World.cell?_alloc_lt _ _ _ (World.block_lt_of_cell? _ _ (((HB.out.cell (World.block_lt_of_cell? w _ hw638_0)).trans hw638_0)))).trans (((HB.out.cell (World.block_lt_of_cell? w _ hw638_0)).trans hw638_0)), (World.cell?_alloc_lt _ _ _ (World.block_lt_of_cell? _ _ (hHeld.2.2.2.2.2.2))).trans (hHeld.2.2.2.2.2.2)⟩ (fun hHeld => ?_)
           clear hK K
           refine no_ (N := some 114) ?_
           refine last_ (i := 14) (N := some 115) (bA 17 32767) rfl rfl (one_of HT_.out (by kernel_rfl)) zd_16 (fun K hK => ?_)
           refine Kd.R_append_step (Kd.int .i64) (w0 := w) w.heap.size (by rfl) (.tmp 102) (.tmp 114) 23 3 (.int .i64 0) 8 rfl Try.underlying23 info3 rfl zd_16 (by omega) u615001 a6 (rd d2 (rd l0_1 (rd l1 b0))) [.int .i64 (rd d2 (rd l0_1 (rd l1 b0)))] (fun k_ => some k_ ≠ (.slice (some ad639) d2.length i6 : Value).ownBlock) (fun _ => False) rfl rfl ?aP (fun _ hk => hk.elim) ?aF ?aO ?aB ?aS ?aL ?_
           (case aP => exact rfl)
           (case aB => exact zd_0)
           (case aF => exact (fun k_ hk => Kd.fresh' (Kd.R_lt (xR b3.out)) k_ hk))
           (case aO => exact (xR a3.out))
           (case aS => exact (below_size zd_0))
           (case aL => have := LMc70.out; omega)
           intro v5 x6 ho hb hg hat
           rw [← Ny640.out] at ho
           replace b3 := ak (Kd.R_after (ok := (fun _ => True)) (by (with_reducible repeat (first | apply Kd.R_alloc | apply Kd.R_drewN | apply Kd.R_drew)); exact Kd.R_mono b3.out (fun _ hk => ⟨trivial, hk⟩)) hg hat)
           replace a1 := ak (blk_grown (g := a9) (o := .cells #[.slice A0_0 l0_0.length c0_0, .slice (some ad638) l0_1.length c0_1] 29 (0, 0)) (xb a1.out) hg (Kd.R_ne a3.out a1.out zd_16))
           replace a2 := ak (blk_grown (g := a7) (o := .cells #[.slice none 0 0, .slice none 0 0] 29 (0, 0)) (xb a2.out) hg (Kd.R_ne a3.out a2.out zd_16))
           replace a0 := ak (blk_grown (g := a5) (o := .cells #[.slice d7 y634.length d8, u615001] 29 (0, 0)) (xb a0.out) hg (Kd.R_ne a3.out a0.out zd_16))
           replace d9 := ak (Kd.S_after (ok := (fun k_ => some k_ ≠ (.slice (some ad639) d2.length i6 : Value).ownBlock)) (xS d9.out) hg hat)
           replace HB := ak (hb)
           have g1 := ak (ho)
           clear a3 ho hb hg hat
           obtain ⟨f2, f3, i8⟩ := Kd.R_slice g1.out
           (first | subst i8 | (injection i8 with f1_ f2_ f3_; have f4_ := f1_.symm; have f5_ := f3_.symm; clear f1_ f2_ f3_; subst f4_; subst f5_))
           refine hK.out _ _ ?_
           clear hK K
           refine no_ (N := some 115) ?_
           refine pu_ (i := 15) (N := some 116) (bA 17 65535) ?_
           refine last_ (i := 16) (N := none) (bA 17 131071) rfl rfl (one_of HT_.out (by kernel_rfl)) zd_16 (fun K hK => ?_)
           have hs83 : _ := cz21 a0.out
           have hfs83 := blk_frozen a0.out 1
           have hns83_0 := b1.out
           have hns83_1 := b4.out
           have hms83_0 := b5.out
           have hms83_1 := b7.out
           refine skip_ (w1 := ?_) (by rfl) rfl ?_ ?_
           rotate_left
           ·
            go_simp
            rfl
           refine hK.out _ _ ?_
           clear hK K
           refine done_ (done_of HT_.out (by kernel_rfl)) ?_
           try go_wp2
           go_roundg k4
           case measure => have := h3.out; have := HK2.out; have := HK3.out; have := HK4.out; omega
           case rel => exact ⟨(wrap64 (b0 + 1)), (y634), (y640), (.slice d7 y634.length d8), (.slice f2 y640.length f3), zd_8, H', ⟨(by have := h3.out; have := HK2.out; have := HK3.out; have := HK4.out; omega)⟩, ⟨(by (with_reducible repeat (first | apply Kd.R_alloc | apply Kd.R_drewN | apply Kd.R_drew)); exact Kd.R_mono (Kd.R_far (p := ⟨a5, 1, none⟩) (Kd.R_types b3.out a0.out zd_16) (fun _ hk => hk.2) (.slice f2 y640.length f3)) (fun _ hk => hk.1.2))⟩, ⟨(by (with_reducible repeat (first | apply Kd.S_alloc | apply Kd.S_drewN | apply Kd.S_drew)); exact Kd.S_mono (Kd.S_far (p := ⟨a5, 1, none⟩) (Kd.S_types d9.out a0.out zd_16) (fun _ hk => hk.2) (.slice f2 y640.length f3)) (fun _ hk => ⟨hk.1.1, hk.1.2⟩))⟩, ⟨(by (with_reducible repeat (first | apply Kd.R_alloc | apply Kd.R_drewN | apply Kd.R_drew)); exact Kd.R_mono (Kd.R_far (p := ⟨a5, 1, none⟩) (Kd.R_types g1.out a0.out zd_16) (fun _ hk => hk.2) (.slice f2 y640.length f3)) (fun _ hk => hk.1))⟩, ⟨zd_13⟩, ⟨zd_12⟩, ⟨(by (with_reducible repeat (first | refine blk_drewN ?_ _ | refine blk_drew ?_ | refine blk_alloc ?_ _)); refine blk_put (cs := #[.slice d7 y634.length d8, u615001]) ?_ 1 _ rfl; (with_reducible repeat (first | refine blk_drewN ?_ _ | refine blk_drew ?_ | refine blk_alloc ?_ _)); exact a0.out)⟩, ⟨zd_0⟩⟩
        simp only [Option.some.injEq, Prod.mk.injEq] at H
        obtain ⟨rfl, rfl⟩ := H
        have q9 := b5.out
        have s0 := b1.out
        have s1 := b7.out
        have s2 := b4.out
        have b8 := cz20 a0.out
        have b9 := cz21 a0.out
        have d0 := blk_frozen a0.out 0
        have d1 := blk_frozen a0.out 1
        obtain ⟨f4, f5, k1⟩ := Kd.S_slice a4.out
        subst k1
        have s3 := d4.out
        have s4 := d3.out
        have b8 := cz20 a2.out
        have b9 := cz21 a2.out
        have d0 := blk_frozen a2.out 0
        have d1 := blk_frozen a2.out 1
        obtain ⟨h1, h2, k5⟩ := Kd.R_slice a3.out
        subst k5
        go_wp2
        refine bodyPost_ret (results_cell_row rfl _ _ a7 29 #[.slice f4 a8.length f5, .slice h1 a6.length h2] (0, 0) _ rfl (by (with_reducible repeat (first | refine blk_drewN ?_ _ | refine blk_drew ?_ | refine blk_alloc ?_ _)); refine blk_put (cs := #[.slice f4 a8.length f5, .slice none 0 0]) ?_ 1 _ rfl; (with_reducible repeat (first | refine blk_drewN ?_ _ | refine blk_drew ?_ | refine blk_alloc ?_ _)); refine blk_put (cs := #[.slice none 0 0, .slice none 0 0]) ?_ 0 _ rfl; (with_reducible repeat (first | refine blk_drewN ?_ _ | refine blk_drew ?_ | refine blk_alloc ?_ _)); exact a2.out) Try.underlying29 rfl (by kernel_rfl)) rfl ?_
        exact ⟨_, _, zd_14, (by (with_reducible repeat (first | apply Kd.S_alloc | apply Kd.S_drewN | apply Kd.S_drew)); exact Kd.S_mono (Kd.S_far (p := ⟨a7, 1, none⟩) (Kd.S_far (p := ⟨a7, 0, none⟩) (Kd.S_types a4.out a2.out zd_16) (fun _ hk => hk.2) (.slice f4 a8.length f5)) (fun _ hk => hk.2) (.slice h1 a6.length h2)) (fun _ hk => hk.1.2)), (by (with_reducible repeat (first | apply Kd.R_alloc | apply Kd.R_drewN | apply Kd.R_drew)); exact Kd.R_mono (Kd.R_far (p := ⟨a7, 1, none⟩) (Kd.R_far (p := ⟨a7, 0, none⟩) (Kd.R_types a3.out a2.out zd_16) (fun _ hk => hk.2) (.slice f4 a8.length f5)) (fun _ hk => hk.2) (.slice h1 a6.length h2)) (fun _ hk => trivial)), zd_0⟩
     simp only [Option.some.injEq, Prod.mk.injEq] at H
     obtain ⟨rfl, rfl⟩ := H
     have s5 := b5.out
     have s6 := b1.out
     have s7 := b7.out
     have s8 := b4.out
     have b8 := cz20 a0.out
     have b9 := cz21 a0.out
     have d0 := blk_frozen a0.out 0
     have d1 := blk_frozen a0.out 1
     have s9 := d4.out
     have u0 := d3.out
     have b8 := cz20 a2.out
     have b9 := cz21 a2.out
     have d0 := blk_frozen a2.out 0
     have d1 := blk_frozen a2.out 1
     go_wp2
     refine bodyPost_ret (results_cell_row rfl _ _ a7 29 #[.slice none 0 0, .slice none 0 0] (0, 0) _ rfl zd_1 Try.underlying29 rfl (by kernel_rfl)) rfl ?_
     exact ⟨_, _, zd_14, zd_3, zd_4, zd_0⟩

end Go.Proofs.Ytlkibgccgkhdmaa.P

namespace Go.Proofs.Ytlkibgccgkhdmaa.P
open Go.RowKit Go.Proofs.YtlkibgccgkhdmaaW.PrintWords Go.Proofs.YtlkibgccgkhdmaaW.PrintLast Go.Proofs.YtlkibgccgkhdmaaW.PrintMore
attribute [local go_sem] max2_int min2_int max_two min_two max_three min_three max_four min_four
set_option linter.unusedVariables false
set_option linter.unusedSimpArgs false
set_option maxHeartbeats 8000000 in
set_option maxRecDepth 100000 in
theorem impl_isAnswer.calls (A0 : Option Addr) (c0 : Nat) (l0 : List (List Int)) (a1 : Int) (r : Bool) (w : World) (hr0 : Kd.C (Kd.slice 3 (Kd.int .i64)) w A0 l0.length l0) (hc0 : l0.length ≤ c0) (h : impl_isAnswer.f l0 a1 = some r) :
 Calls Try.prog 96 #[.slice A0 l0.length c0, .int .i64 a1] w fun e w' => e = .returned (.bool r) ∧ Drawn0 w w' := by
 have HR0 := ak hr0
 have a2 := ak hc0
 clear hr0 hc0
 have H : (if a1 ≥ 0 then (some (decide (a1 < (l0.length : Int)))) else (some false)) = some r := h
 clear h
 replace H := op_ H
 rcases H with ⟨c3, H⟩ | ⟨c3, H⟩
 ·
  have a0 : decide (0 ≤ a1) = true := dT_ c3
  clear c3
  obtain rfl := Option.some.inj H
  go_enter Try.func96, Try.ntmps96
  go_wp2
  go_ret
  exact ⟨(by first | rfl | (simp; done) | (simp [*]; done)), (by repeat (first | exact Drawn0.refl _ | apply Drawn0.step))⟩
 have a0 : decide (0 ≤ a1) = false := dF_ c3
 clear c3
 obtain rfl := Option.some.inj H
 go_enter Try.func96, Try.ntmps96
 go_wp2
 go_ret
 exact ⟨(by first | rfl | (simp; done) | (simp [*]; done)), (by repeat (first | exact Drawn0.refl _ | apply Drawn0.step))⟩

end Go.Proofs.Ytlkibgccgkhdmaa.P

namespace Go.Proofs.Ytlkibgccgkhdmaa.P
open Go.RowKit Go.Proofs.YtlkibgccgkhdmaaW.PrintWords Go.Proofs.YtlkibgccgkhdmaaW.PrintLast Go.Proofs.YtlkibgccgkhdmaaW.PrintMore
attribute [local go_sem] max2_int min2_int max_two min_two max_three min_three max_four min_four
set_option linter.unusedVariables false
set_option linter.unusedSimpArgs false
theorem zs_2 {p : Prop} (h : p := by have := HK1.out; have := b0.out; have := HK3.out; omega) : p := h
theorem zs_1 {p : Prop} (h : p := by repeat (first | exact Drawn0.refl _ | apply Drawn0.step)) : p := h
theorem zs_0 {p : Prop} (h : p := by first | rfl | (simp; done) | (simp [*]; done)) : p := h
set_option maxHeartbeats 8000000 in
set_option maxRecDepth 100000 in
theorem impl_meet.calls (k : Nat) (A0 : Option Addr) (c0 : Nat) (l0 : List (List Int)) (a1 : Int) (a2 : Int) (r : Int) (w : World) (hr0 : Kd.C (Kd.slice 3 (Kd.int .i64)) w A0 l0.length l0) (hc0 : l0.length ≤ c0) (h : impl_meet.f k l0 a1 a2 = some r) :
 Calls Try.prog 94 #[.slice A0 l0.length c0, .int .i64 a1, .int .i64 a2] w fun e w' => e = .returned (.int .i64 r) ∧ Drawn0 w w' := by
 have HR0 := ak hr0
 have g9 := ak hc0
 clear hr0 hc0
 have H : (impl_meet.l0 k l0 a1 a2 (l0.length : Int) 0) = some r := h
 clear h
 have H' := ak H
 clear H
 go_enter Try.func94, Try.ntmps94
 go_wp2
 go_loopg [12] k (fun kq f9 w' => ∃ (a0 : Int), f9 = .int .i64 a0 ∧ Aside0 (impl_meet.l0 kq l0 a1 a2 (l0.length : Int) a0 = some r) ∧ Aside0 (kq ≤ k) ∧ Drawn0 w w')
 case atStart => exact ⟨(0), zs_0, H', ⟨Nat.le_refl _⟩, zs_1⟩
 case round =>
  clear H'
  obtain ⟨a0, rfl, HA, HK1, ⟨m1, rfl⟩⟩ := hrel
  cases gk with
  | zero => exact absurd HA.out (by simp [impl_meet.l0])
  | succ k1 =>
   have H := HA.out
   clear HA
   simp only [impl_meet.l0] at H
   replace H := os_ H
   rcases H with ⟨b1, H⟩ | ⟨b1, H⟩
   ·
    have d9 := ak H
    clear H
    go_upto_region 4 with (fail)
    go_cut [32] (fun g0 wc => ∃ (kq : Nat) (a5 : Bool), g0 = .bool a5 ∧ Aside0 (impl_meet.j1 kq l0 a1 a2 a0 (l0.length : Int) a0 a5 = some r) ∧ Aside0 (kq ≤ k1) ∧ Drawn0 w wc)
    case first =>
     have H := d9.out
     clear d9
     replace H := od_ H
     obtain ⟨b7, H⟩ := H
     (first | rw [b7] | (simp only [i64_w, i32_w]; rw [b7]) | skip)
     replace H := od3 H
     obtain ⟨g1, g2, g3, H⟩ := H
     replace H := oe2 H
     rcases H with ⟨⟨-, b8, b9⟩, H⟩ | ⟨⟨h0, b8, b9⟩, H⟩
     ·
      have H' := ak H
      clear H
      obtain ⟨ad213, b2, b3, e213, hx213_0, a8, HR213_0, e0, q213⟩ := al_ HR0.out a0
      cases e213
      obtain ⟨ad214, e214, hx214_0, e1, q214⟩ := ai_ HR213_0.out a1
      cases e214
      go_wp2
      go_meet
      case rel => exact ⟨_, (true), zs_0, H', ⟨(by have := HK1.out; first | omega | exact Nat.le_refl _)⟩, zs_1⟩
     replace H := od2 H
     obtain ⟨e9, f0, H⟩ := H
     have H' := ak H
     clear H
     obtain ⟨ad213, b2, b3, e213, hx213_0, a8, HR213_0, e0, q213⟩ := al_ HR0.out a0
     cases e213
     obtain ⟨ad214, e214, hx214_0, e1, q214⟩ := ai_ HR213_0.out a1
     cases e214
     obtain ⟨ad215, e2, e3, e215, hx215_0, d7, HR215_0, g4, q215⟩ := al_ HR0.out a0
     obtain rfl := ij_ e215
     obtain ⟨rfl, rfl⟩ := is_ hx213_0 hx215_0
     obtain ⟨ad216, e216, hx216_0, g5, q216⟩ := ai_ HR215_0.out a2
     cases e216
     go_wp2
     go_meet
     case rel => exact ⟨_, (((rd (rd_L1 l0 a0) a2) == 0)), zs_0, H', ⟨(by have := HK1.out; first | omega | exact Nat.le_refl _)⟩, zs_1⟩
    case rest =>
     clear d9
     try clear c4
     try clear b1
     obtain ⟨kq, a5, rfl, HA, b0, ⟨mc4, rfl⟩⟩ := hcut
     cases kq with
     | zero => exact absurd HA.out (by simp [impl_meet.j1])
     | succ e4 =>
      have H := HA.out
      clear HA
      simp only [impl_meet.j1] at H
      replace H := ox_ H
      rcases H with ⟨rfl, H⟩ | ⟨rfl, H⟩
      ·
       have H' := ak H
       clear H
       go_wp2
       go_roundg e4
       case measure => have := HK1.out; have := b0.out; omega
       case rel => exact ⟨(wrap64 (a0 + 1)), zs_0, H', ⟨(by have := HK1.out; have := b0.out; omega)⟩, zs_1⟩
      have H' := ak H
      clear H
      go_wp2
      go_loopg [8, 35] e4 (fun kq v8 g6 w' => ∃ (b4 : Bool) (a3 : Int), v8 = .bool b4 ∧ g6 = .int .i64 a3 ∧ Aside0 (impl_meet.l1 kq l0 a1 a2 a0 b4 (l0.length : Int) a0 (l0.length : Int) a3 = some r) ∧ Aside0 (kq ≤ e4) ∧ Drawn0 w w')
      case atStart => exact ⟨(true), (0), zs_0, zs_0, H', ⟨Nat.le_refl _⟩, zs_1⟩
      case round =>
       clear H'
       try clear c4
       try clear b1
       try clear h1
       obtain ⟨b4, a3, rfl, rfl, HA, HK3, ⟨m3, rfl⟩⟩ := hrel
       cases gk with
       | zero => exact absurd HA.out (by simp [impl_meet.l1])
       | succ k3 =>
        have H := HA.out
        clear HA
        simp only [impl_meet.l1] at H
        replace H := os_ H
        rcases H with ⟨d0, H⟩ | ⟨d0, H⟩
        ·
         replace H := ox_ H
         rcases H with ⟨rfl, H⟩ | ⟨rfl, H⟩
         ·
          replace H := od4 H
          obtain ⟨f1, f2, f3, f4, H⟩ := H
          replace H := oe2 H
          rcases H with ⟨⟨-, d1, d2⟩, H⟩ | ⟨⟨h2, d1, d2⟩, H⟩
          ·
           have H' := ak H
           clear H
           obtain ⟨ad217, a6, a7, e217, hx217_0, a4, HR217_0, d3, q217⟩ := al_ HR0.out a3
           cases e217
           obtain ⟨ad218, e218, hx218_0, d4, q218⟩ := ai_ HR217_0.out a1
           cases e218
           go_wp2
           go_roundg k3
           case measure => have := HK1.out; have := b0.out; have := HK3.out; omega
           case rel => exact ⟨(true), (wrap64 (a3 + 1)), zs_0, zs_0, H', ⟨zs_2⟩, zs_1⟩
          replace H := od2 H
          obtain ⟨f5, f6, H⟩ := H
          replace H := oe2 H
          rcases H with ⟨⟨-, d5, d6⟩, H⟩ | ⟨⟨h3, d5, d6⟩, H⟩
          ·
           have H' := ak H
           clear H
           obtain ⟨ad217, a6, a7, e217, hx217_0, a4, HR217_0, d3, q217⟩ := al_ HR0.out a3
           cases e217
           obtain ⟨ad218, e218, hx218_0, d4, q218⟩ := ai_ HR217_0.out a1
           cases e218
           obtain ⟨ad219, b5, b6, e219, hx219_0, a9, HR219_0, e5, q219⟩ := al_ HR0.out a3
           obtain rfl := ij_ e219
           obtain ⟨rfl, rfl⟩ := is_ hx217_0 hx219_0
           obtain ⟨ad220, e220, hx220_0, e6, q220⟩ := ai_ HR219_0.out a2
           cases e220
           go_wp2
           go_roundg k3
           case measure => have := HK1.out; have := b0.out; have := HK3.out; omega
           case rel => exact ⟨(true), (wrap64 (a3 + 1)), zs_0, zs_0, H', ⟨zs_2⟩, zs_1⟩
          replace H := od2 H
          obtain ⟨f7, f8, H⟩ := H
          have H' := ak H
          clear H
          obtain ⟨ad217, a6, a7, e217, hx217_0, a4, HR217_0, d3, q217⟩ := al_ HR0.out a3
          cases e217
          obtain ⟨ad218, e218, hx218_0, d4, q218⟩ := ai_ HR217_0.out a1
          cases e218
          obtain ⟨ad219, b5, b6, e219, hx219_0, a9, HR219_0, e5, q219⟩ := al_ HR0.out a3
          obtain rfl := ij_ e219
          obtain ⟨rfl, rfl⟩ := is_ hx217_0 hx219_0
          obtain ⟨ad220, e220, hx220_0, e6, q220⟩ := ai_ HR219_0.out a2
          cases e220
          obtain ⟨ad221, e7, e8, e221, hx221_0, d8, HR221_0, g7, q221⟩ := al_ HR0.out a3
          obtain rfl := ij_ e221
          obtain ⟨rfl, rfl⟩ := is_ hx217_0 hx221_0
          obtain ⟨ad222, e222, hx222_0, g8, q222⟩ := ai_ HR221_0.out a0
          cases e222
          go_wp2
          go_roundg k3
          case measure => have := HK1.out; have := b0.out; have := HK3.out; omega
          case rel => exact ⟨(((rd (rd_L1 l0 a3) a0) == 1)), (wrap64 (a3 + 1)), zs_0, zs_0, H', ⟨zs_2⟩, zs_1⟩
         have H' := ak H
         clear H
         go_wp2
         go_roundg k3
         case measure => have := HK1.out; have := b0.out; have := HK3.out; omega
         case rel => exact ⟨(false), (wrap64 (a3 + 1)), zs_0, zs_0, H', ⟨zs_2⟩, zs_1⟩
        replace H := ox_ H
        rcases H with ⟨rfl, H⟩ | ⟨rfl, H⟩
        ·
         obtain rfl := Option.some.inj H
         go_wp2
         go_ret
         exact ⟨zs_0, zs_1⟩
        have H' := ak H
        clear H
        go_wp2
        go_roundg k3
        case measure => have := HK1.out; have := b0.out; have := HK3.out; omega
        case rel => exact ⟨(wrap64 (a0 + 1)), zs_0, H', ⟨zs_2⟩, zs_1⟩
   obtain rfl := Option.some.inj H
   go_wp2
   go_ret
   exact ⟨zs_0, zs_1⟩

end Go.Proofs.Ytlkibgccgkhdmaa.P

namespace Go.Proofs.Ytlkibgccgkhdmaa.P
open Go.RowKit Go.Proofs.YtlkibgccgkhdmaaW.PrintWords Go.Proofs.YtlkibgccgkhdmaaW.PrintLast Go.Proofs.YtlkibgccgkhdmaaW.PrintMore
attribute [local go_sem] max2_int min2_int max_two min_two max_three min_three max_four min_four
set_option linter.unusedVariables false
set_option linter.unusedSimpArgs false
theorem zt_3 {p : Prop} (h : p := by have := a9.out; have := HK2.out; have := d7.out; have := HK4.out; have := d3.out; omega) : p := h
theorem zt_2 {p : Prop} (h : p := by have := a9.out; have := HK2.out; have := HK3.out; have := HK4.out; have := HK5.out; omega) : p := h
theorem zt_1 {p : Prop} (h : p := by first | rfl | (simp; done) | (simp [*]; done)) : p := h
theorem zt_0 {p : Prop} (h : p := by repeat (first | exact Drawn0.refl _ | apply Drawn0.step)) : p := h
set_option maxHeartbeats 8000000 in
set_option maxRecDepth 100000 in
theorem impl_OrderOk.calls (k : Nat) (A0 : Option Addr) (c0 : Nat) (l0 : List (List Int)) (r : Bool) (w : World) (hr0 : Kd.C (Kd.slice 3 (Kd.int .i64)) w A0 l0.length l0) (hc0 : l0.length ≤ c0) (h : impl_OrderOk.f k l0 = some r) :
 Calls Try.prog 104 #[.slice A0 l0.length c0] w fun e w' => e = .returned (.bool r) ∧ Drawn0 w w' := by
 have HR0 := ak hr0
 have m8 := ak hc0
 clear hr0 hc0
 have H : (if (l0.length : Int) < 1 then (impl_OrderOk.j0 k l0 (l0.length : Int) true) else (impl_OrderOk.j0 k l0 (l0.length : Int) (decide ((l0.length : Int) > 12)))) = some r := h
 clear h
 have h4 := ak H
 clear H
 go_enter Try.func104, Try.ntmps104
 go_upto_region 2 with (fail)
 go_cut [18] (fun k8 wc => ∃ (kq : Nat) (b6 : Bool), k8 = .bool b6 ∧ Aside0 (impl_OrderOk.j0 kq l0 (l0.length : Int) b6 = some r) ∧ Aside0 (kq ≤ k) ∧ Drawn0 w wc)
 case first =>
  have H := h4.out
  clear h4
  replace H := op_ H
  rcases H with ⟨c3, H⟩ | ⟨c3, H⟩
  ·
   have b7 : decide ((l0.length : Int) < 1) = true := dT_ c3
   have h5 : decide (l0.length < 1) = true := dT_ (by omega)
   clear c3
   (first | rw [b7] | (simp only [i64_w, i32_w]; rw [b7]) | skip)
   have H' := ak H
   clear H
   go_wp2
   go_meet
   case rel => exact ⟨_, (true), zt_1, H', ⟨(by first | omega | exact Nat.le_refl _)⟩, zt_0⟩
  have b7 : decide ((l0.length : Int) < 1) = false := dF_ c3
  have h5 : decide (l0.length < 1) = false := dF_ (by omega)
  clear c3
  (first | rw [b7] | (simp only [i64_w, i32_w]; rw [b7]) | skip)
  have H' := ak H
  clear H
  go_wp2
  go_meet
  case rel => exact ⟨_, (decide ((l0.length : Int) > 12)), zt_1, H', ⟨(by first | omega | exact Nat.le_refl _)⟩, zt_0⟩
 case rest =>
  clear h4
  obtain ⟨kq, b6, rfl, HA, a9, ⟨mc1, rfl⟩⟩ := hcut
  cases kq with
  | zero => exact absurd HA.out (by simp [impl_OrderOk.j0])
  | succ i6 =>
   have H := HA.out
   clear HA
   simp only [impl_OrderOk.j0] at H
   replace H := ox_ H
   rcases H with ⟨rfl, H⟩ | ⟨rfl, H⟩
   ·
    obtain rfl := Option.some.inj H
    go_wp2
    go_ret
    exact ⟨zt_1, zt_0⟩
   have H' := ak H
   clear H
   go_wp2
   go_loopg [21] i6 (fun kq k9 w' => ∃ (a0 : Int), k9 = .int .i64 a0 ∧ Aside0 (impl_OrderOk.l0 kq l0 (l0.length : Int) l0 (l0.length : Int) a0 = some r) ∧ Aside0 (kq ≤ i6) ∧ Drawn0 w w')
   case atStart => exact ⟨(0), zt_1, H', ⟨Nat.le_refl _⟩, zt_0⟩
   case round =>
    clear H'
    try clear c4
    obtain ⟨a0, rfl, HA, HK2, ⟨m2, rfl⟩⟩ := hrel
    cases gk with
    | zero => exact absurd HA.out (by simp [impl_OrderOk.l0])
    | succ k2 =>
     have H := HA.out
     clear HA
     simp only [impl_OrderOk.l0] at H
     replace H := os_ H
     rcases H with ⟨b1, H⟩ | ⟨b1, H⟩
     ·
      replace H := od2 H
      obtain ⟨e0, e1, H⟩ := H
      have h6 := ak H
      clear H
      obtain ⟨ad223, h7, h8, e223, hx223_0, h3, HR223_0, e2, q223⟩ := al_ HR0.out a0
      cases e223
      go_upto_region 7 with (fail)
      go_cut [36] (fun l5 wc => ∃ (kq : Nat) (b8 : Bool), l5 = .bool b8 ∧ Aside0 (impl_OrderOk.j2 kq l0 (l0.length : Int) a0 (rd_L1 l0 a0) l0 (l0.length : Int) a0 b8 = some r) ∧ Aside0 (kq ≤ k2) ∧ Drawn0 w wc)
      case first =>
       have H := h6.out
       clear h6
       replace H := oe2 H
       rcases H with ⟨⟨c9, b9, h9⟩, H⟩ | ⟨⟨c9, b9, h9⟩, H⟩
       ·
        have i0 : ((rd_L1 l0 a0).length == l0.length) = true := by first | simpa using c9 | (simp at c9 ⊢; omega)
        clear c9
        (first | rw [b9] | (simp only [i64_w, i32_w]; rw [b9]) | skip)
        replace H := od_ H
        obtain ⟨i7, H⟩ := H
        have H' := ak H
        clear H
        obtain ⟨ad224, e224, hx224_0, l6, q224⟩ := ai_ HR223_0.out a0
        cases e224
        go_wp2
        go_meet
        case rel => exact ⟨_, (((rd (rd_L1 l0 a0) a0) != 1)), zt_1, H', ⟨(by have := a9.out; have := HK2.out; first | omega | exact Nat.le_refl _)⟩, zt_0⟩
       have i0 : ((rd_L1 l0 a0).length == l0.length) = false := by first | simpa using c9 | (simp at c9 ⊢; omega)
       (first | rw [b9] | (simp only [i64_w, i32_w]; rw [b9]) | skip)
       have H' := ak H
       clear H
       go_wp2
       go_meet
       case rel => exact ⟨_, (true), zt_1, H', ⟨(by have := a9.out; have := HK2.out; first | omega | exact Nat.le_refl _)⟩, zt_0⟩
      case rest =>
       clear h6
       try clear c4
       try clear c5
       try clear b1
       try clear c6
       try clear e0
       try clear c7
       try clear e1
       try clear hx223_0
       try clear e2
       try clear q223
       obtain ⟨kq, b8, rfl, HA, d7, ⟨mc7, rfl⟩⟩ := hcut
       cases kq with
       | zero => exact absurd HA.out (by simp [impl_OrderOk.j2])
       | succ i8 =>
        have H := HA.out
        clear HA
        simp only [impl_OrderOk.j2] at H
        replace H := ox_ H
        rcases H with ⟨rfl, H⟩ | ⟨rfl, H⟩
        ·
         obtain rfl := Option.some.inj H
         go_wp2
         go_ret
         exact ⟨zt_1, zt_0⟩
        have H' := ak H
        clear H
        go_wp2
        go_loopg [39] i8 (fun kq l7 w' => ∃ (a1 : Int), l7 = .int .i64 a1 ∧ Aside0 (impl_OrderOk.l1 kq l0 (l0.length : Int) a0 l0 (l0.length : Int) a0 (rd_L1 l0 a0) ((rd_L1 l0 a0).length : Int) a1 = some r) ∧ Aside0 (kq ≤ i8) ∧ Drawn0 w w')
        case atStart => exact ⟨(0), zt_1, H', ⟨Nat.le_refl _⟩, zt_0⟩
        case round =>
         clear H'
         try clear c4
         try clear c5
         try clear b1
         try clear c6
         try clear e0
         try clear c7
         try clear e1
         try clear l8
         try clear hx223_0
         try clear e2
         try clear q223
         obtain ⟨a1, rfl, HA, HK4, ⟨m4, rfl⟩⟩ := hrel
         cases gk with
         | zero => exact absurd HA.out (by simp [impl_OrderOk.l1])
         | succ k4 =>
          have H := HA.out
          clear HA
          simp only [impl_OrderOk.l1] at H
          replace H := os_ H
          rcases H with ⟨d8, H⟩ | ⟨d8, H⟩
          ·
           replace H := od2 H
           obtain ⟨f2, f3, H⟩ := H
           have e3 := ak H
           clear H
           obtain ⟨ad225, e225, hx225_0, i1, q225⟩ := ai_ HR223_0.out a1
           cases e225
           go_upto_region 12 with (fail)
           go_cut [49] (fun l9 wc => ∃ (kq : Nat) (b2 : Bool), l9 = .bool b2 ∧ Aside0 (impl_OrderOk.j4 kq l0 (l0.length : Int) a0 a1 (rd (rd_L1 l0 a0) a1) l0 (l0.length : Int) a0 (rd_L1 l0 a0) ((rd_L1 l0 a0).length : Int) a1 b2 = some r) ∧ Aside0 (kq ≤ k4) ∧ Drawn0 w wc)
           case first =>
            have H := e3.out
            clear e3
            replace H := oe2 H
            rcases H with ⟨⟨-, b0, f4⟩, H⟩ | ⟨⟨m9, b0, f4⟩, H⟩
            ·
             (first | rw [b0] | (simp only [i64_w, i32_w]; rw [b0]) | skip)
             have H' := ak H
             clear H
             go_wp2
             go_meet
             case rel => exact ⟨_, (false), zt_1, H', ⟨(by have := a9.out; have := HK2.out; have := d7.out; have := HK4.out; first | omega | exact Nat.le_refl _)⟩, zt_0⟩
            (first | rw [b0] | (simp only [i64_w, i32_w]; rw [b0]) | skip)
            have H' := ak H
            clear H
            go_wp2
            go_meet
            case rel => exact ⟨_, (((rd (rd_L1 l0 a0) a1) != 1)), zt_1, H', ⟨(by have := a9.out; have := HK2.out; have := d7.out; have := HK4.out; first | omega | exact Nat.le_refl _)⟩, zt_0⟩
           case rest =>
            clear e3
            try clear c4
            try clear c5
            try clear b1
            try clear c6
            try clear e0
            try clear c7
            try clear e1
            try clear l8
            try clear n0
            try clear d8
            try clear n1
            try clear f2
            try clear n2
            try clear f3
            try clear hx223_0
            try clear hx225_0
            try clear e2
            try clear i1
            try clear q223
            try clear q225
            obtain ⟨kq, b2, rfl, HA, d3, ⟨mc14, rfl⟩⟩ := hcut
            cases kq with
            | zero => exact absurd HA.out (by simp [impl_OrderOk.j4])
            | succ e4 =>
             have H := HA.out
             clear HA
             simp only [impl_OrderOk.j4] at H
             replace H := ox_ H
             rcases H with ⟨rfl, H⟩ | ⟨rfl, H⟩
             ·
              obtain rfl := Option.some.inj H
              go_wp2
              go_ret
              exact ⟨zt_1, zt_0⟩
             replace H := od2 H
             obtain ⟨i9, j1, H⟩ := H
             replace H := oe2 H
             rcases H with ⟨⟨f1, f5, f6⟩, H⟩ | ⟨⟨f1, f5, f6⟩, H⟩
             ·
              have f7 : ((rd_L1 l0 a1).length == l0.length) = true := by first | simpa using f1 | (simp at f1 ⊢; omega)
              clear f1
              replace H := oe2 H
              rcases H with ⟨⟨-, f8, f9⟩, H⟩ | ⟨⟨n3, f8, f9⟩, H⟩
              ·
               replace H := oe2 H
               rcases H with ⟨⟨-, g0, g1⟩, H⟩ | ⟨⟨n4, g0, g1⟩, H⟩
               ·
                have H' := ak H
                clear H
                obtain ⟨ad226, a6, a7, e226, hx226_0, a5, HR226_0, d4, q226⟩ := al_ HR0.out a1
                obtain rfl := ij_ e226
                go_wp2
                go_roundg e4
                case measure => have := a9.out; have := HK2.out; have := d7.out; have := HK4.out; have := d3.out; omega
                case rel => exact ⟨(wrap64 (a1 + 1)), zt_1, H', ⟨zt_3⟩, zt_0⟩
               replace H := od2 H
               obtain ⟨j3, j5, H⟩ := H
               replace H := oe2 H
               rcases H with ⟨⟨-, g2, g3⟩, H⟩ | ⟨⟨n5, g2, g3⟩, H⟩
               ·
                obtain rfl := Option.some.inj H
                obtain ⟨ad226, a6, a7, e226, hx226_0, a5, HR226_0, d4, q226⟩ := al_ HR0.out a1
                obtain rfl := ij_ e226
                obtain ⟨ad227, e5, e6, e227, hx227_0, d5, HR227_0, i2, q227⟩ := al_ HR0.out a1
                obtain rfl := ij_ e227
                obtain ⟨rfl, rfl⟩ := is_ hx226_0 hx227_0
                obtain ⟨ad228, e228, hx228_0, i3, q228⟩ := ai_ HR227_0.out a0
                cases e228
                go_wp2
                go_ret
                exact ⟨zt_1, zt_0⟩
               have H' := ak H
               clear H
               obtain ⟨ad226, a6, a7, e226, hx226_0, a5, HR226_0, d4, q226⟩ := al_ HR0.out a1
               obtain rfl := ij_ e226
               obtain ⟨ad227, e5, e6, e227, hx227_0, d5, HR227_0, i2, q227⟩ := al_ HR0.out a1
               obtain rfl := ij_ e227
               obtain ⟨rfl, rfl⟩ := is_ hx226_0 hx227_0
               obtain ⟨ad228, e228, hx228_0, i3, q228⟩ := ai_ HR227_0.out a0
               cases e228
               go_wp2
               go_roundg e4
               case measure => have := a9.out; have := HK2.out; have := d7.out; have := HK4.out; have := d3.out; omega
               case rel => exact ⟨(wrap64 (a1 + 1)), zt_1, H', ⟨zt_3⟩, zt_0⟩
              have H' := ak H
              clear H
              obtain ⟨ad226, a6, a7, e226, hx226_0, a5, HR226_0, d4, q226⟩ := al_ HR0.out a1
              obtain rfl := ij_ e226
              go_wp2
              go_roundg e4
              case measure => have := a9.out; have := HK2.out; have := d7.out; have := HK4.out; have := d3.out; omega
              case rel => exact ⟨(wrap64 (a1 + 1)), zt_1, H', ⟨zt_3⟩, zt_0⟩
             have f7 : ((rd_L1 l0 a1).length == l0.length) = false := by first | simpa using f1 | (simp at f1 ⊢; omega)
             obtain rfl := Option.some.inj H
             obtain ⟨ad226, a6, a7, e226, hx226_0, a5, HR226_0, d4, q226⟩ := al_ HR0.out a1
             obtain rfl := ij_ e226
             go_wp2
             go_ret
             exact ⟨zt_1, zt_0⟩
          have H' := ak H
          clear H
          go_wp2
          go_roundg k4
          case measure => have := a9.out; have := HK2.out; have := d7.out; have := HK4.out; omega
          case rel => exact ⟨(wrap64 (a0 + 1)), zt_1, H', ⟨(by have := a9.out; have := HK2.out; have := d7.out; have := HK4.out; omega)⟩, zt_0⟩
     have H' := ak H
     clear H
     go_wp2
     go_loopg [79] k2 (fun kq m0 w' => ∃ (a2 : Int), m0 = .int .i64 a2 ∧ Aside0 (impl_OrderOk.l2 kq l0 (l0.length : Int) (l0.length : Int) a2 = some r) ∧ Aside0 (kq ≤ k2) ∧ Drawn0 w w')
     case atStart => exact ⟨(0), zt_1, H', ⟨Nat.le_refl _⟩, zt_0⟩
     case round =>
      clear H'
      try clear c4
      try clear c5
      try clear b1
      obtain ⟨a2, rfl, HA, HK3, ⟨m3, rfl⟩⟩ := hrel
      cases gk with
      | zero => exact absurd HA.out (by simp [impl_OrderOk.l2])
      | succ k3 =>
       have H := HA.out
       clear HA
       simp only [impl_OrderOk.l2] at H
       replace H := os_ H
       rcases H with ⟨d0, H⟩ | ⟨d0, H⟩
       ·
        have H' := ak H
        clear H
        go_wp2
        go_loopg [83] k3 (fun kq m1 w' => ∃ (a3 : Int), m1 = .int .i64 a3 ∧ Aside0 (impl_OrderOk.l3 kq l0 (l0.length : Int) a2 (l0.length : Int) a2 (l0.length : Int) a3 = some r) ∧ Aside0 (kq ≤ k3) ∧ Drawn0 w w')
        case atStart => exact ⟨(0), zt_1, H', ⟨Nat.le_refl _⟩, zt_0⟩
        case round =>
         clear H'
         try clear c4
         try clear c5
         try clear b1
         try clear m6
         try clear d0
         obtain ⟨a3, rfl, HA, HK4, ⟨m4, rfl⟩⟩ := hrel
         cases gk with
         | zero => exact absurd HA.out (by simp [impl_OrderOk.l3])
         | succ k4 =>
          have H := HA.out
          clear HA
          simp only [impl_OrderOk.l3] at H
          replace H := os_ H
          rcases H with ⟨d9, H⟩ | ⟨d9, H⟩
          ·
           have H' := ak H
           clear H
           go_wp2
           go_loopg [87] k4 (fun kq m7 w' => ∃ (a4 : Int), m7 = .int .i64 a4 ∧ Aside0 (impl_OrderOk.l4 kq l0 (l0.length : Int) a2 a3 (l0.length : Int) a2 (l0.length : Int) a3 (l0.length : Int) a4 = some r) ∧ Aside0 (kq ≤ k4) ∧ Drawn0 w w')
           case atStart => exact ⟨(0), zt_1, H', ⟨Nat.le_refl _⟩, zt_0⟩
           case round =>
            clear H'
            try clear c4
            try clear c5
            try clear b1
            try clear m6
            try clear d0
            try clear n6
            try clear d9
            obtain ⟨a4, rfl, HA, HK5, ⟨m5, rfl⟩⟩ := hrel
            cases gk with
            | zero => exact absurd HA.out (by simp [impl_OrderOk.l4])
            | succ k5 =>
             have H := HA.out
             clear HA
             simp only [impl_OrderOk.l4] at H
             replace H := os_ H
             rcases H with ⟨g4, H⟩ | ⟨g4, H⟩
             ·
              replace H := od4 H
              obtain ⟨j6, j7, j8, j9, H⟩ := H
              replace H := oe2 H
              rcases H with ⟨⟨-, g5, g6⟩, H⟩ | ⟨⟨n7, g5, g6⟩, H⟩
              ·
               replace H := od3 H
               obtain ⟨k0, k1, k6, H⟩ := H
               replace H := oe2 H
               rcases H with ⟨⟨-, g7, g8⟩, H⟩ | ⟨⟨n8, g7, g8⟩, H⟩
               ·
                replace H := od_ H
                obtain ⟨k7, H⟩ := H
                replace H := oe2 H
                rcases H with ⟨⟨-, g9, h0⟩, H⟩ | ⟨⟨n9, g9, h0⟩, H⟩
                ·
                 have H' := ak H
                 clear H
                 obtain ⟨ad229, b3, b4, e229, hx229_0, a8, HR229_0, e7, q229⟩ := al_ HR0.out a2
                 cases e229
                 obtain ⟨ad230, e230, hx230_0, e8, q230⟩ := ai_ HR229_0.out a3
                 cases e230
                 obtain ⟨ad231, d1, d2, e231, hx231_0, b5, HR231_0, h1, q231⟩ := al_ HR0.out a3
                 obtain rfl := ij_ e231
                 obtain ⟨ad232, e232, hx232_0, h2, q232⟩ := ai_ HR231_0.out a4
                 cases e232
                 obtain ⟨ad233, e9, f0, e233, hx233_0, d6, HR233_0, i4, q233⟩ := al_ HR0.out a2
                 obtain rfl := ij_ e233
                 obtain ⟨rfl, rfl⟩ := is_ hx229_0 hx233_0
                 obtain ⟨ad234, e234, hx234_0, i5, q234⟩ := ai_ HR233_0.out a4
                 cases e234
                 go_wp2
                 go_roundg k5
                 case measure => have := a9.out; have := HK2.out; have := HK3.out; have := HK4.out; have := HK5.out; omega
                 case rel => exact ⟨(wrap64 (a4 + 1)), zt_1, H', ⟨zt_2⟩, zt_0⟩
                obtain rfl := Option.some.inj H
                obtain ⟨ad229, b3, b4, e229, hx229_0, a8, HR229_0, e7, q229⟩ := al_ HR0.out a2
                cases e229
                obtain ⟨ad230, e230, hx230_0, e8, q230⟩ := ai_ HR229_0.out a3
                cases e230
                obtain ⟨ad231, d1, d2, e231, hx231_0, b5, HR231_0, h1, q231⟩ := al_ HR0.out a3
                obtain rfl := ij_ e231
                obtain ⟨ad232, e232, hx232_0, h2, q232⟩ := ai_ HR231_0.out a4
                cases e232
                obtain ⟨ad233, e9, f0, e233, hx233_0, d6, HR233_0, i4, q233⟩ := al_ HR0.out a2
                obtain rfl := ij_ e233
                obtain ⟨rfl, rfl⟩ := is_ hx229_0 hx233_0
                obtain ⟨ad234, e234, hx234_0, i5, q234⟩ := ai_ HR233_0.out a4
                cases e234
                go_wp2
                go_ret
                exact ⟨zt_1, zt_0⟩
               have H' := ak H
               clear H
               obtain ⟨ad229, b3, b4, e229, hx229_0, a8, HR229_0, e7, q229⟩ := al_ HR0.out a2
               cases e229
               obtain ⟨ad230, e230, hx230_0, e8, q230⟩ := ai_ HR229_0.out a3
               cases e230
               obtain ⟨ad231, d1, d2, e231, hx231_0, b5, HR231_0, h1, q231⟩ := al_ HR0.out a3
               obtain rfl := ij_ e231
               obtain ⟨ad232, e232, hx232_0, h2, q232⟩ := ai_ HR231_0.out a4
               cases e232
               go_wp2
               go_roundg k5
               case measure => have := a9.out; have := HK2.out; have := HK3.out; have := HK4.out; have := HK5.out; omega
               case rel => exact ⟨(wrap64 (a4 + 1)), zt_1, H', ⟨zt_2⟩, zt_0⟩
              have H' := ak H
              clear H
              obtain ⟨ad229, b3, b4, e229, hx229_0, a8, HR229_0, e7, q229⟩ := al_ HR0.out a2
              cases e229
              obtain ⟨ad230, e230, hx230_0, e8, q230⟩ := ai_ HR229_0.out a3
              cases e230
              go_wp2
              go_roundg k5
              case measure => have := a9.out; have := HK2.out; have := HK3.out; have := HK4.out; have := HK5.out; omega
              case rel => exact ⟨(wrap64 (a4 + 1)), zt_1, H', ⟨zt_2⟩, zt_0⟩
             have H' := ak H
             clear H
             go_wp2
             go_roundg k5
             case measure => have := a9.out; have := HK2.out; have := HK3.out; have := HK4.out; have := HK5.out; omega
             case rel => exact ⟨(wrap64 (a3 + 1)), zt_1, H', ⟨zt_2⟩, zt_0⟩
          have H' := ak H
          clear H
          go_wp2
          go_roundg k4
          case measure => have := a9.out; have := HK2.out; have := HK3.out; have := HK4.out; omega
          case rel => exact ⟨(wrap64 (a2 + 1)), zt_1, H', ⟨(by have := a9.out; have := HK2.out; have := HK3.out; have := HK4.out; omega)⟩, zt_0⟩
       obtain rfl := Option.some.inj H
       go_wp2
       go_ret
       exact ⟨zt_1, zt_0⟩

end Go.Proofs.Ytlkibgccgkhdmaa.P

namespace Go.Proofs.Ytlkibgccgkhdmaa.P
open Go.RowKit Go.Proofs.YtlkibgccgkhdmaaW.PrintWords Go.Proofs.YtlkibgccgkhdmaaW.PrintLast Go.Proofs.YtlkibgccgkhdmaaW.PrintMore
attribute [local go_sem] max2_int min2_int max_two min_two max_three min_three max_four min_four
set_option linter.unusedVariables false
set_option linter.unusedSimpArgs false
def impl_turned.T9 : Bool × List (List Nat × List Nat) := (true, [([], []), ([], []), ([0, 1], [0, 1]), ([2], [2]), ([], []), ([], []), ([], []), ([5, 6], [5, 6]), ([7], [7]), ([], []), ([8, 9], [8, 9]), ([10], [10]), ([3, 4, 0, 1, 2, 3, 4, 5, 6, 7, 8, 9, 10, 11], [3, 4]), ([12, 11, 0, 1, 2, 3, 4, 5, 6, 7, 8, 9, 10, 11], [11, 12])])
def impl_turned.B9 : List Nat := [0, 0, 3, 7, 0, 0, 0, 96, 224, 0, 992, 2016, 4095, 8191]
theorem impl_turned.tab9 : rtab .any (opsOf Try.f93 9) = impl_turned.T9 := by kernel_rfl
theorem impl_turned.bits9 : waitsOk impl_turned.T9.2 impl_turned.B9 = true := by kernel_rfl
theorem zu_1 {p : Prop} (h : p := by first | rfl | (simp; done) | (simp [*]; done)) : p := h
theorem zu_0 {p : Prop} (h : p := by repeat (first | (with_reducible first | exact HB.out | apply below_alloc | apply pw_below_drewN | apply below_drew1) | exact HB.out)) : p := h
set_option maxHeartbeats 8000000 in
set_option maxRecDepth 100000 in
theorem impl_turned.calls (k : Nat) (A0 : Option Addr) (c0 : Nat) (l0 : List (List Int)) (r : List (List Int)) (w : World) (hr0 : Kd.C (Kd.slice 3 (Kd.int .i64)) w A0 l0.length l0) (hc0 : l0.length ≤ c0) (h : impl_turned.f k l0 = some r) :
 Calls Try.prog 93 #[.slice A0 l0.length c0] w fun e w' => ∃ v0_ : Value, e = .returned (v0_) ∧ Kd.S (Kd.slice 3 (Kd.int .i64)) 23 w' w.heap.size (fun _ => True) v0_ r ∧ Below w.heap.size w w' := by
 have HR0 := ak hr0
 have f8 := ak hc0
 clear hr0 hc0
 have HB := ak (Below.refl w.heap.size w)
 have H : (if 0 ≤ (l0.length : Int) then (if ((l0.length : Int) : Int).toNat ≤ 11728124029610 then (impl_turned.l0 k l0 (List.replicate ((l0.length : Int) : Int).toNat []) (l0.length : Int) 0) else (none)) else (none)) = some r := h
 clear h
 replace H := ok_ H
 obtain ⟨c2, H⟩ := H
 have b3 := eq_true c2
 have b4 : decide (0 ≤ (l0.length : Int)) = true := dT_ c2
 clear c2
 replace H := ok_ H
 obtain ⟨c3, H⟩ := H
 have b5 := eq_true c3
 have b6 : decide (((l0.length : Int) : Int).toNat ≤ 11728124029610) = true := dT_ c3
 clear c3
 obtain ⟨y200, hy200⟩ : ∃ y_ : List (List Int), y_ = (List.replicate ((l0.length : Int) : Int).toNat []) := ⟨_, rfl⟩
 replace H : (impl_turned.l0 k l0 y200 (l0.length : Int) 0) = some r := by first | (rw [hy200]; with_reducible exact H) | (have H2_ := (Option.bind_some _ _).symm.trans H; rw [hy200]; with_reducible exact H2_) | (have H2_ := (Option.bind_some _ _).symm.trans H; with_reducible exact H2_) | with_reducible exact H | (rw [hy200]; exact H) | exact H
 have Ny200 := ak hy200
 clear hy200
 have H' := ak H
 clear H
 go_enter Try.func93, Try.ntmps93
 go_wp2_with (first | ((with_reducible refine gate_dst (N := 8) rfl ?_); refine Kd.S_make (Kd.slice 3 (Kd.int .i64)) _ 23 rfl (N := 8) rfl 22 _ _ rfl (l0.length : Int) rfl rfl Try.underlying22 (.slice none 0 0) 24 info23 rfl (by decide) (by omega) [] (ok := fun _ => True) (okp := fun _ => True) ⟨_, rfl, Kd.R_nil _ _ _ _ _⟩ (fun _ hk => hk) trivial (oa_) (Nat.le_trans (Nat.mul_le_mul_right _ (oa_ : (l0.length : Int).toNat ≤ 11728124029610)) (by omega)) (Below.refl _ _) (Nat.le_refl _) ?_; intro d8 w4 ho5 hb hg_ hnew_; clear hg_ hnew_; (first | rw [← Ny200.out] at ho5 | (simp only [Int.reduceToNat] at ho5; rw [← Ny200.out] at ho5)); have b7 := ak (Kd.S_lower ho5 (below_size zu_0)); replace HB := ak (below_step zu_0 hb); clear hb ho5))
 go_loopg [11] k (fun kq f5 w' => ∃ (a4 : List (List Int)) (a0 : Int), f5 = .int .i64 a0 ∧ Aside0 (impl_turned.l0 kq l0 a4 (l0.length : Int) a0 = some r) ∧ Aside0 (kq ≤ k) ∧ Aside0 (Kd.S (Kd.slice 3 (Kd.int .i64)) 23 w' w.heap.size (fun _ => True) d8 a4) ∧ Aside0 (Below w.heap.size w w'))
 case atStart => exact ⟨(y200), (0), zu_1, H', ⟨Nat.le_refl _⟩, ⟨(xS b7.out)⟩, ⟨zu_0⟩⟩
 case round =>
  clear H'
  try clear c2
  try clear b3
  try clear b4
  try clear c3
  try clear b5
  try clear b6
  obtain ⟨a4, a0, rfl, HA, HK1, a2, HB⟩ := hrel
  cases gk with
  | zero => exact absurd HA.out (by simp [impl_turned.l0])
  | succ k1 =>
   have H := HA.out
   clear HA
   simp only [impl_turned.l0] at H
   replace H := os_ H
   rcases H with ⟨b8, H⟩ | ⟨b8, H⟩
   ·
    replace H := ok_ H
    obtain ⟨c7, H⟩ := H
    have d9 := eq_true c7
    have e0 : decide (0 ≤ (l0.length : Int)) = true := dT_ c7
    clear c7
    replace H := ok_ H
    obtain ⟨c8, H⟩ := H
    have e1 := eq_true c8
    have e2 : decide (((l0.length : Int) : Int).toNat ≤ 35184372088832) = true := dT_ c8
    clear c8
    obtain ⟨y203, hy203⟩ : ∃ y_ : List Int, y_ = (List.replicate ((l0.length : Int) : Int).toNat 0) := ⟨_, rfl⟩
    replace H : (if 0 ≤ a0 then (if a0 < (a4.length : Int) then (impl_turned.l1 k1 l0 (a4.set (a0 : Int).toNat y203) a0 (l0.length : Int) a0 (l0.length : Int) 0) else (none)) else (none)) = some r := by first | (rw [hy203]; with_reducible exact H) | (have H2_ := (Option.bind_some _ _).symm.trans H; rw [hy203]; with_reducible exact H2_) | (have H2_ := (Option.bind_some _ _).symm.trans H; with_reducible exact H2_) | with_reducible exact H | (rw [hy203]; exact H) | exact H
    have Ny203 := ak hy203
    clear hy203
    replace H := od2 H
    obtain ⟨e3, b9, H⟩ := H
    obtain ⟨y206, hy206⟩ : ∃ y_ : List (List Int), y_ = (a4.set (a0 : Int).toNat y203) := ⟨_, rfl⟩
    replace H : (impl_turned.l1 k1 l0 y206 a0 (l0.length : Int) a0 (l0.length : Int) 0) = some r := by first | (rw [hy206]; with_reducible exact H) | (have H2_ := (Option.bind_some _ _).symm.trans H; rw [hy206]; with_reducible exact H2_) | (have H2_ := (Option.bind_some _ _).symm.trans H; with_reducible exact H2_) | with_reducible exact H | (rw [hy206]; exact H) | exact H
    have Ny206 := ak hy206
    clear hy206
    have H' := ak H
    clear H
    go_wp2_with (first | ((with_reducible refine gate_dst (N := 18) rfl ?_); refine Kd.R_make (Kd.int .i64) _ 3 rfl (N := 18) rfl 23 _ _ rfl (l0.length : Int) rfl rfl Try.underlying23 (.int .i64 0) 8 info3 rfl (by decide) (by omega) 0 (ok := fun _ => True) (okp := fun _ => True) rfl (fun _ hk => hk) trivial (oa_) (Nat.le_trans (Nat.mul_le_mul_right _ (oa_ : (l0.length : Int).toNat ≤ 35184372088832)) (by omega)) (Below.refl _ _) (Nat.le_refl _) ?_; intro a6 e4 ho13 hb hg_ hnew_; clear hg_ hnew_; (first | rw [← Ny203.out] at ho13 | (simp only [Int.reduceToNat] at ho13; rw [← Ny203.out] at ho13)); replace a2 := ak (Kd.S_elder' (xS a2.out) (Kd.R_base ho13) hb); have a5 := ak (Kd.R_lower ho13 (below_size zu_0)); replace HB := ak (below_step zu_0 hb); clear hb ho13; have d5 : 0 ≤ (a0 : Int) := oa_; have q11 : (a0 : Int) < ((a4.length : Int) : Int) := oa_; obtain ⟨go11, a8, d0, d1, gl11, cl11, HG11⟩ := Kd.S_form a2.out (by omega); (first | cases d0 | (injection d0 with ea_ en_ ec_; (first | subst ea_ | (injection ea_ with ea_; subst ea_)); subst ec_; clear en_)); have GB11 := ak d1; have GG11 := ak HG11; clear d1 gl11 HG11; obtain ⟨_, ce11, hcl11, hM11, hcc11, hfr11, _, _⟩ := Kd.S_elem a2.out [] (a0 : Int) d5 q11; obtain ⟨ve11_0, rfl, ge11_0⟩ := hM11; have hx11_0 := hcc11 0 _ rfl; have hf11_0 := hfr11 0; (try simp only [show ((Kd.slice 3 (Kd.int .i64))).sz = 1 from rfl, Nat.mul_one, Nat.add_zero] at hx11_0); (try simp only [show ((Kd.slice 3 (Kd.int .i64))).sz = 1 from rfl, Nat.mul_one, Nat.add_zero] at hf11_0); clear hcl11 hcc11 hfr11; (try clear hM11); replace d5 := eq_true d5; replace q11 := eq_true q11; have n_ := ak (Kd.S_mono (ok' := (fun k_ => some k_ ≠ (a6 : Value).ownBlock)) a2.out (fun k_ hk => hk.2)); clear a2; have a2 := n_; clear n_; have HX14 := ak (show Kd.S (Kd.slice 3 (Kd.int .i64)) 23 e4 w.heap.size (fun k_ => ((fun _ => True)) k_ ∧ ¬ ((fun k_ => some k_ = (a6 : Value).ownBlock)) k_) (.slice (some ⟨go11, 0, none⟩) a4.length a8) a4 from (by (with_reducible repeat (first | apply Kd.S_alloc | apply Kd.S_drewN | apply Kd.S_drew)); exact Kd.S_mono a2.out (fun k_ hk => ⟨trivial, fun e_ => hk e_⟩))); obtain ⟨oki14, ce14, hcl14, hM14, hcc14, hfr14, hoki14, hH14⟩ := Kd.S_elem HX14.out [] (a0 : Int) (oa_) (by have h_ : (a0 : Int) < ((a4.length : Int) : Int) := oa_; first | exact h_ | (have e_ := (Kd.S_reads' a2.out).1; omega) | simpa using h_); obtain ⟨ve14_0, rfl, ge14_0⟩ := hM14; have HP14 := Kd.S_seg hH14 (oa_) (by have h_ : (a0 : Int) < ((a4.length : Int) : Int) := oa_; first | exact h_ | (have e_ := (Kd.S_reads' a2.out).1; omega) | simpa using h_) (seg := [a6]) (j := 0) (show 1 ≤ 1 from by decide) (x' := y203) (Kd.M_row (Kd.R_mono (Kd.R_tight rfl (Kd.R_mono (ok' := fun k_ => ((fun _ => True)) k_ ∧ k_ ≠ go11) (Kd.R_apart' (a5.out) (Kd.S_typed a2.out) (by decide)) (fun k_ hk => ⟨trivial, fun e_ => (hk.2) (by rw [e_]; rfl)⟩))) (fun _ h_ => Or.inr (h_)))) (fun _ hk => hk) (fun k_ hk_ => ((Kd.R_mono (ok' := fun k_ => ((fun _ => True)) k_ ∧ k_ ≠ go11) (Kd.R_apart' (a5.out) (Kd.S_typed a2.out) (by decide)) (fun k_ hk => ⟨trivial, fun e_ => (hk.2) (by rw [e_]; rfl)⟩))).1 k_ hk_.symm); have hx14_0 := hcc14 0 _ rfl; (try simp only [show ((Kd.slice 3 (Kd.int .i64))).sz = 1 from rfl, Nat.mul_one, Nat.add_zero] at hx14_0); have hf14_0 := hfr14 0; (try simp only [show ((Kd.slice 3 (Kd.int .i64))).sz = 1 from rfl, Nat.mul_one, Nat.add_zero] at hf14_0); clear hcl14 hcc14 hfr14 hoki14 hH14; (try clear hM14); (try simp only [show ((Kd.slice 3 (Kd.int .i64))).sz = 1 from rfl, Nat.mul_one, Nat.add_zero] at HP14)) | ((with_reducible refine gate_store (t := 23) (p := 19) rfl ?_); refine store_event (t := 23) (p := 19) (v := ?vo_w15) (w1 := (e4.setCell ⟨go11, (a0 : Int).toNat, none⟩ (a6))) ?hg ?ho ?hn ?hr ?_; (case ho => rfl); (case hg => rfl); (case hn => rfl); (case hr => first | (go_simp; done) | (go_simp; rfl) | (obtain ⟨_, _, e_⟩ := Kd.R_slice a5.out; rw [e_]; first | (go_simp; done) | (go_simp; rfl))); intro e5 hw; have hg : e4.grownBy e5 (some go11) := (by rw [hw]; exact HP14.2); have hp_ : Kd.S (Kd.slice 3 (Kd.int .i64)) 23 e5 w.heap.size (fun _ => True) (.slice (some ⟨go11, 0, none⟩) a4.length a8) y206 := (by rw [hw, Ny206.out]; exact HP14.1); clear HP14; replace a2 := ak (hp_); replace HB := ak ((by rw [hw]; exact below_set (HB.out) GB11.out : Below w.heap.size w e5)); clear a5; clear hg hw hp_))
    go_loopg [22] k1 (fun kq f6 w' => ∃ (a3 : List (List Int)) (a1 : Int), f6 = .int .i64 a1 ∧ Aside0 (impl_turned.l1 kq l0 a3 a0 (l0.length : Int) a0 (l0.length : Int) a1 = some r) ∧ Aside0 (kq ≤ k1) ∧ Aside0 (Kd.S (Kd.slice 3 (Kd.int .i64)) 23 w' w.heap.size (fun _ => True) (.slice (some ⟨go11, 0, none⟩) a4.length a8) a3) ∧ Aside0 (Below w.heap.size w w'))
    case atStart => exact ⟨(y206), (0), zu_1, H', ⟨Nat.le_refl _⟩, ⟨(xS a2.out)⟩, ⟨zu_0⟩⟩
    case round =>
     clear H'
     try clear c2
     try clear b3
     try clear b4
     try clear c3
     try clear b5
     try clear b6
     try clear c6
     try clear b8
     try clear c7
     try clear d9
     try clear e0
     try clear c8
     try clear e1
     try clear e2
     try clear c9
     try clear e3
     try clear f9
     try clear b9
     try clear d5
     try clear q11
     try clear hx11_0
     try clear hx14_0
     obtain ⟨a3, a1, rfl, HA, HK2, a2, HB⟩ := hrel
     have hl3_2 := (Kd.S_reads' a2.out).1
     rw [hl3_2] at a2
     (try simp only [hl3_2])
     cases gk with
     | zero => exact absurd HA.out (by simp [impl_turned.l1])
     | succ k2 =>
      have H := HA.out
      clear HA
      simp only [impl_turned.l1] at H
      replace H := os_ H
      rcases H with ⟨d2, H⟩ | ⟨d2, H⟩
      ·
       replace H := od6 H
       obtain ⟨e9, f0, f1, f2, f3, f4, H⟩ := H
       obtain ⟨y210, hy210⟩ : ∃ y_ : List Int, y_ = ((rd_L1 a3 a0).set (a1 : Int).toNat (rd (rd_L1 l0 a1) a0)) := ⟨_, rfl⟩
       replace H : (impl_turned.l1 k2 l0 (a3.set (a0 : Int).toNat y210) a0 (l0.length : Int) a0 (l0.length : Int) (wrap64 (a1 + 1))) = some r := by first | (rw [hy210]; with_reducible exact H) | (have H2_ := (Option.bind_some _ _).symm.trans H; rw [hy210]; with_reducible exact H2_) | (have H2_ := (Option.bind_some _ _).symm.trans H; with_reducible exact H2_) | with_reducible exact H | (rw [hy210]; exact H) | exact H
       have Ny210 := ak hy210
       clear hy210
       obtain ⟨y212, hy212⟩ : ∃ y_ : List (List Int), y_ = (a3.set (a0 : Int).toNat y210) := ⟨_, rfl⟩
       replace H : (impl_turned.l1 k2 l0 y212 a0 (l0.length : Int) a0 (l0.length : Int) (wrap64 (a1 + 1))) = some r := by first | (rw [hy212]; with_reducible exact H) | (have H2_ := (Option.bind_some _ _).symm.trans H; rw [hy212]; with_reducible exact H2_) | (have H2_ := (Option.bind_some _ _).symm.trans H; with_reducible exact H2_) | with_reducible exact H | (rw [hy212]; exact H) | exact H
       have Ny212 := ak hy212
       clear hy212
       have H' := ak H
       clear H
       try go_wp2
       replace a2 := ak (Kd.S_drew a2.out)
       replace HB := ak (below_drew1 HB.out)
       have a7 : 0 ≤ (a0 : Int) := oa_
       have q207 : a0 < (a3.length : Int) := oa_
       obtain ⟨ad207, e6, a9, e207, hx207_0, hl207_0, hi207_0⟩ := at_L1 (Kd.S_reads' a2.out).2.2 a0 a7 q207
       obtain rfl : (⟨go11, 0, none⟩ : Addr) = ad207 := (by injection e207)
       obtain ⟨ce207, hce207, hMe207, hcc207⟩ := Kd.S_get a2.out [] a0 a7 (by first | exact q207 | exact oa_ | (have e_ := (Kd.S_reads' a2.out).1; omega))
       obtain ⟨ve207_0, rfl, ge207_0⟩ := hMe207
       have hv207_0 := hcc207 0 _ rfl
       rw [Nat.add_zero, show ((Kd.slice 3 (Kd.int .i64))).sz = 1 from rfl, Nat.mul_one] at hv207_0
       replace hv207_0 := Option.some.inj (hv207_0.symm.trans hx207_0)
       rw [hv207_0] at ge207_0
       have HL207_0 := ak (show Kd.R (Kd.int .i64) 3 _ _ _ _ (rd_L1 a3 a0) from ge207_0)
       clear hv207_0 ge207_0
       have HX207_0 := ak hx207_0
       clear hcc207 hce207
       (first | simp only [add_plain] at hx207_0 | simp only [add_at] at hx207_0 | simp only [Addr.add, Nat.zero_add] at hx207_0 | skip)
       have HR207_0 := ak hi207_0
       have d6 := ak hl207_0
       clear hi207_0 hl207_0
       replace a7 := eq_true a7
       replace q207 := eq_true q207
       have b0 : 0 ≤ (a1 : Int) := oa_
       have q208 : a1 < (l0.length : Int) := oa_
       obtain ⟨ad208, e7, b1, e208, hx208_0, hl208_0, hi208_0⟩ := at_L1 HR0.out a1 b0 q208
       have hw208_0 := hx208_0
       cases e208
       replace hx208_0 := (HB.out.cell (World.block_lt_of_cell? w _ hx208_0)).trans hx208_0
       have HR208_0 := ak hi208_0
       have d7 := ak hl208_0
       clear hi208_0 hl208_0
       replace b0 := eq_true b0
       replace q208 := eq_true q208
       have b2 : 0 ≤ (a0 : Int) := oa_
       have q209 : a0 < ((rd_L1 l0 a1).length : Int) := oa_
       obtain ⟨ad209, e209, hx209_0⟩ := Kd.at_int HR208_0.out a0 b2 q209
       have hw209_0 := hx209_0
       cases e209
       replace hx209_0 := (HB.out.cell (World.block_lt_of_cell? w _ hx209_0)).trans hx209_0
       replace b2 := eq_true b2
       replace q209 := eq_true q209
       have e8 : 0 ≤ (a1 : Int) := oa_
       have q23 : (a1 : Int) < (((rd_L1 a3 a0).length : Int) : Int) := oa_
       obtain ⟨go23, f7, d3, d4, gl23, cl23, HG23⟩ := Kd.R_form HL207_0.out (by omega)
       (first | cases d3 | (injection d3 with ea_ en_ ec_; (first | subst ea_ | (injection ea_ with ea_; subst ea_)); subst ec_; clear en_))
       have GB23 := ak d4
       have GG23 := ak HG23
       clear d4 gl23 HG23
       obtain ⟨hx23_0, hf23_0⟩ := Kd.R_celln 0 HL207_0.out (a1 : Int) e8 q23
       replace e8 := eq_true e8
       replace q23 := eq_true q23
       have hq25 : (a0 : Int) < (a3.length : Int) := (by have h_ : (a0 : Int) < ((a3.length : Int) : Int) := oa_; first | exact h_ | (have e_ := (Kd.S_reads' a2.out).1; omega) | simpa only [List.length_set, List.length_set] using h_)
       obtain ⟨oki25, ce25, hcl25, hM25, hcc25, hok25, hbk25⟩ := Kd.S_borrow a2.out [] (a0 : Int) (oa_) hq25
       obtain ⟨ve25_0, rfl, ge25_0⟩ := hM25
       have hv25 := hcc25 0 _ rfl
       rw [Nat.add_zero, show ((Kd.slice 3 (Kd.int .i64))).sz = 1 from rfl, Nat.mul_one] at hv25
       replace hv25 := Option.some.inj (hv25.symm.trans HX207_0.out)
       subst hv25
       clear hcc25 hcl25
       replace ge25_0 := (show Kd.R (Kd.int .i64) 3 _ _ _ _ (rd_L1 a3 a0) from ge25_0)
       have HP25 := Kd.R_putg ge25_0 (a1 : Int) (rd (rd_L1 l0 a1) a0)
       rw [← Ny210.out] at HP25
       have HS25 := hbk25 HP25.2 (fun k_ e_ => by injection e_ with e_; subst e_; exact ge25_0.1 _ rfl) (x' := y210) (Kd.M_row HP25.1)
       rw [← Ny212.out] at HS25
       have HQ25 := ak HS25
       clear HP25 HS25 hbk25 hok25
       refine start_ (n := 14) (S := fun w' => w'.cell? ⟨go11, (a0).toNat, none⟩ = some (.slice (some ⟨go23, 0, none⟩) (rd_L1 a3 a0).length a9) ∧ w'.cell? (ad208.add (a1).toNat) = some (.slice (some ad209) (rd_L1 l0 a1).length b1) ∧ w'.cell? (ad209.add (a0).toNat) = some (.int .i64 (rd (rd_L1 l0 a1) a0))) (ds := [13]) (bA 14 0) (by kernel_rfl) rfl rfl ⟨hx207_0, ((HB.out.cell (World.block_lt_of_cell? w _ hw208_0)).trans hw208_0), ((HB.out.cell (World.block_lt_of_cell? w _ hw209_0)).trans hw209_0)⟩ (fun hHeld => ?_); refine with_tabW impl_turned.tab9 impl_turned.bits9 (fun HT_ HW_ => ?_)
       generalize wr.drew = g0 at a2 HB GG23 HL207_0 HQ25 HR207_0 HR208_0 HX207_0 hf23_0 hx207_0 hx208_0 hx209_0 hx23_0 hHeld ⊢
       refine pu_ (i := 0) (N := some 25) (bA 14 1) ?_
       refine pu_ (i := 1) (N := some 26) (bA 14 3) ?_
       refine pu_ (i := 2) (N := some 27) (bA 14 7) ?_
       refine pu_ (i := 4) (N := some 29) (bA 14 23) ?_
       refine pu_ (i := 5) (N := some 30) (bA 14 55) ?_
       refine pu_ (i := 6) (N := some 31) (bA 14 119) ?_
       refine pu_ (i := 7) (N := some 32) (bA 14 247) ?_
       refine pu_ (i := 9) (N := some 34) (bA 14 759) ?_
       refine tk_ (i := 3) (N := some 28) (bA 14 767) ?_
       refine tk_ (i := 8) (N := some 33) (bA 14 1023) ?_
       refine pu_ (i := 10) (N := some 35) (bA 14 2047) ?_
       refine tk_ (i := 11) (N := some 36) (bA 14 4095) ?_
       refine pu_ (i := 12) (N := some 37) (bA 14 8191) ?_
       refine last_ (i := 13) (N := none) (bA 14 16383) rfl rfl (one_of HT_.out (by kernel_rfl)) (by decide) (fun K hK => ?_)
       refine skip_ (w1 := ?_) (by rfl) rfl ?_ ?_
       rotate_left
       ·
        go_simp
        rfl
       refine hK.out _ _ ?_
       clear hK K
       refine done_ (done_of HT_.out (by kernel_rfl)) ?_
       try go_wp2
       (try simp only [← hl3_2])
       go_roundg k2
       case measure => have := HK1.out; have := HK2.out; omega
       case rel => exact ⟨(y212), (wrap64 (a1 + 1)), zu_1, H', ⟨(by have := HK1.out; have := HK2.out; omega)⟩, ⟨(by (try simp only [hl3_2]); (with_reducible repeat (first | apply Kd.S_alloc | apply Kd.S_drewN | apply Kd.S_drew)); exact HQ25.out)⟩, ⟨(by repeat (first | (with_reducible first | exact HB.out | apply below_alloc | apply pw_below_drewN | apply below_drew1 | refine below_set ?_ GB23.out) | exact HB.out))⟩⟩
      have H' := ak H
      clear H
      go_wp2
      (try simp only [← hl3_2])
      go_roundg k2
      case measure => have := HK1.out; have := HK2.out; omega
      case rel => exact ⟨(a3), (wrap64 (a0 + 1)), zu_1, H', ⟨(by have := HK1.out; have := HK2.out; omega)⟩, ⟨(by (try simp only [hl3_2]); (with_reducible repeat (first | apply Kd.S_alloc | apply Kd.S_drewN | apply Kd.S_drew)); exact a2.out)⟩, ⟨zu_0⟩⟩
   obtain rfl := Option.some.inj H
   go_wp2
   go_ret
   exact ⟨_, (by first | rfl | (simp [errW_none, errW_some] <;> rfl) | (simp [*, errW_none, errW_some] <;> rfl)), (xS a2.out), zu_0⟩

end Go.Proofs.Ytlkibgccgkhdmaa.P

namespace Go.Proofs.Ytlkibgccgkhdmaa.P
open Go.RowKit Go.Proofs.YtlkibgccgkhdmaaW.PrintWords Go.Proofs.YtlkibgccgkhdmaaW.PrintLast Go.Proofs.YtlkibgccgkhdmaaW.PrintMore
attribute [local go_sem] max2_int min2_int max_two min_two max_three min_three max_four min_four
set_option linter.unusedVariables false
set_option linter.unusedSimpArgs false
theorem zr_2 {p : Prop} (h : p := by first | rfl | (simp; done) | (simp [*]; done)) : p := h
theorem zr_1 {p : Prop} (h : p := by first | rfl | (simp [errW_none, errW_some] <;> rfl) | (simp [*, errW_none, errW_some] <;> rfl)) : p := h
theorem zr_0 {p : Prop} (h : p := by repeat (first | (with_reducible first | exact HB.out | apply below_alloc | apply pw_below_drewN | apply below_drew1) | exact HB.out)) : p := h
set_option maxHeartbeats 8000000 in
set_option maxRecDepth 100000 in
theorem impl_LatticeOk.calls (k : Nat) (A0 : Option Addr) (c0 : Nat) (l0 : List (List Int)) (r : Bool) (w : World) (hr0 : Kd.C (Kd.slice 3 (Kd.int .i64)) w A0 l0.length l0) (hc0 : l0.length ≤ c0) (h : impl_LatticeOk.f k l0 = some r) :
 Calls Try.prog 92 #[.slice A0 l0.length c0] w fun e w' => e = .returned (.bool r) ∧ Below w.heap.size w w' := by
 have HR0 := ak hr0
 have a5 := ak hc0
 clear hr0 hc0
 have HB := ak (Below.refl w.heap.size w)
 have H : ((impl_OrderOk.f k l0).bind fun a6 => (if a6 = true then ((impl_turned.f k l0).bind fun a3 => (impl_LatticeOk.l0 k l0 a3 (l0.length : Int) 0)) else (some false))) = some r := h
 clear h
 obtain ⟨a6, A2, H⟩ := bd_ H
 try dsimp only at H
 replace H := ox_ H
 rcases H with ⟨rfl, H⟩ | ⟨rfl, H⟩
 ·
  obtain ⟨a3, A4, H⟩ := bd_ H
  try dsimp only at H
  have H' := ak H
  clear H
  go_enter Try.func92, Try.ntmps92
  go_wp2_with (first | ((with_reducible refine gate_callee (f := 104) rfl ?_); refine gl_ (some 7) Try.func104 #[.slice A0 l0.length c0] ?_; (with_reducible refine (impl_OrderOk.calls k _ _ l0 true _ (y4 HR0.out) a5.out A2.out).mono ?_); rintro e w' ⟨rfl, ⟨nd, rfl⟩⟩; refine ⟨_, rfl, ?_⟩) | ((with_reducible refine gate_callee (f := 93) rfl ?_); refine gl_ (some 10) Try.func93 #[.slice A0 l0.length c0] ?_; (with_reducible refine (impl_turned.calls k _ _ l0 a3 _ (y4 HR0.out) a5.out A4.out).mono ?_); rintro e w' ⟨a7, rfl, ho0, hb⟩; refine ⟨_, rfl, ?_⟩; have a8 := ak (Kd.S_lower ho0 (below_size zr_0)); replace HB := ak (below_step zr_0 hb); (try clear hb); (try clear hb2); (try clear hk); (try clear hi); (try clear ho0)))
  go_loopg [13] k (fun kq b7 w' => ∃ (a0 : Int), b7 = .int .i64 a0 ∧ Aside0 (impl_LatticeOk.l0 kq l0 a3 (l0.length : Int) a0 = some r) ∧ Aside0 (kq ≤ k) ∧ Aside0 (Kd.S (Kd.slice 3 (Kd.int .i64)) 23 w' w.heap.size (fun _ => True) a7 a3) ∧ Aside0 (Below w.heap.size w w'))
  case atStart => exact ⟨(0), zr_2, H', ⟨Nat.le_refl _⟩, ⟨(xS a8.out)⟩, ⟨zr_0⟩⟩
  case round =>
   clear H'
   try clear c3
   obtain ⟨a0, rfl, HA, HK1, a2, HB⟩ := hrel
   cases gk with
   | zero => exact absurd HA.out (by simp [impl_LatticeOk.l0])
   | succ k1 =>
    have H := HA.out
    clear HA
    simp only [impl_LatticeOk.l0] at H
    replace H := os_ H
    rcases H with ⟨a9, H⟩ | ⟨a9, H⟩
    ·
     have H' := ak H
     clear H
     go_wp2
     go_loopg [18] k1 (fun kq b8 w' => ∃ (a1 : Int), b8 = .int .i64 a1 ∧ Aside0 (impl_LatticeOk.l1 kq l0 a3 a0 (l0.length : Int) a0 (l0.length : Int) a1 = some r) ∧ Aside0 (kq ≤ k1) ∧ Aside0 (Kd.S (Kd.slice 3 (Kd.int .i64)) 23 w' w.heap.size (fun _ => True) a7 a3) ∧ Aside0 (Below w.heap.size w w'))
     case atStart => exact ⟨(0), zr_2, H', ⟨Nat.le_refl _⟩, ⟨(xS a2.out)⟩, ⟨zr_0⟩⟩
     case round =>
      clear H'
      try clear c3
      try clear c6
      try clear a9
      obtain ⟨a1, rfl, HA, HK2, a2, HB⟩ := hrel
      cases gk with
      | zero => exact absurd HA.out (by simp [impl_LatticeOk.l1])
      | succ k2 =>
       have H := HA.out
       clear HA
       simp only [impl_LatticeOk.l1] at H
       replace H := os_ H
       rcases H with ⟨b2, H⟩ | ⟨b2, H⟩
       ·
        obtain ⟨a4, A8, H⟩ := bd_ H
        try dsimp only at H
        replace H := os_ H
        rcases H with ⟨b3, H⟩ | ⟨b3, H⟩
        ·
         obtain rfl := Option.some.inj H
         go_wp2_with (first | ((with_reducible refine gate_callee (f := 94) rfl ?_); refine gl_ (some 24) Try.func94 #[.slice A0 l0.length c0, .int .i64 a0, .int .i64 a1] ?_; (with_reducible refine (impl_meet.calls k2 _ _ l0 a0 a1 a4 _ (y3 HR0.out HB.out) a5.out A8.out).mono ?_); rintro e w' ⟨rfl, ⟨nd, rfl⟩⟩; refine ⟨_, rfl, ?_⟩))
         go_ret
         exact ⟨zr_1, zr_0⟩
        obtain ⟨b0, b6, H⟩ := bd_ H
        try dsimp only at H
        replace H := os_ H
        rcases H with ⟨b1, H⟩ | ⟨b1, H⟩
        ·
         obtain rfl := Option.some.inj H
         go_wp2_with (first | ((with_reducible refine gate_callee (f := 94) rfl ?_); refine gl_ (some 24) Try.func94 #[.slice A0 l0.length c0, .int .i64 a0, .int .i64 a1] ?_; (with_reducible refine (impl_meet.calls k2 _ _ l0 a0 a1 a4 _ (y3 HR0.out HB.out) a5.out A8.out).mono ?_); rintro e w' ⟨rfl, ⟨nd, rfl⟩⟩; refine ⟨_, rfl, ?_⟩; obtain ⟨b9, d0, b4⟩ := Kd.S_slice a2.out; subst b4) | (go_at_call 94; (with_reducible refine (impl_meet.calls k2 _ _ a3 a0 a1 b0 _ (y1 a2.out) (y2 a2.out) b6.out).mono ?_); rintro e w' ⟨rfl, ⟨nd, rfl⟩⟩))
         go_ret
         exact ⟨zr_1, zr_0⟩
        have H' := ak H
        clear H
        go_wp2_with (first | ((with_reducible refine gate_callee (f := 94) rfl ?_); refine gl_ (some 24) Try.func94 #[.slice A0 l0.length c0, .int .i64 a0, .int .i64 a1] ?_; (with_reducible refine (impl_meet.calls k2 _ _ l0 a0 a1 a4 _ (y3 HR0.out HB.out) a5.out A8.out).mono ?_); rintro e w' ⟨rfl, ⟨nd, rfl⟩⟩; refine ⟨_, rfl, ?_⟩; obtain ⟨d1, d2, b5⟩ := Kd.S_slice a2.out; subst b5) | (go_at_call 94; (with_reducible refine (impl_meet.calls k2 _ _ a3 a0 a1 b0 _ (y1 a2.out) (y2 a2.out) b6.out).mono ?_); rintro e w' ⟨rfl, ⟨nd, rfl⟩⟩))
        go_roundg k2
        case measure => have := HK1.out; have := HK2.out; omega
        case rel => exact ⟨(wrap64 (a1 + 1)), zr_2, H', ⟨(by have := HK1.out; have := HK2.out; omega)⟩, ⟨(xS a2.out)⟩, ⟨zr_0⟩⟩
       have H' := ak H
       clear H
       go_wp2
       go_roundg k2
       case measure => have := HK1.out; have := HK2.out; omega
       case rel => exact ⟨(wrap64 (a0 + 1)), zr_2, H', ⟨(by have := HK1.out; have := HK2.out; omega)⟩, ⟨(xS a2.out)⟩, ⟨zr_0⟩⟩
    obtain rfl := Option.some.inj H
    go_wp2
    go_ret
    exact ⟨zr_1, zr_0⟩
 obtain rfl := Option.some.inj H
 go_enter Try.func92, Try.ntmps92
 go_wp2_with (first | ((with_reducible refine gate_callee (f := 104) rfl ?_); refine gl_ (some 7) Try.func104 #[.slice A0 l0.length c0] ?_; (with_reducible refine (impl_OrderOk.calls k _ _ l0 false _ (y4 HR0.out) a5.out A2.out).mono ?_); rintro e w' ⟨rfl, ⟨nd, rfl⟩⟩; refine ⟨_, rfl, ?_⟩))
 go_ret
 exact ⟨zr_1, zr_0⟩

end Go.Proofs.Ytlkibgccgkhdmaa.P

namespace Go.Proofs.Ytlkibgccgkhdmaa.P
open Go.RowKit Go.Proofs.YtlkibgccgkhdmaaW.PrintWords Go.Proofs.YtlkibgccgkhdmaaW.PrintLast Go.Proofs.YtlkibgccgkhdmaaW.PrintMore
attribute [local go_sem] max2_int min2_int max_two min_two max_three min_three max_four min_four
set_option linter.unusedVariables false
set_option linter.unusedSimpArgs false
theorem zv_1 {p : Prop} (h : p := by repeat (first | exact Drawn0.refl _ | apply Drawn0.step)) : p := h
theorem zv_0 {p : Prop} (h : p := by first | rfl | (simp; done) | (simp [*]; done)) : p := h
set_option maxHeartbeats 8000000 in
set_option maxRecDepth 100000 in
theorem impl_LeastOf.calls (k : Nat) (A0 : Option Addr) (c0 : Nat) (l0 : List (List Int)) (r1 : Int) (r2 : Bool) (w : World) (hr0 : Kd.C (Kd.slice 3 (Kd.int .i64)) w A0 l0.length l0) (hc0 : l0.length ≤ c0) (h : impl_LeastOf.f k l0 = some (r1, r2)) :
 Calls Try.prog 95 #[.slice A0 l0.length c0] w fun e w' => e = .returned (.tuple #[.int .i64 r1, .bool r2]) ∧ Drawn0 w w' := by
 have HR0 := ak hr0
 have b3 := ak hc0
 clear hr0 hc0
 have H : ((impl_OrderOk.f k l0).bind fun a3 => (if a3 = true then (impl_LeastOf.l0 k l0 (l0.length : Int) 0) else (some ((-1), false)))) = some (r1, r2) := h
 clear h
 obtain ⟨a3, A2, H⟩ := bd_ H
 try dsimp only at H
 replace H := ox_ H
 rcases H with ⟨rfl, H⟩ | ⟨rfl, H⟩
 ·
  have H' := ak H
  clear H
  go_enter Try.func95, Try.ntmps95
  go_wp2_with (first | ((with_reducible refine gate_callee (f := 104) rfl ?_); refine gl_ (some 10) Try.func104 #[.slice A0 l0.length c0] ?_; (with_reducible refine (impl_OrderOk.calls k _ _ l0 true _ (y4 HR0.out) b3.out A2.out).mono ?_); rintro e w' ⟨rfl, ⟨nd, rfl⟩⟩; refine ⟨_, rfl, ?_⟩))
  go_loopg [14] k (fun kq b4 w' => ∃ (a0 : Int), b4 = .int .i64 a0 ∧ Aside0 (impl_LeastOf.l0 kq l0 (l0.length : Int) a0 = some (r1, r2)) ∧ Aside0 (kq ≤ k) ∧ Drawn0 w w')
  case atStart => exact ⟨(0), zv_0, H', ⟨Nat.le_refl _⟩, zv_1⟩
  case round =>
   clear H'
   try clear c3
   obtain ⟨a0, rfl, HA, HK1, ⟨m1, rfl⟩⟩ := hrel
   cases gk with
   | zero => exact absurd HA.out (by simp [impl_LeastOf.l0])
   | succ k1 =>
    have H := HA.out
    clear HA
    simp only [impl_LeastOf.l0] at H
    replace H := os_ H
    rcases H with ⟨a4, H⟩ | ⟨a4, H⟩
    ·
     replace H := od2 H
     obtain ⟨a6, a7, H⟩ := H
     have H' := ak H
     clear H
     obtain ⟨ad242, a8, a9, e242, hx242_0, a5, HR242_0, b0, q242⟩ := al_ HR0.out a0
     cases e242
     go_wp2
     go_loopg [6, 21] k1 (fun kq v6 b5 w' => ∃ (a2 : Bool) (a1 : Int), v6 = .bool a2 ∧ b5 = .int .i64 a1 ∧ Aside0 (impl_LeastOf.l1 kq a0 a2 l0 (l0.length : Int) a0 (rd_L1 l0 a0) ((rd_L1 l0 a0).length : Int) a1 = some (r1, r2)) ∧ Aside0 (kq ≤ k1) ∧ Drawn0 w w')
     case atStart => exact ⟨(true), (0), zv_0, zv_0, H', ⟨Nat.le_refl _⟩, zv_1⟩
     case round =>
      clear H'
      try clear c3
      try clear c4
      try clear a4
      try clear c5
      try clear a6
      try clear c6
      try clear a7
      try clear hx242_0
      try clear b0
      try clear q242
      obtain ⟨a2, a1, rfl, rfl, HA, HK2, ⟨m2, rfl⟩⟩ := hrel
      cases gk with
      | zero => exact absurd HA.out (by simp [impl_LeastOf.l1])
      | succ k2 =>
       have H := HA.out
       clear HA
       simp only [impl_LeastOf.l1] at H
       replace H := os_ H
       rcases H with ⟨b1, H⟩ | ⟨b1, H⟩
       ·
        replace H := od2 H
        obtain ⟨b6, b7, H⟩ := H
        replace H := ox_ H
        rcases H with ⟨rfl, H⟩ | ⟨rfl, H⟩
        ·
         have H' := ak H
         clear H
         obtain ⟨ad243, e243, hx243_0, b2, q243⟩ := ai_ HR242_0.out a1
         cases e243
         go_wp2
         go_roundg k2
         case measure => have := HK1.out; have := HK2.out; omega
         case rel => exact ⟨(((rd (rd_L1 l0 a0) a1) == 1)), (wrap64 (a1 + 1)), zv_0, zv_0, H', ⟨(by have := HK1.out; have := HK2.out; omega)⟩, zv_1⟩
        have H' := ak H
        clear H
        obtain ⟨ad243, e243, hx243_0, b2, q243⟩ := ai_ HR242_0.out a1
        cases e243
        go_wp2
        go_roundg k2
        case measure => have := HK1.out; have := HK2.out; omega
        case rel => exact ⟨(false), (wrap64 (a1 + 1)), zv_0, zv_0, H', ⟨(by have := HK1.out; have := HK2.out; omega)⟩, zv_1⟩
       replace H := ox_ H
       rcases H with ⟨rfl, H⟩ | ⟨rfl, H⟩
       ·
        simp only [Option.some.injEq, Prod.mk.injEq] at H
        obtain ⟨rfl, rfl⟩ := H
        go_wp2
        go_ret2
        exact ⟨zv_0, zv_1⟩
       have H' := ak H
       clear H
       go_wp2
       go_roundg k2
       case measure => have := HK1.out; have := HK2.out; omega
       case rel => exact ⟨(wrap64 (a0 + 1)), zv_0, H', ⟨(by have := HK1.out; have := HK2.out; omega)⟩, zv_1⟩
    simp only [Option.some.injEq, Prod.mk.injEq] at H
    obtain ⟨rfl, rfl⟩ := H
    go_wp2
    go_ret2
    exact ⟨zv_0, zv_1⟩
 simp only [Option.some.injEq, Prod.mk.injEq] at H
 obtain ⟨rfl, rfl⟩ := H
 go_enter Try.func95, Try.ntmps95
 go_wp2_with (first | ((with_reducible refine gate_callee (f := 104) rfl ?_); refine gl_ (some 10) Try.func104 #[.slice A0 l0.length c0] ?_; (with_reducible refine (impl_OrderOk.calls k _ _ l0 false _ (y4 HR0.out) b3.out A2.out).mono ?_); rintro e w' ⟨rfl, ⟨nd, rfl⟩⟩; refine ⟨_, rfl, ?_⟩))
 go_ret2
 exact ⟨zv_0, zv_1⟩

end Go.Proofs.Ytlkibgccgkhdmaa.P
