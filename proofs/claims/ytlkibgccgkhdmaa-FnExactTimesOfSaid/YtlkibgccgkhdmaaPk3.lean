/- 8 texts of this seat joined: walks, and the laws of what they compute. -/
import Derived.Test.YtlkibgccgkhdmaaPk2
namespace Go.Proofs.Ytlkibgccgkhdmaa.P
open Go.RowKit Go.Proofs.YtlkibgccgkhdmaaW.PrintWords Go.Proofs.YtlkibgccgkhdmaaW.PrintLast Go.Proofs.YtlkibgccgkhdmaaW.PrintMore
attribute [local go_sem] max2_int min2_int max_two min_two max_three min_three max_four min_four
set_option linter.unusedVariables false
set_option linter.unusedSimpArgs false
def spec_TimesOf.T13 : Bool × List (List Nat × List Nat) := (true, [([], []), ([], []), ([1], [1]), ([], []), ([], []), ([3, 4], [3, 4]), ([2, 5], [2, 5]), ([6], [6]), ([], []), ([], []), ([8, 9], [8, 9]), ([7, 10], [7, 10]), ([11], [11]), ([], []), ([13], [13]), ([], []), ([], []), ([15, 16], [15, 16]), ([14, 17], [14, 17]), ([18], [18]), ([], []), ([], []), ([20, 21], [20, 21]), ([19, 22], [19, 22]), ([23], [23]), ([12, 24], [12, 24]), ([25], [25]), ([0, 26], [0, 26]), ([27, 27, 0, 1, 2, 3, 4, 5, 6, 7, 8, 9, 10, 11, 12, 13, 14, 15, 16, 17, 18, 19, 20, 21, 22, 23, 24, 25, 26, 27], [0, 27])])
def spec_TimesOf.B13 : List Nat := [0, 0, 2, 0, 0, 24, 62, 126, 0, 0, 768, 2046, 4094, 0, 8192, 0, 0, 98304, 253952, 516096, 0, 0, 3145728, 8380416, 16769024, 33554430, 67108862, 134217727, 268435455]
theorem spec_TimesOf.tab13 : rtab .any (opsOf Try.f37 13) = spec_TimesOf.T13 := by kernel_rfl
theorem spec_TimesOf.bits13 : waitsOk spec_TimesOf.T13.2 spec_TimesOf.B13 = true := by kernel_rfl
def spec_TimesOf.T15 : Bool × List (List Nat × List Nat) := (true, [([], []), ([0], [0]), ([], []), ([2], [2]), ([], []), ([], []), ([4, 5], [4, 5]), ([3, 6], [3, 6]), ([7], [7]), ([], []), ([8, 9], [8, 9]), ([], []), ([11], [11]), ([], []), ([], []), ([13, 14], [13, 14]), ([12, 15], [12, 15]), ([16], [16]), ([10, 17], [10, 17]), ([18], [18]), ([1, 19], [1, 19]), ([0, 1, 2, 3, 4, 5, 6, 7, 8, 9, 10, 11, 12, 13, 14, 15, 16, 17, 18, 19, 20], []), ([21, 20, 20, 0, 1, 2, 3, 4, 5, 6, 7, 8, 9, 10, 11, 12, 13, 14, 15, 16, 17, 18, 19, 20], [20, 21])])
def spec_TimesOf.B15 : List Nat := [0, 1, 0, 4, 0, 0, 48, 124, 252, 0, 1020, 0, 2048, 0, 0, 24576, 63488, 129024, 262140, 524284, 1048575, 2097151, 4194303]
theorem spec_TimesOf.tab15 : rtab .any (opsOf Try.f37 15) = spec_TimesOf.T15 := by kernel_rfl
theorem spec_TimesOf.bits15 : waitsOk spec_TimesOf.T15.2 spec_TimesOf.B15 = true := by kernel_rfl
theorem zc_12 {p : Prop} (h : p := by (with_reducible repeat (first | apply Kd.R_alloc | apply Kd.R_drewN | apply Kd.R_drew)); exact Kd.R_mono a2.out (fun _ hk => hk.2)) : p := h
theorem zc_11 {p : Prop} (h : p := by first | exact Kd.R_nil _ _ _ _ _ | exact Kd.N_nil _ _ _ _ _ | exact Kd.V_nil _ _ _ _ _ | exact Kd.Q_nil _ _ _ _ _ | exact Kd.S_nil _ _ _ _ _) : p := h
theorem zc_10 {p : Prop} (h : p := by first | exact Kd.S_nil _ _ _ _ _ | exact Kd.N_nil _ _ _ _ _ | exact Kd.V_nil _ _ _ _ _ | exact Kd.Q_nil _ _ _ _ _ | exact Kd.R_nil _ _ _ _ _) : p := h
theorem zc_9 {p : Prop} (h : p := by (with_reducible repeat (first | refine blk_drewN ?_ _ | refine blk_drew ?_ | refine blk_alloc ?_ _)); refine blk_far ?_ b4.out _; (with_reducible repeat (first | refine blk_drewN ?_ _ | refine blk_drew ?_ | refine blk_alloc ?_ _)); exact a0.out) : p := h
theorem zc_8 {p : Prop} (h : p := by (with_reducible repeat (first | refine blk_drewN ?_ _ | refine blk_drew ?_ | refine blk_alloc ?_ _)); refine blk_far ?_ b5.out _; (with_reducible repeat (first | refine blk_drewN ?_ _ | refine blk_drew ?_ | refine blk_alloc ?_ _)); exact a1.out) : p := h
theorem zc_7 {p : Prop} (h : p := by (with_reducible repeat (first | refine blk_drewN ?_ _ | refine blk_drew ?_ | refine blk_alloc ?_ _)); refine blk_far ?_ b6.out _; (with_reducible repeat (first | refine blk_drewN ?_ _ | refine blk_drew ?_ | refine blk_alloc ?_ _)); exact a3.out) : p := h
theorem zc_6 {p : Prop} (h : p := by first | rfl | (simp; done) | (simp [*]; done)) : p := h
theorem zc_5 {p : Prop} (h : p := by repeat (first | (with_reducible first | exact HB.out | apply below_alloc | apply pw_below_drewN | apply below_drew1) | exact HB.out)) : p := h
theorem zc_4 {p : Prop} (h : p := by (with_reducible repeat (first | apply Kd.S_alloc | apply Kd.S_drewN | apply Kd.S_drew)); exact Kd.S_mono a6.out (fun _ hk => ⟨hk.2, hk.1⟩)) : p := h
theorem zc_3 {p : Prop} (h : p := by repeat (first | (with_reducible first | exact HB.out | apply below_alloc | apply pw_below_drewN | apply below_drew1 | refine below_set ?_ e5.out) | exact HB.out)) : p := h
theorem zc_2 {p : Prop} (h : p := by repeat (first | (with_reducible first | exact HB.out | apply below_alloc | apply pw_below_drewN | apply below_drew1 | refine below_set ?_ e5.out | refine below_set ?_ e6.out) | exact HB.out)) : p := h
theorem zc_1 {p : Prop} (h : p := by repeat (first | (with_reducible first | exact HB.out | apply below_alloc | apply pw_below_drewN | apply below_drew1 | refine below_set ?_ e5.out | refine below_set ?_ e6.out | refine below_set ?_ f2.out) | exact HB.out)) : p := h
theorem zc_0 {p : Prop} (h : p := by repeat (first | (with_reducible first | exact HB.out | apply below_alloc | apply pw_below_drewN | apply below_drew1 | refine below_set ?_ e5.out | refine below_set ?_ e6.out | refine below_set ?_ f2.out | refine below_set ?_ h0.out) | exact HB.out)) : p := h
set_option maxHeartbeats 8000000 in
set_option maxRecDepth 100000 in
theorem spec_TimesOf.calls (k : Nat) (A0_0 : Option Addr) (c0_0 : Nat) (l0_0 : List (List Int)) (A0_1 : Option Addr) (c0_1 : Nat) (l0_1 : List Int) (A1_0 : Option Addr) (c1_0 : Nat) (l1_0 : List (List Int)) (A1_1 : Option Addr) (c1_1 : Nat) (l1_1 : List Int) (r1 : List (List Int)) (r2 : List Int) (r3 : Bool) (w : World) (hr0_0 : Kd.C (Kd.slice 3 (Kd.int .i64)) w A0_0 l0_0.length l0_0) (hc0_0 : l0_0.length ≤ c0_0) (hr0_1 : Kd.C (Kd.int .i64) w A0_1 l0_1.length l0_1) (hc0_1 : l0_1.length ≤ c0_1) (hr1_0 : Kd.C (Kd.slice 3 (Kd.int .i64)) w A1_0 l1_0.length l1_0) (hc1_0 : l1_0.length ≤ c1_0) (hr1_1 : Kd.C (Kd.int .i64) w A1_1 l1_1.length l1_1) (hc1_1 : l1_1.length ≤ c1_1) (h : spec_TimesOf.f k l0_0 l0_1 l1_0 l1_1 = some (r1, r2, r3)) :
 Calls Try.prog 37 #[.agg #[.slice A0_0 l0_0.length c0_0, .slice A0_1 l0_1.length c0_1], .agg #[.slice A1_0 l1_0.length c1_0, .slice A1_1 l1_1.length c1_1]] w fun e w' => ∃ v0_ v1_ : Value, e = .returned (.tuple #[.agg #[v0_, v1_], .bool r3]) ∧ Kd.S (Kd.slice 3 (Kd.int .i64)) 23 w' w.heap.size (fun k_ => some k_ ≠ (v1_ : Value).ownBlock) v0_ r1 ∧ Kd.R (Kd.int .i64) 3 w' w.heap.size (fun _ => True) v1_ r2 ∧ Below w.heap.size w w' := by
 have hu29 := Try.underlying29
 have HR0_0 := ak hr0_0
 have e7 := ak hc0_0
 clear hr0_0 hc0_0
 have HR0_1 := ak hr0_1
 have e8 := ak hc0_1
 clear hr0_1 hc0_1
 have HR1_0 := ak hr1_0
 have f3 := ak hc1_0
 clear hr1_0 hc1_0
 have HR1_1 := ak hr1_1
 have f4 := ak hc1_1
 clear hr1_1 hc1_1
 have HB := ak (Below.refl w.heap.size w)
 have H : ((spec_LogicOk.f k l0_0 l0_1).bind fun h1 => (if h1 = true then ((spec_LogicOk.f k l1_0 l1_1).bind fun h2 => (if h2 = true then (spec_TimesOf.j0 k (l0_1.length : Int) (l1_1.length : Int) (decide ((wrap64 ((l0_1.length : Int) * (l1_1.length : Int))) > 12)) l0_0 l0_1 l1_0 l1_1) else (spec_TimesOf.j0 k (l0_1.length : Int) (l1_1.length : Int) true l0_0 l0_1 l1_0 l1_1))) else (spec_TimesOf.j0 k (l0_1.length : Int) (l1_1.length : Int) true l0_0 l0_1 l1_0 l1_1))) = some (r1, r2, r3) := h
 clear h
 have i4 := ak H
 clear H
 go_enter Try.func37, Try.ntmps37
 go_upto_region 3 with (first | ((with_reducible refine gate_dst (N := 2) rfl ?_); refine bx_ (N := 2) (cs := #[.slice A0_0 l0_0.length c0_0, .slice A0_1 l0_1.length c0_1]) (t := 29) ?_; intro a8 hg w4 hbox hb; have a0 := ak (hbox); have j4 := ak ((by rw [hg]; exact (below_size zc_5) : w.heap.size ≤ a8)); have e5 := ak ((by rw [hg]; exact (below_size zc_5) : w.heap.size ≤ a8)); replace HB := ak (below_step zc_5 hb); clear hb hbox hg) | ((with_reducible refine gate_dst (N := 3) rfl ?_); refine bx_ (N := 3) (cs := #[.slice A1_0 l1_0.length c1_0, .slice A1_1 l1_1.length c1_1]) (t := 29) ?_; intro a9 hg w5 hbox hb; have a1 := ak (hbox); have j5 := ak ((by rw [hg]; exact (below_size zc_3) : w.heap.size ≤ a9)); have e6 := ak ((by rw [hg]; exact (below_size zc_3) : w.heap.size ≤ a9)); replace HB := ak (below_step zc_3 hb); have d7 := ak ((by rw [hg]; exact Nat.ne_of_lt (blk_lt (g := a8) (o := .cells #[.slice A0_0 l0_0.length c0_0, .slice A0_1 l0_1.length c0_1] 29 (0, 0)) (xb a0.out)) : a8 ≠ a9)); have d8 := ak ((by rw [hg]; exact Nat.ne_of_gt (blk_lt (g := a8) (o := .cells #[.slice A0_0 l0_0.length c0_0, .slice A0_1 l0_1.length c0_1] 29 (0, 0)) (xb a0.out)) : a9 ≠ a8)); replace a0 := ak (blk_below (g := a8) (o := .cells #[.slice A0_0 l0_0.length c0_0, .slice A0_1 l0_1.length c0_1] 29 (0, 0)) (xb a0.out) hb); clear hb hbox hg) | ((with_reducible refine gate_dst (N := 4) rfl ?_); refine bx_ (N := 4) (cs := #[.slice none 0 0, .slice none 0 0]) (t := 29) ?_; intro b0 hg w6 hbox hb; have a3 := ak (hbox); have j6 := ak ((by rw [hg]; exact (below_size zc_2) : w.heap.size ≤ b0)); have f2 := ak ((by rw [hg]; exact (below_size zc_2) : w.heap.size ≤ b0)); replace HB := ak (below_step zc_2 hb); have b8 := ak ((by rw [hg]; exact Nat.ne_of_lt (blk_lt (g := a8) (o := .cells #[.slice A0_0 l0_0.length c0_0, .slice A0_1 l0_1.length c0_1] 29 (0, 0)) (xb a0.out)) : a8 ≠ b0)); have b9 := ak ((by rw [hg]; exact Nat.ne_of_gt (blk_lt (g := a8) (o := .cells #[.slice A0_0 l0_0.length c0_0, .slice A0_1 l0_1.length c0_1] 29 (0, 0)) (xb a0.out)) : b0 ≠ a8)); replace a0 := ak (blk_below (g := a8) (o := .cells #[.slice A0_0 l0_0.length c0_0, .slice A0_1 l0_1.length c0_1] 29 (0, 0)) (xb a0.out) hb); have d4 := ak ((by rw [hg]; exact Nat.ne_of_lt (blk_lt (g := a9) (o := .cells #[.slice A1_0 l1_0.length c1_0, .slice A1_1 l1_1.length c1_1] 29 (0, 0)) (xb a1.out)) : a9 ≠ b0)); have d5 := ak ((by rw [hg]; exact Nat.ne_of_gt (blk_lt (g := a9) (o := .cells #[.slice A1_0 l1_0.length c1_0, .slice A1_1 l1_1.length c1_1] 29 (0, 0)) (xb a1.out)) : b0 ≠ a9)); replace a1 := ak (blk_below (g := a9) (o := .cells #[.slice A1_0 l1_0.length c1_0, .slice A1_1 l1_1.length c1_1] 29 (0, 0)) (xb a1.out) hb); clear hb hbox hg; have s9 := d7.out; have u0 := d8.out; have u1 := b8.out; have u2 := b9.out; have d0 := cz20 a0.out; have d1 := cz21 a0.out; have d2 := blk_frozen a0.out 0; have d3 := blk_frozen a0.out 1; have j7 := d4.out; have j8 := d5.out; have d0 := cz20 a1.out; have d1 := cz21 a1.out; have d2 := blk_frozen a1.out 0; have d3 := blk_frozen a1.out 1))
 (try simp only [Act.put, List.setIfInBounds_toArray, List.set_cons_zero, List.set_cons_succ])
 go_cut [31] (fun u3 wc => ∃ (kq : Nat) (e9 : Bool), u3 = .bool e9 ∧ Aside0 (spec_TimesOf.j0 kq (l0_1.length : Int) (l1_1.length : Int) e9 l0_0 l0_1 l1_0 l1_1 = some (r1, r2, r3)) ∧ Aside0 (kq ≤ k) ∧ Aside0 (wc.heap[a8]? = some (.cells #[(.slice A0_0 l0_0.length c0_0), (.slice A0_1 l0_1.length c0_1)] 29 (0, 0))) ∧ Aside0 (wc.heap[a9]? = some (.cells #[(.slice A1_0 l1_0.length c1_0), (.slice A1_1 l1_1.length c1_1)] 29 (0, 0))) ∧ Aside0 (wc.heap[b0]? = some (.cells #[(.slice none 0 0), (.slice none 0 0)] 29 (0, 0))) ∧ Aside0 (Below w.heap.size w wc))
 case first =>
  have H := i4.out
  clear i4
  obtain ⟨h1, i5, H⟩ := bd_ H
  try dsimp only at H
  replace H := ox_ H
  rcases H with ⟨rfl, H⟩ | ⟨rfl, H⟩
  ·
   obtain ⟨h2, j9, H⟩ := bd_ H
   try dsimp only at H
   replace H := ox_ H
   rcases H with ⟨rfl, H⟩ | ⟨rfl, H⟩
   ·
    have H' := ak H
    clear H
    have k0 := d7.out
    have k1 := d8.out
    have k4 := b8.out
    have k5 := b9.out
    have d0 := cz20 a0.out
    have d1 := cz21 a0.out
    have d2 := blk_frozen a0.out 0
    have d3 := blk_frozen a0.out 1
    go_wp2_with (first | ((with_reducible refine gate_callee (f := 50) rfl ?_); refine gl_ (some 19) Try.func50 #[.agg #[.slice A0_0 l0_0.length c0_0, .slice A0_1 l0_1.length c0_1]] ?_; (with_reducible refine (spec_LogicOk.calls k _ _ l0_0 _ _ l0_1 true _ (y3 HR0_0.out HB.out) e7.out (y3 HR0_1.out HB.out) e8.out i5.out).mono ?_); rintro e w' ⟨rfl, hb⟩; refine ⟨_, rfl, ?_⟩; replace a0 := ak (blk_below (g := a8) (o := .cells #[.slice A0_0 l0_0.length c0_0, .slice A0_1 l0_1.length c0_1] 29 (0, 0)) (xb a0.out) hb); replace a1 := ak (blk_below (g := a9) (o := .cells #[.slice A1_0 l1_0.length c1_0, .slice A1_1 l1_1.length c1_1] 29 (0, 0)) (xb a1.out) hb); replace a3 := ak (blk_below (g := b0) (o := .cells #[.slice none 0 0, .slice none 0 0] 29 (0, 0)) (xb a3.out) hb); replace HB := ak (below_step zc_1 hb); (try clear hb); (try clear hb2); (try clear hk); (try clear hi); have k6 := d4.out; have k7 := d5.out; have d0 := cz20 a1.out; have d1 := cz21 a1.out; have d2 := blk_frozen a1.out 0; have d3 := blk_frozen a1.out 1) | (go_at_call 50; (with_reducible refine (spec_LogicOk.calls k _ _ l1_0 _ _ l1_1 true _ (y3 HR1_0.out HB.out) f3.out (y3 HR1_1.out HB.out) f4.out j9.out).mono ?_); rintro e w' ⟨rfl, hb⟩; replace a0 := ak (blk_below (g := a8) (o := .cells #[.slice A0_0 l0_0.length c0_0, .slice A0_1 l0_1.length c0_1] 29 (0, 0)) (xb a0.out) hb); replace a1 := ak (blk_below (g := a9) (o := .cells #[.slice A1_0 l1_0.length c1_0, .slice A1_1 l1_1.length c1_1] 29 (0, 0)) (xb a1.out) hb); replace a3 := ak (blk_below (g := b0) (o := .cells #[.slice none 0 0, .slice none 0 0] 29 (0, 0)) (xb a3.out) hb); replace HB := ak (below_step zc_1 hb); (try clear hb); (try clear hb2); (try clear hk); (try clear hi)))
    go_meet
    case rel => exact ⟨_, (decide ((wrap64 ((l0_1.length : Int) * (l1_1.length : Int))) > 12)), zc_6, H', ⟨(by first | omega | exact Nat.le_refl _)⟩, ⟨(xb a0.out)⟩, ⟨(xb a1.out)⟩, ⟨(xb a3.out)⟩, ⟨zc_1⟩⟩
   have H' := ak H
   clear H
   have k8 := d7.out
   have k9 := d8.out
   have l2 := b8.out
   have l3 := b9.out
   have d0 := cz20 a0.out
   have d1 := cz21 a0.out
   have d2 := blk_frozen a0.out 0
   have d3 := blk_frozen a0.out 1
   go_wp2_with (first | ((with_reducible refine gate_callee (f := 50) rfl ?_); refine gl_ (some 19) Try.func50 #[.agg #[.slice A0_0 l0_0.length c0_0, .slice A0_1 l0_1.length c0_1]] ?_; (with_reducible refine (spec_LogicOk.calls k _ _ l0_0 _ _ l0_1 true _ (y3 HR0_0.out HB.out) e7.out (y3 HR0_1.out HB.out) e8.out i5.out).mono ?_); rintro e w' ⟨rfl, hb⟩; refine ⟨_, rfl, ?_⟩; replace a0 := ak (blk_below (g := a8) (o := .cells #[.slice A0_0 l0_0.length c0_0, .slice A0_1 l0_1.length c0_1] 29 (0, 0)) (xb a0.out) hb); replace a1 := ak (blk_below (g := a9) (o := .cells #[.slice A1_0 l1_0.length c1_0, .slice A1_1 l1_1.length c1_1] 29 (0, 0)) (xb a1.out) hb); replace a3 := ak (blk_below (g := b0) (o := .cells #[.slice none 0 0, .slice none 0 0] 29 (0, 0)) (xb a3.out) hb); replace HB := ak (below_step zc_1 hb); (try clear hb); (try clear hb2); (try clear hk); (try clear hi); have l4 := d4.out; have l5 := d5.out; have d0 := cz20 a1.out; have d1 := cz21 a1.out; have d2 := blk_frozen a1.out 0; have d3 := blk_frozen a1.out 1) | (go_at_call 50; (with_reducible refine (spec_LogicOk.calls k _ _ l1_0 _ _ l1_1 false _ (y3 HR1_0.out HB.out) f3.out (y3 HR1_1.out HB.out) f4.out j9.out).mono ?_); rintro e w' ⟨rfl, hb⟩; replace a0 := ak (blk_below (g := a8) (o := .cells #[.slice A0_0 l0_0.length c0_0, .slice A0_1 l0_1.length c0_1] 29 (0, 0)) (xb a0.out) hb); replace a1 := ak (blk_below (g := a9) (o := .cells #[.slice A1_0 l1_0.length c1_0, .slice A1_1 l1_1.length c1_1] 29 (0, 0)) (xb a1.out) hb); replace a3 := ak (blk_below (g := b0) (o := .cells #[.slice none 0 0, .slice none 0 0] 29 (0, 0)) (xb a3.out) hb); replace HB := ak (below_step zc_1 hb); (try clear hb); (try clear hb2); (try clear hk); (try clear hi)))
   go_meet
   case rel => exact ⟨_, (true), zc_6, H', ⟨(by first | omega | exact Nat.le_refl _)⟩, ⟨(xb a0.out)⟩, ⟨(xb a1.out)⟩, ⟨(xb a3.out)⟩, ⟨zc_1⟩⟩
  have H' := ak H
  clear H
  have l6 := d7.out
  have l7 := d8.out
  have l8 := b8.out
  have l9 := b9.out
  have d0 := cz20 a0.out
  have d1 := cz21 a0.out
  have d2 := blk_frozen a0.out 0
  have d3 := blk_frozen a0.out 1
  go_wp2_with (first | ((with_reducible refine gate_callee (f := 50) rfl ?_); refine gl_ (some 19) Try.func50 #[.agg #[.slice A0_0 l0_0.length c0_0, .slice A0_1 l0_1.length c0_1]] ?_; (with_reducible refine (spec_LogicOk.calls k _ _ l0_0 _ _ l0_1 false _ (y3 HR0_0.out HB.out) e7.out (y3 HR0_1.out HB.out) e8.out i5.out).mono ?_); rintro e w' ⟨rfl, hb⟩; refine ⟨_, rfl, ?_⟩; replace a0 := ak (blk_below (g := a8) (o := .cells #[.slice A0_0 l0_0.length c0_0, .slice A0_1 l0_1.length c0_1] 29 (0, 0)) (xb a0.out) hb); replace a1 := ak (blk_below (g := a9) (o := .cells #[.slice A1_0 l1_0.length c1_0, .slice A1_1 l1_1.length c1_1] 29 (0, 0)) (xb a1.out) hb); replace a3 := ak (blk_below (g := b0) (o := .cells #[.slice none 0 0, .slice none 0 0] 29 (0, 0)) (xb a3.out) hb); replace HB := ak (below_step zc_1 hb); (try clear hb); (try clear hb2); (try clear hk); (try clear hi)))
  go_meet
  case rel => exact ⟨_, (true), zc_6, H', ⟨(by first | omega | exact Nat.le_refl _)⟩, ⟨(xb a0.out)⟩, ⟨(xb a1.out)⟩, ⟨(xb a3.out)⟩, ⟨zc_1⟩⟩
 case rest =>
  clear i4
  try clear d0
  try clear d1
  try clear d2
  try clear d3
  obtain ⟨kq, e9, rfl, HA, h9, a0, a1, a3, HB⟩ := hcut
  cases kq with
  | zero => exact absurd HA.out (by simp [spec_TimesOf.j0])
  | succ m0 =>
   have H := HA.out
   clear HA
   simp only [spec_TimesOf.j0] at H
   replace H := ox_ H
   rcases H with ⟨rfl, H⟩ | ⟨rfl, H⟩
   ·
    simp only [Option.some.injEq, Prod.mk.injEq] at H
    obtain ⟨rfl, rfl, rfl⟩ := H
    have m1 := b9.out
    have m2 := b8.out
    have m3 := d5.out
    have m4 := d4.out
    have d0 := cz20 a3.out
    have d1 := cz21 a3.out
    have d2 := blk_frozen a3.out 0
    have d3 := blk_frozen a3.out 1
    go_wp2
    refine bodyPost_ret (results_ct rfl _ _ b0 29 #[.slice none 0 0, .slice none 0 0] (0, 0) _ rfl (by (with_reducible repeat (first | refine blk_drewN ?_ _ | refine blk_drew ?_ | refine blk_alloc ?_ _)); refine blk_put (cs := #[.slice none 0 0, .slice none 0 0]) ?_ 1 _ rfl; (with_reducible repeat (first | refine blk_drewN ?_ _ | refine blk_drew ?_ | refine blk_alloc ?_ _)); refine blk_put (cs := #[.slice none 0 0, .slice none 0 0]) ?_ 0 _ rfl; (with_reducible repeat (first | refine blk_drewN ?_ _ | refine blk_drew ?_ | refine blk_alloc ?_ _)); exact a3.out) Try.underlying29 rfl (by kernel_rfl)) rfl ?_
    exact ⟨_, _, (by first | rfl | (simp [errW_none, errW_some] <;> rfl) | (simp [*, errW_none, errW_some] <;> rfl)), zc_10, zc_11, zc_1⟩
   have H' := ak H
   clear H
   go_wp2_with (first | ((with_reducible refine gate_dst (N := 8) rfl ?_); refine bx_ (N := 8) (cs := #[.slice none 0 0, .slice none 0 0]) (t := 29) ?_; intro b1 hg v1 hbox hb; have a5 := ak (hbox); have m5 := ak ((by rw [hg]; exact (below_size zc_1) : w.heap.size ≤ b1)); have h0 := ak ((by rw [hg]; exact (below_size zc_1) : w.heap.size ≤ b1)); replace HB := ak (below_step zc_1 hb); have b4 := ak ((by rw [hg]; exact Nat.ne_of_lt (blk_lt (g := a8) (o := .cells #[.slice A0_0 l0_0.length c0_0, .slice A0_1 l0_1.length c0_1] 29 (0, 0)) (xb a0.out)) : a8 ≠ b1)); have d9 := ak ((by rw [hg]; exact Nat.ne_of_gt (blk_lt (g := a8) (o := .cells #[.slice A0_0 l0_0.length c0_0, .slice A0_1 l0_1.length c0_1] 29 (0, 0)) (xb a0.out)) : b1 ≠ a8)); replace a0 := ak (blk_below (g := a8) (o := .cells #[.slice A0_0 l0_0.length c0_0, .slice A0_1 l0_1.length c0_1] 29 (0, 0)) (xb a0.out) hb); have b5 := ak ((by rw [hg]; exact Nat.ne_of_lt (blk_lt (g := a9) (o := .cells #[.slice A1_0 l1_0.length c1_0, .slice A1_1 l1_1.length c1_1] 29 (0, 0)) (xb a1.out)) : a9 ≠ b1)); have e0 := ak ((by rw [hg]; exact Nat.ne_of_gt (blk_lt (g := a9) (o := .cells #[.slice A1_0 l1_0.length c1_0, .slice A1_1 l1_1.length c1_1] 29 (0, 0)) (xb a1.out)) : b1 ≠ a9)); replace a1 := ak (blk_below (g := a9) (o := .cells #[.slice A1_0 l1_0.length c1_0, .slice A1_1 l1_1.length c1_1] 29 (0, 0)) (xb a1.out) hb); have b6 := ak ((by rw [hg]; exact Nat.ne_of_lt (blk_lt (g := b0) (o := .cells #[.slice none 0 0, .slice none 0 0] 29 (0, 0)) (xb a3.out)) : b0 ≠ b1)); have e1 := ak ((by rw [hg]; exact Nat.ne_of_gt (blk_lt (g := b0) (o := .cells #[.slice none 0 0, .slice none 0 0] 29 (0, 0)) (xb a3.out)) : b1 ≠ b0)); replace a3 := ak (blk_below (g := b0) (o := .cells #[.slice none 0 0, .slice none 0 0] 29 (0, 0)) (xb a3.out) hb); clear hb hbox hg; have m6 := d9.out; have m7 := b4.out; have m8 := e0.out; have m9 := b5.out; have n0 := e1.out; have n1 := b6.out; have d0 := cz20 a5.out; have d1 := cz21 a5.out; have d2 := blk_frozen a5.out 0; have d3 := blk_frozen a5.out 1))
   go_loopg [9] m0 (fun kq v9 w' => ∃ (b2 : Int) (a7 : List (List Int)) (a4 : List Int) (u533000 : Value) (u533001 : Value), v9 = .int .i64 b2 ∧ Aside0 (spec_TimesOf.l0 kq (l0_1.length : Int) (l1_1.length : Int) b2 l0_0 l0_1 l1_0 l1_1 a7 a4 = some (r1, r2, r3)) ∧ Aside0 (kq ≤ m0) ∧ Aside0 (Kd.S (Kd.slice 3 (Kd.int .i64)) 23 w' w.heap.size (fun k_ => some k_ ≠ (u533001 : Value).ownBlock) u533000 a7) ∧ Aside0 (Kd.R (Kd.int .i64) 3 w' w.heap.size (fun _ => True) u533001 a4) ∧ Aside0 (w'.heap[a8]? = some (.cells #[(.slice A0_0 l0_0.length c0_0), (.slice A0_1 l0_1.length c0_1)] 29 (0, 0))) ∧ Aside0 (w'.heap[a9]? = some (.cells #[(.slice A1_0 l1_0.length c1_0), (.slice A1_1 l1_1.length c1_1)] 29 (0, 0))) ∧ Aside0 (w'.heap[b0]? = some (.cells #[(.slice none 0 0), (.slice none 0 0)] 29 (0, 0))) ∧ Aside0 (w'.heap[b1]? = some (.cells #[u533000, u533001] 29 (0, 0))) ∧ Aside0 (Below w.heap.size w w'))
   case atStart => exact ⟨(0), (([] : List (List Int))), (([] : List Int)), (.slice none 0 0), (.slice none 0 0), zc_6, H', ⟨Nat.le_refl _⟩, ⟨zc_10⟩, ⟨zc_11⟩, ⟨(by (with_reducible repeat (first | refine blk_drewN ?_ _ | refine blk_drew ?_ | refine blk_alloc ?_ _)); refine blk_far ?_ b4.out _; (with_reducible repeat (first | refine blk_drewN ?_ _ | refine blk_drew ?_ | refine blk_alloc ?_ _)); refine blk_far ?_ b4.out _; (with_reducible repeat (first | refine blk_drewN ?_ _ | refine blk_drew ?_ | refine blk_alloc ?_ _)); exact a0.out)⟩, ⟨(by (with_reducible repeat (first | refine blk_drewN ?_ _ | refine blk_drew ?_ | refine blk_alloc ?_ _)); refine blk_far ?_ b5.out _; (with_reducible repeat (first | refine blk_drewN ?_ _ | refine blk_drew ?_ | refine blk_alloc ?_ _)); refine blk_far ?_ b5.out _; (with_reducible repeat (first | refine blk_drewN ?_ _ | refine blk_drew ?_ | refine blk_alloc ?_ _)); exact a1.out)⟩, ⟨(by (with_reducible repeat (first | refine blk_drewN ?_ _ | refine blk_drew ?_ | refine blk_alloc ?_ _)); refine blk_far ?_ b6.out _; (with_reducible repeat (first | refine blk_drewN ?_ _ | refine blk_drew ?_ | refine blk_alloc ?_ _)); refine blk_far ?_ b6.out _; (with_reducible repeat (first | refine blk_drewN ?_ _ | refine blk_drew ?_ | refine blk_alloc ?_ _)); exact a3.out)⟩, ⟨(by (with_reducible repeat (first | refine blk_drewN ?_ _ | refine blk_drew ?_ | refine blk_alloc ?_ _)); refine blk_put (cs := #[.slice none 0 0, .slice none 0 0]) ?_ 1 _ rfl; (with_reducible repeat (first | refine blk_drewN ?_ _ | refine blk_drew ?_ | refine blk_alloc ?_ _)); refine blk_put (cs := #[.slice none 0 0, .slice none 0 0]) ?_ 0 _ rfl; (with_reducible repeat (first | refine blk_drewN ?_ _ | refine blk_drew ?_ | refine blk_alloc ?_ _)); exact a5.out)⟩, ⟨zc_0⟩⟩
   case round =>
    clear H'
    try clear u4
    try clear d0
    try clear d1
    try clear d2
    try clear d3
    obtain ⟨b2, a7, a4, u533000, u533001, rfl, HA, HK2, a6, a2, a0, a1, a3, a5, HB⟩ := hrel
    cases gk with
    | zero => exact absurd HA.out (by simp [spec_TimesOf.l0])
    | succ k2 =>
     have H := HA.out
     clear HA
     simp only [spec_TimesOf.l0] at H
     replace H := os_ H
     rcases H with ⟨f5, H⟩ | ⟨f5, H⟩
     ·
      obtain ⟨y533, hy533⟩ : ∃ y_ : List Int, y_ = (([] : List Int)) := ⟨_, rfl⟩
      replace H : (spec_TimesOf.l1 k2 (l0_1.length : Int) (l1_1.length : Int) b2 y533 0 l0_0 l0_1 l1_0 l1_1 a7 a4) = some (r1, r2, r3) := by first | (rw [hy533]; with_reducible exact H) | (have H2_ := (Option.bind_some _ _).symm.trans H; rw [hy533]; with_reducible exact H2_) | (have H2_ := (Option.bind_some _ _).symm.trans H; with_reducible exact H2_) | with_reducible exact H | (rw [hy533]; exact H) | exact H
      have Ny533 := ak hy533
      clear hy533
      have H' := ak H
      clear H
      go_wp2_with (first | ((with_reducible refine gate_dst (N := 41) rfl ?_); refine Kd.R_lit (Kd.int .i64) _ 3 ?hg (N := 41) ?hd (xs := ([] : List Int)) (inner := []) (ok := fun _ => True) (okp := fun _ => True) ?hr ?hp (fun _ hk => hk) trivial (Below.refl _ _) (Nat.le_refl _) (by simp) ?_; (case hd => rfl); (case hg => rfl); (case hr => first | (go_simp; done) | (go_simp; rfl)); (case hp => exact (Reps.none _ _)); intro u5 v2 ho45 hb hg_ hnew_; clear hg_ hnew_; (first | rw [← Ny533.out] at ho45 | (simp only [Int.reduceToNat] at ho45; rw [← Ny533.out] at ho45)); replace a6 := ak (Kd.S_elder' (xS a6.out) (Kd.R_base ho45) hb); have h3 := ak (Kd.R_lower (Kd.R_new' ho45 (Kd.R_lt (xR a2.out))) (below_size zc_0)); replace a2 := ak (Kd.R_elder' (xR a2.out) (Kd.R_base ho45) hb); replace a0 := ak (blk_below (g := a8) (o := .cells #[.slice A0_0 l0_0.length c0_0, .slice A0_1 l0_1.length c0_1] 29 (0, 0)) (xb a0.out) hb); replace a1 := ak (blk_below (g := a9) (o := .cells #[.slice A1_0 l1_0.length c1_0, .slice A1_1 l1_1.length c1_1] 29 (0, 0)) (xb a1.out) hb); replace a3 := ak (blk_below (g := b0) (o := .cells #[.slice none 0 0, .slice none 0 0] 29 (0, 0)) (xb a3.out) hb); replace a5 := ak (blk_below (g := b1) (o := .cells #[u533000, u533001] 29 (0, 0)) (xb a5.out) hb); replace HB := ak (below_step zc_0 hb); clear hb ho45))
      go_loopg [10, 11] k2 (fun kq i6 u6 w' => ∃ (b7 : List Int) (b3 : Int), u6 = .int .i64 b3 ∧ Aside0 (spec_TimesOf.l1 kq (l0_1.length : Int) (l1_1.length : Int) b2 b7 b3 l0_0 l0_1 l1_0 l1_1 a7 a4 = some (r1, r2, r3)) ∧ Aside0 (kq ≤ k2) ∧ Aside0 (Kd.R (Kd.int .i64) 3 w' w.heap.size (fun k_ => some k_ ≠ (u533001 : Value).ownBlock) i6 b7) ∧ Aside0 (Kd.S (Kd.slice 3 (Kd.int .i64)) 23 w' w.heap.size (fun k_ => some k_ ≠ (i6 : Value).ownBlock ∧ some k_ ≠ (u533001 : Value).ownBlock) u533000 a7) ∧ Aside0 (Kd.R (Kd.int .i64) 3 w' w.heap.size (fun k_ => some k_ ≠ (i6 : Value).ownBlock) u533001 a4) ∧ Aside0 (w'.heap[a8]? = some (.cells #[(.slice A0_0 l0_0.length c0_0), (.slice A0_1 l0_1.length c0_1)] 29 (0, 0))) ∧ Aside0 (w'.heap[a9]? = some (.cells #[(.slice A1_0 l1_0.length c1_0), (.slice A1_1 l1_1.length c1_1)] 29 (0, 0))) ∧ Aside0 (w'.heap[b0]? = some (.cells #[(.slice none 0 0), (.slice none 0 0)] 29 (0, 0))) ∧ Aside0 (w'.heap[b1]? = some (.cells #[u533000, u533001] 29 (0, 0))) ∧ Aside0 (Below w.heap.size w w'))
      case atStart => exact ⟨(y533), (0), zc_6, H', ⟨Nat.le_refl _⟩, ⟨(by (with_reducible repeat (first | apply Kd.R_alloc | apply Kd.R_drewN | apply Kd.R_drew)); exact Kd.R_mono h3.out (fun _ hk => hk.2))⟩, ⟨zc_4⟩, ⟨zc_12⟩, ⟨(xb a0.out)⟩, ⟨(xb a1.out)⟩, ⟨(xb a3.out)⟩, ⟨(xb a5.out)⟩, ⟨zc_0⟩⟩
      case round =>
       clear H'
       try clear u4
       try clear v3
       try clear f5
       try clear d0
       try clear d1
       try clear d2
       try clear d3
       obtain ⟨b7, b3, rfl, HA, HK3, d6, a6, a2, a0, a1, a3, a5, HB⟩ := hrel
       cases gk with
       | zero => exact absurd HA.out (by simp [spec_TimesOf.l1])
       | succ k3 =>
        have H := HA.out
        clear HA
        simp only [spec_TimesOf.l1] at H
        replace H := os_ H
        rcases H with ⟨h4, H⟩ | ⟨h4, H⟩
        ·
         replace H := op_ H
         rcases H with ⟨i0, H⟩ | ⟨i0, H⟩
         ·
          exact absurd H (by simp)
         have n2 := bv_ i0
         have n3 := bw_ i0
         have n4 : ¬ (l1_1 = []) := fun h_ => i0 (by rw [h_]; rfl)
         obtain ⟨ji48, hji48⟩ : ∃ j_ : Int, (wrap64 (Int.tdiv b2 (l1_1.length : Int))) = j_ := ⟨_, rfl⟩
         replace H : (if 0 ≤ (ji48) then (if (ji48) < (l0_0.length : Int) then (if 0 ≤ (wrap64 (Int.tdiv b3 (l1_1.length : Int))) then (if (wrap64 (Int.tdiv b3 (l1_1.length : Int))) < ((rd_L1 l0_0 (ji48)).length : Int) then (if 0 ≤ (Int.tmod b2 (l1_1.length : Int)) then (if (Int.tmod b2 (l1_1.length : Int)) < (l1_0.length : Int) then (if 0 ≤ (Int.tmod b3 (l1_1.length : Int)) then (if (Int.tmod b3 (l1_1.length : Int)) < ((rd_L1 l1_0 (Int.tmod b2 (l1_1.length : Int))).length : Int) then (if b7.length < 17592186044416 then (spec_TimesOf.l1 k3 (l0_1.length : Int) (l1_1.length : Int) b2 (b7 ++ [wrap64 ((rd (rd_L1 l0_0 (ji48)) (wrap64 (Int.tdiv b3 (l1_1.length : Int)))) * (rd (rd_L1 l1_0 (Int.tmod b2 (l1_1.length : Int))) (Int.tmod b3 (l1_1.length : Int))))]) (wrap64 (b3 + 1)) l0_0 l0_1 l1_0 l1_1 a7 a4) else (none)) else (none)) else (none)) else (none)) else (none)) else (none)) else (none)) else (none)) else (none)) = some (r1, r2, r3) := by first | (rw [hji48] at H; exact H) | (simp only [hji48] at H ⊢; exact H)
         have hji48w : (IntKind.i64.wrap (Int.tdiv b2 (l1_1.length : Int))) = ji48 := (i64_w _).trans hji48
         replace H := od2 H
         obtain ⟨n5, n6, H⟩ := H
         obtain ⟨ji51, hji51⟩ : ∃ j_ : Int, (wrap64 (Int.tdiv b3 (l1_1.length : Int))) = j_ := ⟨_, rfl⟩
         replace H : (if 0 ≤ (ji51) then (if (ji51) < ((rd_L1 l0_0 (ji48)).length : Int) then (if 0 ≤ (Int.tmod b2 (l1_1.length : Int)) then (if (Int.tmod b2 (l1_1.length : Int)) < (l1_0.length : Int) then (if 0 ≤ (Int.tmod b3 (l1_1.length : Int)) then (if (Int.tmod b3 (l1_1.length : Int)) < ((rd_L1 l1_0 (Int.tmod b2 (l1_1.length : Int))).length : Int) then (if b7.length < 17592186044416 then (spec_TimesOf.l1 k3 (l0_1.length : Int) (l1_1.length : Int) b2 (b7 ++ [wrap64 ((rd (rd_L1 l0_0 (ji48)) (ji51)) * (rd (rd_L1 l1_0 (Int.tmod b2 (l1_1.length : Int))) (Int.tmod b3 (l1_1.length : Int))))]) (wrap64 (b3 + 1)) l0_0 l0_1 l1_0 l1_1 a7 a4) else (none)) else (none)) else (none)) else (none)) else (none)) else (none)) else (none)) = some (r1, r2, r3) := by first | (rw [hji51] at H; exact H) | (simp only [hji51] at H ⊢; exact H)
         have hji51w : (IntKind.i64.wrap (Int.tdiv b3 (l1_1.length : Int))) = ji51 := (i64_w _).trans hji51
         replace H := od2 H
         obtain ⟨n7, n8, H⟩ := H
         obtain ⟨ji54, hji54⟩ : ∃ j_ : Int, (Int.tmod b2 (l1_1.length : Int)) = j_ := ⟨_, rfl⟩
         replace H : (if 0 ≤ (ji54) then (if (ji54) < (l1_0.length : Int) then (if 0 ≤ (Int.tmod b3 (l1_1.length : Int)) then (if (Int.tmod b3 (l1_1.length : Int)) < ((rd_L1 l1_0 (ji54)).length : Int) then (if b7.length < 17592186044416 then (spec_TimesOf.l1 k3 (l0_1.length : Int) (l1_1.length : Int) b2 (b7 ++ [wrap64 ((rd (rd_L1 l0_0 (ji48)) (ji51)) * (rd (rd_L1 l1_0 (ji54)) (Int.tmod b3 (l1_1.length : Int))))]) (wrap64 (b3 + 1)) l0_0 l0_1 l1_0 l1_1 a7 a4) else (none)) else (none)) else (none)) else (none)) else (none)) = some (r1, r2, r3) := by first | (rw [hji54] at H; exact H) | (simp only [hji54] at H ⊢; exact H)
         replace H := od2 H
         obtain ⟨n9, o0, H⟩ := H
         obtain ⟨ji57, hji57⟩ : ∃ j_ : Int, (Int.tmod b3 (l1_1.length : Int)) = j_ := ⟨_, rfl⟩
         replace H : (if 0 ≤ (ji57) then (if (ji57) < ((rd_L1 l1_0 (ji54)).length : Int) then (if b7.length < 17592186044416 then (spec_TimesOf.l1 k3 (l0_1.length : Int) (l1_1.length : Int) b2 (b7 ++ [wrap64 ((rd (rd_L1 l0_0 (ji48)) (ji51)) * (rd (rd_L1 l1_0 (ji54)) (ji57)))]) (wrap64 (b3 + 1)) l0_0 l0_1 l1_0 l1_1 a7 a4) else (none)) else (none)) else (none)) = some (r1, r2, r3) := by first | (rw [hji57] at H; exact H) | (simp only [hji57] at H ⊢; exact H)
         replace H := od2 H
         obtain ⟨o1, o2, H⟩ := H
         replace H := ok_ H
         obtain ⟨o3, H⟩ := H
         have LMc60 := ak o3
         clear o3
         obtain ⟨y540, hy540⟩ : ∃ y_ : List Int, y_ = (b7 ++ [wrap64 ((rd (rd_L1 l0_0 (ji48)) (ji51)) * (rd (rd_L1 l1_0 (ji54)) (ji57)))]) := ⟨_, rfl⟩
         replace H : (spec_TimesOf.l1 k3 (l0_1.length : Int) (l1_1.length : Int) b2 y540 (wrap64 (b3 + 1)) l0_0 l0_1 l1_0 l1_1 a7 a4) = some (r1, r2, r3) := by first | (rw [hy540]; with_reducible exact H) | (have H2_ := (Option.bind_some _ _).symm.trans H; rw [hy540]; with_reducible exact H2_) | (have H2_ := (Option.bind_some _ _).symm.trans H; with_reducible exact H2_) | with_reducible exact H | (rw [hy540]; exact H) | exact H
         have Ny540 := ak hy540
         clear hy540
         have H' := ak H
         clear H
         try go_wp2
         replace d6 := ak (Kd.R_drew d6.out)
         replace a6 := ak (Kd.S_drew a6.out)
         replace a2 := ak (Kd.R_drew a2.out)
         replace a0 := ak (blk_drew a0.out)
         replace a1 := ak (blk_drew a1.out)
         replace a3 := ak (blk_drew a3.out)
         replace a5 := ak (blk_drew a5.out)
         replace HB := ak (below_drew1 HB.out)
         have f8 : 0 ≤ ((ji48) : Int) := oa_
         have q536 : (ji48) < (l0_0.length : Int) := oa_
         obtain ⟨ad536, i7, f9, e536, hx536_0, hl536_0, hi536_0⟩ := at_L1 HR0_0.out (ji48) f8 q536
         have hw536_0 := hx536_0
         cases e536
         replace hx536_0 := (HB.out.cell (World.block_lt_of_cell? w _ hx536_0)).trans hx536_0
         have HR536_0 := ak hi536_0
         have i1 := ak hl536_0
         clear hi536_0 hl536_0
         replace f8 := eq_true f8
         replace q536 := eq_true q536
         have g0 : 0 ≤ ((ji51) : Int) := oa_
         have q537 : (ji51) < ((rd_L1 l0_0 (ji48)).length : Int) := oa_
         obtain ⟨ad537, e537, hx537_0⟩ := Kd.at_int HR536_0.out (ji51) g0 q537
         have hw537_0 := hx537_0
         cases e537
         replace hx537_0 := (HB.out.cell (World.block_lt_of_cell? w _ hx537_0)).trans hx537_0
         replace g0 := eq_true g0
         replace q537 := eq_true q537
         have g1 : 0 ≤ ((ji54) : Int) := oa_
         have q538 : (ji54) < (l1_0.length : Int) := oa_
         obtain ⟨ad538, i8, g2, e538, hx538_0, hl538_0, hi538_0⟩ := at_L1 HR1_0.out (ji54) g1 q538
         have hw538_0 := hx538_0
         cases e538
         replace hx538_0 := (HB.out.cell (World.block_lt_of_cell? w _ hx538_0)).trans hx538_0
         have HR538_0 := ak hi538_0
         have i2 := ak hl538_0
         clear hi538_0 hl538_0
         replace g1 := eq_true g1
         replace q538 := eq_true q538
         have g3 : 0 ≤ ((ji57) : Int) := oa_
         have q539 : (ji57) < ((rd_L1 l1_0 (ji54)).length : Int) := oa_
         obtain ⟨ad539, e539, hx539_0⟩ := Kd.at_int HR538_0.out (ji57) g3 q539
         have hw539_0 := hx539_0
         cases e539
         replace hx539_0 := (HB.out.cell (World.block_lt_of_cell? w _ hx539_0)).trans hx539_0
         replace g3 := eq_true g3
         replace q539 := eq_true q539
         refine start_ (n := 29) (S := fun w' => w'.cell? ⟨a8, 0, none⟩ = some (.slice (some ad536) l0_0.length c0_0) ∧ w'.cell? ⟨a8, 1, none⟩ = some (.slice A0_1 l0_1.length c0_1) ∧ w'.cell? ⟨a9, 0, none⟩ = some (.slice (some ad538) l1_0.length c1_0) ∧ w'.cell? ⟨a9, 1, none⟩ = some (.slice A1_1 l1_1.length c1_1) ∧ w'.cell? (ad536.add ((ji48)).toNat) = some (.slice (some ad537) (rd_L1 l0_0 (ji48)).length f9) ∧ w'.cell? (ad537.add ((ji51)).toNat) = some (.int .i64 (rd (rd_L1 l0_0 (ji48)) (ji51))) ∧ w'.cell? (ad538.add ((ji54)).toNat) = some (.slice (some ad539) (rd_L1 l1_0 (ji54)).length g2) ∧ w'.cell? (ad539.add ((ji57)).toNat) = some (.int .i64 (rd (rd_L1 l1_0 (ji54)) (ji57)))) (ds := []) (bA 29 0) (by kernel_rfl) rfl rfl ⟨(blk_cell a0.out 0).trans rfl, (blk_cell a0.out 1).trans rfl, (blk_cell a1.out 0).trans rfl, (blk_cell a1.out 1).trans rfl, ((HB.out.cell (World.block_lt_of_cell? w _ hw536_0)).trans hw536_0), ((HB.out.cell (World.block_lt_of_cell? w _ hw537_0)).trans hw537_0), ((HB.out.cell (World.block_lt_of_cell? w _ hw538_0)).trans hw538_0), ((HB.out.cell (World.block_lt_of_cell? w _ hw539_0)).trans hw539_0)⟩ (fun hHeld => ?_); refine with_tabW spec_TimesOf.tab13 spec_TimesOf.bits13 (fun HT_ HW_ => ?_)
         generalize wr.drew = v4 at d6 a6 a2 a0 a1 a3 a5 HB HR536_0 HR538_0 hx536_0 hx537_0 hx538_0 hx539_0 hHeld ⊢
         refine pu_ (i := 0) (N := some 49) (bA 29 1) ?_
         refine pu_ (i := 1) (N := some 50) (bA 29 3) ?_
         refine pu_ (i := 3) (N := some 52) (bA 29 11) ?_
         refine pu_ (i := 4) (N := some 53) (bA 29 27) ?_
         refine pu_ (i := 5) (N := some 54) (bA 29 59) ?_
         refine pu_ (i := 8) (N := some 57) (bA 29 315) ?_
         refine pu_ (i := 9) (N := some 58) (bA 29 827) ?_
         refine pu_ (i := 10) (N := some 59) (bA 29 1851) ?_
         refine pu_ (i := 13) (N := some 62) (bA 29 10043) ?_
         refine pu_ (i := 15) (N := some 64) (bA 29 42811) ?_
         refine pu_ (i := 16) (N := some 65) (bA 29 108347) ?_
         refine pu_ (i := 17) (N := some 66) (bA 29 239419) ?_
         refine pu_ (i := 20) (N := some 69) (bA 29 1287995) ?_
         refine pu_ (i := 21) (N := some 70) (bA 29 3385147) ?_
         refine pu_ (i := 22) (N := some 71) (bA 29 7579451) ?_
         refine tk_ (i := 2) (N := some 51) (bA 29 7579455) ?_
         refine pu_ (i := 6) (N := some 55) (bA 29 7579519) ?_
         refine tk_ (i := 7) (N := some 56) (bA 29 7579647) ?_
         refine pu_ (i := 11) (N := some 60) (bA 29 7581695) ?_
         refine tk_ (i := 12) (N := some 61) (bA 29 7585791) ?_
         refine tk_ (i := 14) (N := some 63) (bA 29 7602175) ?_
         refine pu_ (i := 18) (N := some 67) (bA 29 7864319) ?_
         refine tk_ (i := 19) (N := some 68) (bA 29 8388607) ?_
         refine pu_ (i := 23) (N := some 72) (bA 29 16777215) ?_
         refine tk_ (i := 24) (N := some 73) (bA 29 33554431) ?_
         refine pu_ (i := 25) (N := some 74) (bA 29 67108863) ?_
         refine one_ (i := 26) (N := some 75) (bA 29 134217727) rfl rfl (one_of HT_.out (by kernel_rfl)) (by decide) (fun K hK => ?_)
         refine value_ (w1 := ?_) (v := ?_) (by rfl) rfl ?_ ?_
         rotate_left 2
         ·
          go_simp
          constructor
          ·
           rfl
          rfl
         refine hK.out _ _ ⟨(blk_cell (blk_alloc a0.out _) 0).trans rfl, (blk_cell (blk_alloc a0.out _) 1).trans rfl, (blk_cell (blk_alloc a1.out _) 0).trans rfl, (blk_cell (blk_alloc a1.out _) 1).trans rfl, (World.cell?_alloc_lt _ _ _ (World.block_lt_of_cell? _ _ (((HB.out.cell (World.block_lt_of_cell? w _ hw536_0)).trans hw536_0)))).trans (((HB.out.cell (World.block_lt_of_cell? w _ hw536_0)).trans hw536_0)), (World.cell?_alloc_lt _ _ _ (World.block_lt_of_cell? _ _ (((HB.out.cell (World.block_lt_of_cell? w _ hw537_0)).trans hw537_0)))).trans (((HB.out.cell (World.block_lt_of_cell? w _ hw537_0)).trans hw537_0)), (World.cell?_alloc_lt _ _ _ (World.block_lt_of_cell? _ _ (((HB.out.cell (World.block_lt_of_cell? w _ hw538_0)).trans hw538_0)))).trans (((HB.out.cell (World.block_lt_of_cell? w _ hw538_0)).trans hw538_0)), (World.cell?_alloc_lt _ _ _ (World.block_lt_of_cell? _ _ (((HB.out.cell (World.block_lt_of_cell? w _ hw539_0)).trans hw539_0)))).trans (((HB.out.cell (World.block_lt_of_cell? w _ hw539_0)).trans hw539_0))⟩ (fun hHeld => ?_)
         clear hK K
         refine no_ (N := some 75) ?_
         refine one_ (i := 27) (N := some 76) (bA 29 268435455) rfl rfl (one_of HT_.out (by kernel_rfl)) (by decide) (fun K hK => ?_)
         refine Kd.R_append_step (Kd.int .i64) (w0 := w) w.heap.size (by rfl) (.tmp 49) (.tmp 75) 23 3 (.int .i64 0) 8 rfl Try.underlying23 info3 rfl (by decide) (by omega) u10 b7 (wrap64 ((rd (rd_L1 l0_0 (ji48)) (ji51)) * (rd (rd_L1 l1_0 (ji54)) (ji57)))) [.int .i64 (wrap64 ((rd (rd_L1 l0_0 (ji48)) (ji51)) * (rd (rd_L1 l1_0 (ji54)) (ji57))))] (fun k_ => some k_ ≠ (u533001 : Value).ownBlock) (fun _ => False) rfl rfl ?aP (fun _ hk => hk.elim) ?aF ?aO ?aB ?aS ?aL ?_
         (case aP => exact rfl)
         (case aB => exact zc_0)
         (case aF => exact (fun k_ hk => Kd.fresh' (Kd.R_lt (xR a2.out)) k_ hk))
         (case aO => exact (xR d6.out))
         (case aS => exact (below_size zc_0))
         (case aL => have := LMc60.out; omega)
         intro u7 v5 ho hb hg hat
         rw [← Ny540.out] at ho
         replace a6 := ak (Kd.S_after (ok := (fun k_ => some k_ ≠ (u533001 : Value).ownBlock)) zc_4 hg hat)
         replace a2 := ak (Kd.R_after (ok := (fun _ => True)) (by (with_reducible repeat (first | apply Kd.R_alloc | apply Kd.R_drewN | apply Kd.R_drew)); exact Kd.R_mono a2.out (fun _ hk => ⟨trivial, hk⟩)) hg hat)
         replace a0 := ak (blk_grown (g := a8) (o := .cells #[.slice (some ad536) l0_0.length c0_0, .slice A0_1 l0_1.length c0_1] 29 (0, 0)) (xb a0.out) hg (Kd.R_ne d6.out a0.out (by decide)))
         replace a1 := ak (blk_grown (g := a9) (o := .cells #[.slice (some ad538) l1_0.length c1_0, .slice A1_1 l1_1.length c1_1] 29 (0, 0)) (xb a1.out) hg (Kd.R_ne d6.out a1.out (by decide)))
         replace a3 := ak (blk_grown (g := b0) (o := .cells #[.slice none 0 0, .slice none 0 0] 29 (0, 0)) (xb a3.out) hg (Kd.R_ne d6.out a3.out (by decide)))
         replace a5 := ak (blk_grown (g := b1) (o := .cells #[u533000, u533001] 29 (0, 0)) (xb a5.out) hg (Kd.R_ne d6.out a5.out (by decide)))
         replace HB := ak (hb)
         have h5 := ak (ho)
         clear d6 ho hb hg hat
         refine hK.out _ _ ⟨(blk_cell a0.out 0).trans rfl, (blk_cell a0.out 1).trans rfl, (blk_cell a1.out 0).trans rfl, (blk_cell a1.out 1).trans rfl, ((HB.out.cell (World.block_lt_of_cell? w _ hw536_0)).trans hw536_0), ((HB.out.cell (World.block_lt_of_cell? w _ hw537_0)).trans hw537_0), ((HB.out.cell (World.block_lt_of_cell? w _ hw538_0)).trans hw538_0), ((HB.out.cell (World.block_lt_of_cell? w _ hw539_0)).trans hw539_0)⟩ (fun hHeld => ?_)
         clear hK K
         refine no_ (N := some 76) ?_
         refine pu_ (i := 28) (N := some 10) (bA 29 536870911) ?_
         refine done_ (done_of HT_.out (by kernel_rfl)) ?_
         try go_wp2
         go_roundg k3
         case measure => have := h9.out; have := HK2.out; have := HK3.out; omega
         case rel => exact ⟨(y540), (wrap64 (b3 + 1)), zc_6, H', ⟨(by have := h9.out; have := HK2.out; have := HK3.out; omega)⟩, ⟨(xR h5.out)⟩, ⟨zc_4⟩, ⟨zc_12⟩, ⟨(xb a0.out)⟩, ⟨(xb a1.out)⟩, ⟨(xb a3.out)⟩, ⟨(xb a5.out)⟩, ⟨zc_0⟩⟩
        replace H := ok_ H
        obtain ⟨o4, H⟩ := H
        have LMc63 := ak o4
        clear o4
        obtain ⟨y543, hy543⟩ : ∃ y_ : List (List Int), y_ = (a7 ++ [b7]) := ⟨_, rfl⟩
        replace H : (if (l1_1.length : Int) = 0 then (none) else (if 0 ≤ (wrap64 (Int.tdiv b2 (l1_1.length : Int))) then (if (wrap64 (Int.tdiv b2 (l1_1.length : Int))) < (l0_1.length : Int) then (if 0 ≤ (Int.tmod b2 (l1_1.length : Int)) then (if (Int.tmod b2 (l1_1.length : Int)) < (l1_1.length : Int) then (if a4.length < 17592186044416 then (spec_TimesOf.l0 k3 (l0_1.length : Int) (l1_1.length : Int) (wrap64 (b2 + 1)) l0_0 l0_1 l1_0 l1_1 y543 (a4 ++ [wrap64 ((wrap64 ((rd l0_1 (wrap64 (Int.tdiv b2 (l1_1.length : Int)))) * (l1_1.length : Int))) + (rd l1_1 (Int.tmod b2 (l1_1.length : Int))))])) else (none)) else (none)) else (none)) else (none)) else (none))) = some (r1, r2, r3) := by first | (rw [hy543]; with_reducible exact H) | (have H2_ := (Option.bind_some _ _).symm.trans H; rw [hy543]; with_reducible exact H2_) | (have H2_ := (Option.bind_some _ _).symm.trans H; with_reducible exact H2_) | with_reducible exact H | (rw [hy543]; exact H) | exact H
        have Ny543 := ak hy543
        clear hy543
        replace H := op_ H
        rcases H with ⟨i3, H⟩ | ⟨i3, H⟩
        ·
         exact absurd H (by simp)
        have o5 := bv_ i3
        have o6 := bw_ i3
        have o7 : ¬ (l1_1 = []) := fun h_ => i3 (by rw [h_]; rfl)
        obtain ⟨ji65, hji65⟩ : ∃ j_ : Int, (wrap64 (Int.tdiv b2 (l1_1.length : Int))) = j_ := ⟨_, rfl⟩
        replace H : (if 0 ≤ (ji65) then (if (ji65) < (l0_1.length : Int) then (if 0 ≤ (Int.tmod b2 (l1_1.length : Int)) then (if (Int.tmod b2 (l1_1.length : Int)) < (l1_1.length : Int) then (if a4.length < 17592186044416 then (spec_TimesOf.l0 k3 (l0_1.length : Int) (l1_1.length : Int) (wrap64 (b2 + 1)) l0_0 l0_1 l1_0 l1_1 y543 (a4 ++ [wrap64 ((wrap64 ((rd l0_1 (ji65)) * (l1_1.length : Int))) + (rd l1_1 (Int.tmod b2 (l1_1.length : Int))))])) else (none)) else (none)) else (none)) else (none)) else (none)) = some (r1, r2, r3) := by first | (rw [hji65] at H; exact H) | (simp only [hji65] at H ⊢; exact H)
        have hji65w : (IntKind.i64.wrap (Int.tdiv b2 (l1_1.length : Int))) = ji65 := (i64_w _).trans hji65
        replace H := od2 H
        obtain ⟨o8, o9, H⟩ := H
        obtain ⟨ji68, hji68⟩ : ∃ j_ : Int, (Int.tmod b2 (l1_1.length : Int)) = j_ := ⟨_, rfl⟩
        replace H : (if 0 ≤ (ji68) then (if (ji68) < (l1_1.length : Int) then (if a4.length < 17592186044416 then (spec_TimesOf.l0 k3 (l0_1.length : Int) (l1_1.length : Int) (wrap64 (b2 + 1)) l0_0 l0_1 l1_0 l1_1 y543 (a4 ++ [wrap64 ((wrap64 ((rd l0_1 (ji65)) * (l1_1.length : Int))) + (rd l1_1 (ji68)))])) else (none)) else (none)) else (none)) = some (r1, r2, r3) := by first | (rw [hji68] at H; exact H) | (simp only [hji68] at H ⊢; exact H)
        replace H := od2 H
        obtain ⟨q0, q1, H⟩ := H
        replace H := ok_ H
        obtain ⟨q2, H⟩ := H
        have LMc71 := ak q2
        clear q2
        obtain ⟨y548, hy548⟩ : ∃ y_ : List Int, y_ = (a4 ++ [wrap64 ((wrap64 ((rd l0_1 (ji65)) * (l1_1.length : Int))) + (rd l1_1 (ji68)))]) := ⟨_, rfl⟩
        replace H : (spec_TimesOf.l0 k3 (l0_1.length : Int) (l1_1.length : Int) (wrap64 (b2 + 1)) l0_0 l0_1 l1_0 l1_1 y543 y548) = some (r1, r2, r3) := by first | (rw [hy548]; with_reducible exact H) | (have H2_ := (Option.bind_some _ _).symm.trans H; rw [hy548]; with_reducible exact H2_) | (have H2_ := (Option.bind_some _ _).symm.trans H; with_reducible exact H2_) | with_reducible exact H | (rw [hy548]; exact H) | exact H
        have Ny548 := ak hy548
        clear hy548
        have H' := ak H
        clear H
        have q3 := d9.out
        have q4 := b4.out
        have q5 := e0.out
        have q6 := b5.out
        have q7 := e1.out
        have q8 := b6.out
        have d0 := cz20 a5.out
        have d1 := cz21 a5.out
        have d2 := blk_frozen a5.out 0
        have d3 := blk_frozen a5.out 1
        obtain ⟨h6, h7, i9⟩ := Kd.R_slice d6.out
        subst i9
        try go_wp2_with (first | ((with_reducible refine gate_builtin (b := .append) (xs := #[.tmp 78, .tmp 80]) rfl ?_); at_builtin; refine Kd.S_append (Kd.slice 3 (Kd.int .i64)) (w0 := w) w.heap.size rfl (.tmp 78) (.tmp 80) 22 23 (.slice none 0 0) 24 rfl Try.underlying22 info23 rfl (by decide) (by omega) u533000 a7 b7 [.slice h6 b7.length h7] (fun k_ => some k_ ≠ (u533001 : Value).ownBlock) (fun k_ => some k_ = (.slice h6 b7.length h7 : Value).ownBlock) rfl rfl ?aP (fun k_ hk_ => ((Kd.R_mono (ok' := fun k_ => ((fun k_ => some k_ ≠ (u533001 : Value).ownBlock)) k_ ∧ some k_ ≠ (u533000 : Value).ownBlock) (Kd.R_apart' (d6.out) (Kd.S_typed a6.out) (by decide)) (fun k_ hk => ⟨hk.1, hk.2⟩))).1 k_ hk_.symm) ?aF ?aO ?aB ?aS ?aL ?_; (case aP => exact Kd.M_row (Kd.R_mono (Kd.R_tight rfl (Kd.R_mono (ok' := fun k_ => ((fun k_ => some k_ ≠ (u533001 : Value).ownBlock)) k_ ∧ some k_ ≠ (u533000 : Value).ownBlock) (Kd.R_apart' (d6.out) (Kd.S_typed a6.out) (by decide)) (fun k_ hk => ⟨hk.1, hk.2⟩))) (fun _ h_ => h_))); (case aB => exact zc_0); (case aF => exact (fun k_ hk => Kd.fresh' (Kd.R_lt (xR a2.out)) k_ hk)); (case aO => exact (by (with_reducible repeat (first | apply Kd.S_alloc | apply Kd.S_drewN | apply Kd.S_drew)); exact Kd.S_mono a6.out (fun k_ hk => ⟨hk.2, fun e_ => hk.1 e_⟩))); (case aS => exact (below_size zc_0)); (case aL => have := LMc63.out; omega); intro u8 f6 ho hb hg hat; rw [← Ny543.out] at ho; replace a2 := ak (Kd.R_over' (xR a2.out) (Kd.S_typed (xS a6.out)) (by decide) hg); replace a0 := ak (blk_grown (g := a8) (o := .cells #[.slice A0_0 l0_0.length c0_0, .slice A0_1 l0_1.length c0_1] 29 (0, 0)) (xb a0.out) hg (Kd.S_ne a6.out a0.out (by decide))); replace a1 := ak (blk_grown (g := a9) (o := .cells #[.slice A1_0 l1_0.length c1_0, .slice A1_1 l1_1.length c1_1] 29 (0, 0)) (xb a1.out) hg (Kd.S_ne a6.out a1.out (by decide))); replace a3 := ak (blk_grown (g := b0) (o := .cells #[.slice none 0 0, .slice none 0 0] 29 (0, 0)) (xb a3.out) hg (Kd.S_ne a6.out a3.out (by decide))); replace a5 := ak (blk_grown (g := b1) (o := .cells #[u533000, u533001] 29 (0, 0)) (xb a5.out) hg (Kd.S_ne a6.out a5.out (by decide))); replace HB := ak (hb); have e4 := ak (ho); clear a6 d6; clear ho hb hg hat; obtain ⟨e2, e3, j1⟩ := Kd.S_slice e4.out; subst j1; have d0 := cz20 a5.out; have d1 := cz21 a5.out; have d2 := blk_frozen a5.out 0; have d3 := blk_frozen a5.out 1))
        have n0_ : Aside0 (Kd.R (Kd.int .i64) 3 (f6.setCell ⟨b1, 0, none⟩ (.slice e2 y543.length e3)) w.heap.size (fun _ => True) u533001 a4) := ⟨(by (with_reducible repeat (first | apply Kd.R_alloc | apply Kd.R_drewN | apply Kd.R_drew)); exact Kd.R_mono (Kd.R_far (p := ⟨b1, 0, none⟩) (Kd.R_types a2.out a5.out (by decide)) (fun _ hk => hk.2) (.slice e2 y543.length e3)) (fun _ hk => trivial))⟩
        have n1_ : Aside0 (Kd.S (Kd.slice 3 (Kd.int .i64)) 23 (f6.setCell ⟨b1, 0, none⟩ (.slice e2 y543.length e3)) w.heap.size (fun k_ => some k_ ≠ (u533001 : Value).ownBlock) (.slice e2 y543.length e3) y543) := ⟨(by (with_reducible repeat (first | apply Kd.S_alloc | apply Kd.S_drewN | apply Kd.S_drew)); exact Kd.S_mono (Kd.S_far (p := ⟨b1, 0, none⟩) (Kd.S_types e4.out a5.out (by decide)) (fun _ hk => hk.2) (.slice e2 y543.length e3)) (fun _ hk => hk.1))⟩
        have n2_ : Aside0 ((f6.setCell ⟨b1, 0, none⟩ (.slice e2 y543.length e3)).heap[a8]? = some (.cells #[.slice A0_0 l0_0.length c0_0, .slice A0_1 l0_1.length c0_1] 29 (0, 0))) := ⟨zc_9⟩
        have n3_ : Aside0 ((f6.setCell ⟨b1, 0, none⟩ (.slice e2 y543.length e3)).heap[a9]? = some (.cells #[.slice A1_0 l1_0.length c1_0, .slice A1_1 l1_1.length c1_1] 29 (0, 0))) := ⟨zc_8⟩
        have n4_ : Aside0 ((f6.setCell ⟨b1, 0, none⟩ (.slice e2 y543.length e3)).heap[b0]? = some (.cells #[.slice none 0 0, .slice none 0 0] 29 (0, 0))) := ⟨zc_7⟩
        have n5_ : Aside0 ((f6.setCell ⟨b1, 0, none⟩ (.slice e2 y543.length e3)).heap[b1]? = some (.cells #[.slice e2 y543.length e3, u533001] 29 (0, 0))) := ⟨(by (with_reducible repeat (first | refine blk_drewN ?_ _ | refine blk_drew ?_ | refine blk_alloc ?_ _)); refine blk_put (cs := #[u533000, u533001]) ?_ 0 _ rfl; (with_reducible repeat (first | refine blk_drewN ?_ _ | refine blk_drew ?_ | refine blk_alloc ?_ _)); exact a5.out)⟩
        have n6_ : Aside0 (Below w.heap.size w (f6.setCell ⟨b1, 0, none⟩ (.slice e2 y543.length e3))) := ⟨zc_0⟩
        (try clear a2)
        (try clear e4)
        (try clear a0)
        (try clear a1)
        (try clear a3)
        (try clear a5)
        (try clear HB)
        generalize (f6.setCell ⟨b1, 0, none⟩ (.slice e2 y543.length e3)) = u9 at n0_ n1_ n2_ n3_ n4_ n5_ n6_ ⊢
        have a2 := n0_
        have e4 := n1_
        have a0 := n2_
        have a1 := n3_
        have a3 := n4_
        have a5 := n5_
        have HB := n6_
        clear n0_ n1_ n2_ n3_ n4_ n5_ n6_
        replace a2 := ak (Kd.R_drew a2.out)
        replace e4 := ak (Kd.S_drew e4.out)
        replace a0 := ak (blk_drew a0.out)
        replace a1 := ak (blk_drew a1.out)
        replace a3 := ak (blk_drew a3.out)
        replace a5 := ak (blk_drew a5.out)
        replace HB := ak (below_drew1 HB.out)
        have g4 : 0 ≤ ((ji65) : Int) := oa_
        have q546 : (ji65) < (l0_1.length : Int) := oa_
        obtain ⟨ad546, e546, hx546_0⟩ := Kd.at_int HR0_1.out (ji65) g4 q546
        have hw546_0 := hx546_0
        cases e546
        replace hx546_0 := (HB.out.cell (World.block_lt_of_cell? w _ hx546_0)).trans hx546_0
        replace g4 := eq_true g4
        replace q546 := eq_true q546
        have g5 : 0 ≤ ((ji68) : Int) := oa_
        have q547 : (ji68) < (l1_1.length : Int) := oa_
        obtain ⟨ad547, e547, hx547_0⟩ := Kd.at_int HR1_1.out (ji68) g5 q547
        have hw547_0 := hx547_0
        cases e547
        replace hx547_0 := (HB.out.cell (World.block_lt_of_cell? w _ hx547_0)).trans hx547_0
        replace g5 := eq_true g5
        replace q547 := eq_true q547
        refine start_ (n := 23) (S := fun w' => w'.cell? ⟨b1, 0, none⟩ = some (.slice e2 y543.length e3) ∧ w'.cell? ⟨b1, 1, none⟩ = some (u533001) ∧ w'.cell? ⟨a8, 0, none⟩ = some (.slice A0_0 l0_0.length c0_0) ∧ w'.cell? ⟨a8, 1, none⟩ = some (.slice (some ad546) l0_1.length c0_1) ∧ w'.cell? ⟨a9, 0, none⟩ = some (.slice A1_0 l1_0.length c1_0) ∧ w'.cell? ⟨a9, 1, none⟩ = some (.slice (some ad547) l1_1.length c1_1) ∧ w'.cell? (ad546.add ((ji65)).toNat) = some (.int .i64 (rd l0_1 (ji65))) ∧ w'.cell? (ad547.add ((ji68)).toNat) = some (.int .i64 (rd l1_1 (ji68)))) (ds := [22]) (bA 23 0) (by kernel_rfl) rfl rfl ⟨(blk_cell a5.out 0).trans rfl, (blk_cell a5.out 1).trans rfl, (blk_cell a0.out 0).trans rfl, (blk_cell a0.out 1).trans rfl, (blk_cell a1.out 0).trans rfl, (blk_cell a1.out 1).trans rfl, ((HB.out.cell (World.block_lt_of_cell? w _ hw546_0)).trans hw546_0), ((HB.out.cell (World.block_lt_of_cell? w _ hw547_0)).trans hw547_0)⟩ (fun hHeld => ?_); refine with_tabW spec_TimesOf.tab15 spec_TimesOf.bits15 (fun HT_ HW_ => ?_)
        generalize u9.drew = v6 at a2 e4 a0 a1 a3 a5 HB hx546_0 hx547_0 hHeld ⊢
        refine pu_ (i := 0) (N := some 83) (bA 23 1) ?_
        refine pu_ (i := 2) (N := some 85) (bA 23 5) ?_
        refine pu_ (i := 4) (N := some 87) (bA 23 21) ?_
        refine pu_ (i := 5) (N := some 88) (bA 23 53) ?_
        refine pu_ (i := 6) (N := some 89) (bA 23 117) ?_
        refine pu_ (i := 9) (N := some 92) (bA 23 629) ?_
        refine pu_ (i := 11) (N := some 94) (bA 23 2677) ?_
        refine pu_ (i := 13) (N := some 96) (bA 23 10869) ?_
        refine pu_ (i := 14) (N := some 97) (bA 23 27253) ?_
        refine pu_ (i := 15) (N := some 98) (bA 23 60021) ?_
        refine tk_ (i := 1) (N := some 84) (bA 23 60023) ?_
        refine tk_ (i := 3) (N := some 86) (bA 23 60031) ?_
        refine pu_ (i := 7) (N := some 90) (bA 23 60159) ?_
        refine tk_ (i := 8) (N := some 91) (bA 23 60415) ?_
        refine pu_ (i := 10) (N := some 93) (bA 23 61439) ?_
        refine tk_ (i := 12) (N := some 95) (bA 23 65535) ?_
        refine pu_ (i := 16) (N := some 99) (bA 23 131071) ?_
        refine tk_ (i := 17) (N := some 100) (bA 23 262143) ?_
        refine pu_ (i := 18) (N := some 101) (bA 23 524287) ?_
        refine one_ (i := 19) (N := some 102) (bA 23 1048575) rfl rfl (one_of HT_.out (by kernel_rfl)) (by decide) (fun K hK => ?_)
        refine value_ (w1 := ?_) (v := ?_) (by rfl) rfl ?_ ?_
        rotate_left 2
        ·
         go_simp
         constructor
         ·
          rfl
         rfl
        refine hK.out _ _ ⟨(blk_cell (blk_alloc a5.out _) 0).trans rfl, (blk_cell (blk_alloc a5.out _) 1).trans rfl, (blk_cell (blk_alloc a0.out _) 0).trans rfl, (blk_cell (blk_alloc a0.out _) 1).trans rfl, (blk_cell (blk_alloc a1.out _) 0).trans rfl, (blk_cell (blk_alloc a1.out _) 1).trans rfl, (World.cell?_alloc_lt _ _ _ (World.block_lt_of_cell? _ _ (((HB.out.cell (World.block_lt_of_cell? w _ hw546_0)).trans hw546_0)))).trans (((HB.out.cell (World.block_lt_of_cell? w _ hw546_0)).trans hw546_0)), (World.cell?_alloc_lt _ _ _ (World.block_lt_of_cell? _ _ (((HB.out.cell (World.block_lt_of_cell? w _ hw547_0)).trans hw547_0)))).trans (((HB.out.cell (World.block_lt_of_cell? w _ hw547_0)).trans hw547_0))⟩ (fun hHeld => ?_)
        clear hK K
        refine no_ (N := some 102) ?_
        refine one_ (i := 20) (N := some 103) (bA 23 2097151) rfl rfl (one_of HT_.out (by kernel_rfl)) (by decide) (fun K hK => ?_)
        refine Kd.R_append_step (Kd.int .i64) (w0 := w) w.heap.size (by rfl) (.tmp 84) (.tmp 102) 23 3 (.int .i64 0) 8 rfl Try.underlying23 info3 rfl (by decide) (by omega) u533001 a4 (wrap64 ((wrap64 ((rd l0_1 (ji65)) * (l1_1.length : Int))) + (rd l1_1 (ji68)))) [.int .i64 (wrap64 ((wrap64 ((rd l0_1 (ji65)) * (l1_1.length : Int))) + (rd l1_1 (ji68))))] (fun _ => True) (fun _ => False) rfl rfl ?aP (fun _ hk => hk.elim) ?aF ?aO ?aB ?aS ?aL ?_
        (case aP => exact rfl)
        (case aB => exact zc_0)
        (case aF => exact (fun _ _ => trivial))
        (case aO => exact (xR a2.out))
        (case aS => exact (below_size zc_0))
        (case aL => have := LMc71.out; omega)
        intro v0 v7 ho hb hg hat
        rw [← Ny548.out] at ho
        replace a0 := ak (blk_grown (g := a8) (o := .cells #[.slice A0_0 l0_0.length c0_0, .slice (some ad546) l0_1.length c0_1] 29 (0, 0)) (xb a0.out) hg (Kd.R_ne a2.out a0.out (by decide)))
        replace a1 := ak (blk_grown (g := a9) (o := .cells #[.slice A1_0 l1_0.length c1_0, .slice (some ad547) l1_1.length c1_1] 29 (0, 0)) (xb a1.out) hg (Kd.R_ne a2.out a1.out (by decide)))
        replace a3 := ak (blk_grown (g := b0) (o := .cells #[.slice none 0 0, .slice none 0 0] 29 (0, 0)) (xb a3.out) hg (Kd.R_ne a2.out a3.out (by decide)))
        replace a5 := ak (blk_grown (g := b1) (o := .cells #[.slice e2 y543.length e3, u533001] 29 (0, 0)) (xb a5.out) hg (Kd.R_ne a2.out a5.out (by decide)))
        replace e4 := ak (Kd.S_after (ok := (fun _ => True)) (by (with_reducible repeat (first | apply Kd.S_alloc | apply Kd.S_drewN | apply Kd.S_drew)); exact Kd.S_mono e4.out (fun _ hk => ⟨trivial, hk⟩)) hg hat)
        replace HB := ak (hb)
        have f7 := ak (ho)
        clear a2 ho hb hg hat
        obtain ⟨g6, g7, h8⟩ := Kd.R_slice f7.out
        (first | subst h8 | (injection h8 with f1_ f2_ f3_; have f4_ := f1_.symm; have f5_ := f3_.symm; clear f1_ f2_ f3_; subst f4_; subst f5_))
        refine hK.out _ _ ⟨(blk_cell a5.out 0).trans rfl, (blk_cell a5.out 1).trans rfl, (blk_cell a0.out 0).trans rfl, (blk_cell a0.out 1).trans rfl, (blk_cell a1.out 0).trans rfl, (blk_cell a1.out 1).trans rfl, ((HB.out.cell (World.block_lt_of_cell? w _ hw546_0)).trans hw546_0), ((HB.out.cell (World.block_lt_of_cell? w _ hw547_0)).trans hw547_0)⟩ (fun hHeld => ?_)
        clear hK K
        refine no_ (N := some 103) ?_
        refine pu_ (i := 21) (N := some 104) (bA 23 4194303) ?_
        refine last_ (i := 22) (N := none) (bA 23 8388607) rfl rfl (one_of HT_.out (by kernel_rfl)) (by decide) (fun K hK => ?_)
        have hs84 : _ := cz21 a5.out
        have hfs84 := blk_frozen a5.out 1
        have hns84_0 := b4.out
        have hns84_1 := b5.out
        have hns84_2 := b6.out
        have hms84_0 := d9.out
        have hms84_1 := e0.out
        have hms84_2 := e1.out
        refine skip_ (w1 := ?_) (by rfl) rfl ?_ ?_
        rotate_left
        ·
         go_simp
         rfl
        refine hK.out _ _ ?_
        clear hK K
        refine done_ (done_of HT_.out (by kernel_rfl)) ?_
        try go_wp2
        go_roundg k3
        case measure => have := h9.out; have := HK2.out; have := HK3.out; omega
        case rel => exact ⟨(wrap64 (b2 + 1)), (y543), (y548), (.slice e2 y543.length e3), (.slice g6 y548.length g7), zc_6, H', ⟨(by have := h9.out; have := HK2.out; have := HK3.out; omega)⟩, ⟨(by (with_reducible repeat (first | apply Kd.S_alloc | apply Kd.S_drewN | apply Kd.S_drew)); exact Kd.S_mono (Kd.S_far (p := ⟨b1, 1, none⟩) (Kd.S_types e4.out a5.out (by decide)) (fun _ hk => hk.2) (.slice g6 y548.length g7)) (fun _ hk => hk.1.2))⟩, ⟨(by (with_reducible repeat (first | apply Kd.R_alloc | apply Kd.R_drewN | apply Kd.R_drew)); exact Kd.R_mono (Kd.R_far (p := ⟨b1, 1, none⟩) (Kd.R_types f7.out a5.out (by decide)) (fun _ hk => hk.2) (.slice g6 y548.length g7)) (fun _ hk => trivial))⟩, ⟨zc_9⟩, ⟨zc_8⟩, ⟨zc_7⟩, ⟨(by (with_reducible repeat (first | refine blk_drewN ?_ _ | refine blk_drew ?_ | refine blk_alloc ?_ _)); refine blk_put (cs := #[.slice e2 y543.length e3, u533001]) ?_ 1 _ rfl; (with_reducible repeat (first | refine blk_drewN ?_ _ | refine blk_drew ?_ | refine blk_alloc ?_ _)); exact a5.out)⟩, ⟨zc_0⟩⟩
     simp only [Option.some.injEq, Prod.mk.injEq] at H
     obtain ⟨rfl, rfl, rfl⟩ := H
     have q9 := d9.out
     have s0 := b4.out
     have s1 := e0.out
     have s2 := b5.out
     have s3 := e1.out
     have s4 := b6.out
     have d0 := cz20 a5.out
     have d1 := cz21 a5.out
     have d2 := blk_frozen a5.out 0
     have d3 := blk_frozen a5.out 1
     obtain ⟨f0, f1, j2⟩ := Kd.S_slice a6.out
     subst j2
     have s5 := b9.out
     have s6 := b8.out
     have s7 := d5.out
     have s8 := d4.out
     have d0 := cz20 a3.out
     have d1 := cz21 a3.out
     have d2 := blk_frozen a3.out 0
     have d3 := blk_frozen a3.out 1
     obtain ⟨g8, g9, j3⟩ := Kd.R_slice a2.out
     subst j3
     go_wp2
     refine bodyPost_ret (results_ct rfl _ _ b0 29 #[.slice f0 a7.length f1, .slice g8 a4.length g9] (0, 0) _ rfl (by (with_reducible repeat (first | refine blk_drewN ?_ _ | refine blk_drew ?_ | refine blk_alloc ?_ _)); refine blk_put (cs := #[.slice f0 a7.length f1, .slice none 0 0]) ?_ 1 _ rfl; (with_reducible repeat (first | refine blk_drewN ?_ _ | refine blk_drew ?_ | refine blk_alloc ?_ _)); refine blk_put (cs := #[.slice none 0 0, .slice none 0 0]) ?_ 0 _ rfl; (with_reducible repeat (first | refine blk_drewN ?_ _ | refine blk_drew ?_ | refine blk_alloc ?_ _)); exact a3.out) Try.underlying29 rfl (by kernel_rfl)) rfl ?_
     exact ⟨_, _, (by first | rfl | (simp [errW_none, errW_some] <;> rfl) | (simp [*, errW_none, errW_some] <;> rfl)), (by (with_reducible repeat (first | apply Kd.S_alloc | apply Kd.S_drewN | apply Kd.S_drew)); exact Kd.S_mono (Kd.S_far (p := ⟨b0, 1, none⟩) (Kd.S_far (p := ⟨b0, 0, none⟩) (Kd.S_types a6.out a3.out (by decide)) (fun _ hk => hk.2) (.slice f0 a7.length f1)) (fun _ hk => hk.2) (.slice g8 a4.length g9)) (fun _ hk => hk.1)), (by (with_reducible repeat (first | apply Kd.R_alloc | apply Kd.R_drewN | apply Kd.R_drew)); exact Kd.R_mono (Kd.R_far (p := ⟨b0, 1, none⟩) (Kd.R_far (p := ⟨b0, 0, none⟩) (Kd.R_types a2.out a3.out (by decide)) (fun _ hk => hk.2) (.slice f0 a7.length f1)) (fun _ hk => hk.2) (.slice g8 a4.length g9)) (fun _ hk => trivial)), zc_0⟩

end Go.Proofs.Ytlkibgccgkhdmaa.P

namespace Go.Proofs.Ytlkibgccgkhdmaa.P
open Go.RowKit Go.Proofs.YtlkibgccgkhdmaaW.PrintWords Go.Proofs.YtlkibgccgkhdmaaW.PrintLast Go.Proofs.YtlkibgccgkhdmaaW.PrintMore
attribute [local go_sem] max2_int min2_int max_two min_two max_three min_three max_four min_four
set_option linter.unusedVariables false
set_option linter.unusedSimpArgs false
theorem zk_2 {p : Prop} (h : p := by first | rfl | (simp; done) | (simp [*]; done)) : p := h
theorem zk_1 {p : Prop} (h : p := by repeat (first | (with_reducible first | exact HB.out | apply below_alloc | apply pw_below_drewN | apply below_drew1) | exact HB.out)) : p := h
theorem zk_0 {p : Prop} (h : p := by repeat (first | (with_reducible first | exact HK.out | apply Kept.alloc | apply Kept.drewN | apply Kept.drew) | exact HK.out)) : p := h
set_option maxHeartbeats 8000000 in
set_option maxRecDepth 100000 in
theorem laws_markIntS.calls (k : Nat) (P0_ : Nat → Prop) (u9000_ : Value) (l0 : List Int) (a1 : Int) (r1 : Int) (r2 : List Int) (w0 w : World) (hB : Below w0.heap.size w0 w) (ho0 : Kd.R (Kd.int .i64) 3 w w0.heap.size P0_ u9000_ l0) (h : laws_markIntS.f k l0 a1 = some (r1, r2)) :
 Calls Try.prog 26 #[u9000_, .int .i64 a1] w fun e w' => e = .returned (.int .i64 r1) ∧ Kd.R (Kd.int .i64) 3 w' w0.heap.size (fun k_ => (P0_ k_ ∨ w.heap.size ≤ k_)) u9000_ r2 ∧ Below w0.heap.size w0 w' ∧ Kept w w' (fun k_ => P0_ k_) := by
 have a8 := ak (show Kd.R (Kd.int .i64) 3 w w0.heap.size (fun k_ => (P0_ k_ ∨ w.heap.size ≤ k_)) u9000_ l0 from Kd.R_mono ho0 (fun k_ hk => (.inl hk)))
 have HK := ak (Kept.refl w (fun k_ => P0_ k_))
 have HW0 := ak hB.size
 have HB := ak hB
 clear hB
 have H : (laws_markIntS.l0 k l0 a1 0) = some (r1, r2) := h
 clear h
 have H' := ak H
 clear H
 go_enter Try.func26, Try.ntmps26
 go_wp2
 go_loopg [1, 5] k (fun kq v1 v5 w' => ∃ (a4 : List Int) (a3 : Int) (a0 : Int), v1 = .int .i64 a3 ∧ v5 = .int .i64 a0 ∧ Aside0 (laws_markIntS.l0 kq a4 a3 a0 = some (r1, r2)) ∧ Aside0 (kq ≤ k) ∧ Aside0 (Kd.R (Kd.int .i64) 3 w' w0.heap.size (fun k_ => (P0_ k_ ∨ w.heap.size ≤ k_)) u9000_ a4) ∧ Aside0 (Kept w w' (fun k_ => P0_ k_)) ∧ Aside0 (Below w0.heap.size w0 w'))
 case atStart => exact ⟨(l0), (a1), (0), zk_2, zk_2, H', ⟨Nat.le_refl _⟩, ⟨(xR a8.out)⟩, ⟨zk_0⟩, ⟨zk_1⟩⟩
 case round =>
  clear H'
  obtain ⟨a4, a3, a0, rfl, rfl, HA, HK1, a2, HK, HB⟩ := hrel
  cases gk with
  | zero => exact absurd HA.out (by simp [laws_markIntS.l0])
  | succ k1 =>
   have H := HA.out
   clear HA
   simp only [laws_markIntS.l0] at H
   replace H := os_ H
   rcases H with ⟨a5, H⟩ | ⟨a5, H⟩
   ·
    replace H := od_ H
    obtain ⟨a9, H⟩ := H
    obtain ⟨y331, hy331⟩ : ∃ y_ : List Int, y_ = (a4.set (a0 : Int).toNat a3) := ⟨_, rfl⟩
    replace H : (laws_markIntS.l0 k1 y331 (wrap64 (a3 + 1)) (wrap64 (a0 + 1))) = some (r1, r2) := by first | (rw [hy331]; with_reducible exact H) | (have H2_ := (Option.bind_some _ _).symm.trans H; rw [hy331]; with_reducible exact H2_) | (have H2_ := (Option.bind_some _ _).symm.trans H; with_reducible exact H2_) | with_reducible exact H | (rw [hy331]; exact H) | exact H
    have Ny331 := ak hy331
    clear hy331
    have H' := ak H
    clear H
    obtain ⟨b3, b0, b1⟩ := Kd.R_slice a2.out
    subst b1
    have p5 : 0 ≤ (a0 : Int) := oa_
    have q5 : (a0 : Int) < ((a4.length : Int) : Int) := oa_
    obtain ⟨go5, b4, a6, a7, gl5, cl5, HG5⟩ := Kd.R_form a2.out (by omega)
    (first | cases a6 | (injection a6 with ea_ en_ ec_; (first | subst ea_ | (injection ea_ with ea_; subst ea_)); subst ec_; clear en_))
    have GB5 := ak a7
    have GG5 := ak HG5
    clear a7 gl5 HG5
    have HMgo5 := ak (show (P0_ go5 ∨ w.heap.size ≤ go5) from (a2.out.1 _ rfl))
    obtain ⟨hx5_0, hf5_0⟩ := Kd.R_celln 0 a2.out (a0 : Int) p5 q5
    replace p5 := eq_true p5
    replace q5 := eq_true q5
    have HP7 := Kd.R_putg a2.out (a0 : Int) a3
    go_wp2_with (first | ((with_reducible refine gate_store (t := 3) (p := 15) rfl ?_); refine store_event (t := 3) (p := 15) (v := ?vo_w8) (w1 := (wr.setCell ⟨go5, (a0 : Int).toNat, none⟩ (.int .i64 a3))) ?hg ?ho ?hn ?hr ?_; (case ho => rfl); (case hg => rfl); (case hn => rfl); (case hr => first | (go_simp; done) | (go_simp; rfl)); intro w8 hw; have hg : wr.grownBy w8 (some go5) := (by rw [hw]; exact HP7.2); have hp_ : Kd.R (Kd.int .i64) 3 w8 w0.heap.size (fun k_ => (P0_ k_ ∨ w.heap.size ≤ k_)) (.slice (some ⟨go5, 0, none⟩) a4.length b0) y331 := (by rw [hw, Ny331.out]; exact HP7.1); clear HP7; replace HB := ak ((by rw [hw]; exact below_set (HB.out) GB5.out : Below w0.heap.size w0 w8)); replace HK := ak (Kept.of_grown (S := (fun k_ => P0_ k_)) hg zk_0 (fun k_ e_ => (a2.out.1 k_ e_))); replace a2 := ak (hp_); clear hg hw hp_))
    go_roundg k1
    case measure => have := HK1.out; omega
    case rel => exact ⟨(y331), (wrap64 (a3 + 1)), (wrap64 (a0 + 1)), zk_2, zk_2, H', ⟨(by have := HK1.out; omega)⟩, ⟨(xR a2.out)⟩, ⟨zk_0⟩, ⟨zk_1⟩⟩
   simp only [Option.some.injEq, Prod.mk.injEq] at H
   obtain ⟨rfl, rfl⟩ := H
   obtain ⟨b5, b6, b2⟩ := Kd.R_slice a2.out
   subst b2
   go_wp2
   go_ret
   exact ⟨(by first | rfl | (simp [errW_none, errW_some] <;> rfl) | (simp [*, errW_none, errW_some] <;> rfl)), (xR a2.out), zk_1, zk_0⟩

end Go.Proofs.Ytlkibgccgkhdmaa.P

namespace Go.Proofs.Ytlkibgccgkhdmaa.P
open Go.RowKit Go.Proofs.YtlkibgccgkhdmaaW.PrintWords Go.Proofs.YtlkibgccgkhdmaaW.PrintLast Go.Proofs.YtlkibgccgkhdmaaW.PrintMore
attribute [local go_sem] max2_int min2_int max_two min_two max_three min_three max_four min_four
set_option linter.unusedVariables false
set_option linter.unusedSimpArgs false
set_option maxHeartbeats 8000000 in
set_option maxRecDepth 100000 in
theorem impl_isAnswer.calls (A0 : Option Addr) (c0 : Nat) (l0 : List (List Int)) (a1 : Int) (r : Bool) (w : World) (hr0 : Kd.C (Kd.slice 3 (Kd.int .i64)) w A0 l0.length l0) (hc0 : l0.length ≤ c0) (h : impl_isAnswer.f l0 a1 = some r) :
 Calls Try.prog 96 #[.slice A0 l0.length c0, .int .i64 a1] w fun e w' => e = .returned (.bool r) ∧ Drawn0 w w' := by
 have HR0 := ak hr0
 have a2 := ak hc0
 clear hr0 hc0
 have H : (if a1 ≥ 0 then (some (decide (a1 < (l0.length : Int)))) else (some false)) = some r := h
 clear h
 replace H := op_ H
 rcases H with ⟨c3, H⟩ | ⟨c3, H⟩
 ·
  have a0 : decide (0 ≤ a1) = true := dT_ c3
  clear c3
  obtain rfl := Option.some.inj H
  go_enter Try.func96, Try.ntmps96
  go_wp2
  go_ret
  exact ⟨(by first | rfl | (simp; done) | (simp [*]; done)), (by repeat (first | exact Drawn0.refl _ | apply Drawn0.step))⟩
 have a0 : decide (0 ≤ a1) = false := dF_ c3
 clear c3
 obtain rfl := Option.some.inj H
 go_enter Try.func96, Try.ntmps96
 go_wp2
 go_ret
 exact ⟨(by first | rfl | (simp; done) | (simp [*]; done)), (by repeat (first | exact Drawn0.refl _ | apply Drawn0.step))⟩

end Go.Proofs.Ytlkibgccgkhdmaa.P

namespace Go.Proofs.Ytlkibgccgkhdmaa.P
open Go.RowKit Go.Proofs.YtlkibgccgkhdmaaW.PrintWords Go.Proofs.YtlkibgccgkhdmaaW.PrintLast Go.Proofs.YtlkibgccgkhdmaaW.PrintMore
attribute [local go_sem] max2_int min2_int max_two min_two max_three min_three max_four min_four
set_option linter.unusedVariables false
set_option linter.unusedSimpArgs false
theorem zt_2 {p : Prop} (h : p := by have := HK1.out; have := b0.out; have := HK3.out; omega) : p := h
theorem zt_1 {p : Prop} (h : p := by repeat (first | exact Drawn0.refl _ | apply Drawn0.step)) : p := h
theorem zt_0 {p : Prop} (h : p := by first | rfl | (simp; done) | (simp [*]; done)) : p := h
set_option maxHeartbeats 8000000 in
set_option maxRecDepth 100000 in
theorem impl_meet.calls (k : Nat) (A0 : Option Addr) (c0 : Nat) (l0 : List (List Int)) (a1 : Int) (a2 : Int) (r : Int) (w : World) (hr0 : Kd.C (Kd.slice 3 (Kd.int .i64)) w A0 l0.length l0) (hc0 : l0.length ≤ c0) (h : impl_meet.f k l0 a1 a2 = some r) :
 Calls Try.prog 94 #[.slice A0 l0.length c0, .int .i64 a1, .int .i64 a2] w fun e w' => e = .returned (.int .i64 r) ∧ Drawn0 w w' := by
 have HR0 := ak hr0
 have g9 := ak hc0
 clear hr0 hc0
 have H : (impl_meet.l0 k l0 a1 a2 (l0.length : Int) 0) = some r := h
 clear h
 have H' := ak H
 clear H
 go_enter Try.func94, Try.ntmps94
 go_wp2
 go_loopg [12] k (fun kq f9 w' => ∃ (a0 : Int), f9 = .int .i64 a0 ∧ Aside0 (impl_meet.l0 kq l0 a1 a2 (l0.length : Int) a0 = some r) ∧ Aside0 (kq ≤ k) ∧ Drawn0 w w')
 case atStart => exact ⟨(0), zt_0, H', ⟨Nat.le_refl _⟩, zt_1⟩
 case round =>
  clear H'
  obtain ⟨a0, rfl, HA, HK1, ⟨m1, rfl⟩⟩ := hrel
  cases gk with
  | zero => exact absurd HA.out (by simp [impl_meet.l0])
  | succ k1 =>
   have H := HA.out
   clear HA
   simp only [impl_meet.l0] at H
   replace H := os_ H
   rcases H with ⟨b1, H⟩ | ⟨b1, H⟩
   ·
    have d9 := ak H
    clear H
    go_upto_region 4 with (fail)
    go_cut [32] (fun g0 wc => ∃ (kq : Nat) (a5 : Bool), g0 = .bool a5 ∧ Aside0 (impl_meet.j1 kq l0 a1 a2 a0 (l0.length : Int) a0 a5 = some r) ∧ Aside0 (kq ≤ k1) ∧ Drawn0 w wc)
    case first =>
     have H := d9.out
     clear d9
     replace H := od_ H
     obtain ⟨b7, H⟩ := H
     (first | rw [b7] | (simp only [i64_w, i32_w]; rw [b7]) | skip)
     replace H := od3 H
     obtain ⟨g1, g2, g3, H⟩ := H
     replace H := oe2 H
     rcases H with ⟨⟨-, b8, b9⟩, H⟩ | ⟨⟨h0, b8, b9⟩, H⟩
     ·
      have H' := ak H
      clear H
      obtain ⟨ad213, b2, b3, e213, hx213_0, a8, HR213_0, e0, q213⟩ := al_ HR0.out a0
      cases e213
      obtain ⟨ad214, e214, hx214_0, e1, q214⟩ := ai_ HR213_0.out a1
      cases e214
      go_wp2
      go_meet
      case rel => exact ⟨_, (true), zt_0, H', ⟨(by have := HK1.out; first | omega | exact Nat.le_refl _)⟩, zt_1⟩
     replace H := od2 H
     obtain ⟨e9, f0, H⟩ := H
     have H' := ak H
     clear H
     obtain ⟨ad213, b2, b3, e213, hx213_0, a8, HR213_0, e0, q213⟩ := al_ HR0.out a0
     cases e213
     obtain ⟨ad214, e214, hx214_0, e1, q214⟩ := ai_ HR213_0.out a1
     cases e214
     obtain ⟨ad215, e2, e3, e215, hx215_0, d7, HR215_0, g4, q215⟩ := al_ HR0.out a0
     obtain rfl := ij_ e215
     obtain ⟨rfl, rfl⟩ := is_ hx213_0 hx215_0
     obtain ⟨ad216, e216, hx216_0, g5, q216⟩ := ai_ HR215_0.out a2
     cases e216
     go_wp2
     go_meet
     case rel => exact ⟨_, (((rd (rd_L1 l0 a0) a2) == 0)), zt_0, H', ⟨(by have := HK1.out; first | omega | exact Nat.le_refl _)⟩, zt_1⟩
    case rest =>
     clear d9
     try clear c4
     try clear b1
     obtain ⟨kq, a5, rfl, HA, b0, ⟨mc4, rfl⟩⟩ := hcut
     cases kq with
     | zero => exact absurd HA.out (by simp [impl_meet.j1])
     | succ e4 =>
      have H := HA.out
      clear HA
      simp only [impl_meet.j1] at H
      replace H := ox_ H
      rcases H with ⟨rfl, H⟩ | ⟨rfl, H⟩
      ·
       have H' := ak H
       clear H
       go_wp2
       go_roundg e4
       case measure => have := HK1.out; have := b0.out; omega
       case rel => exact ⟨(wrap64 (a0 + 1)), zt_0, H', ⟨(by have := HK1.out; have := b0.out; omega)⟩, zt_1⟩
      have H' := ak H
      clear H
      go_wp2
      go_loopg [8, 35] e4 (fun kq v8 g6 w' => ∃ (b4 : Bool) (a3 : Int), v8 = .bool b4 ∧ g6 = .int .i64 a3 ∧ Aside0 (impl_meet.l1 kq l0 a1 a2 a0 b4 (l0.length : Int) a0 (l0.length : Int) a3 = some r) ∧ Aside0 (kq ≤ e4) ∧ Drawn0 w w')
      case atStart => exact ⟨(true), (0), zt_0, zt_0, H', ⟨Nat.le_refl _⟩, zt_1⟩
      case round =>
       clear H'
       try clear c4
       try clear b1
       try clear h1
       obtain ⟨b4, a3, rfl, rfl, HA, HK3, ⟨m3, rfl⟩⟩ := hrel
       cases gk with
       | zero => exact absurd HA.out (by simp [impl_meet.l1])
       | succ k3 =>
        have H := HA.out
        clear HA
        simp only [impl_meet.l1] at H
        replace H := os_ H
        rcases H with ⟨d0, H⟩ | ⟨d0, H⟩
        ·
         replace H := ox_ H
         rcases H with ⟨rfl, H⟩ | ⟨rfl, H⟩
         ·
          replace H := od4 H
          obtain ⟨f1, f2, f3, f4, H⟩ := H
          replace H := oe2 H
          rcases H with ⟨⟨-, d1, d2⟩, H⟩ | ⟨⟨h2, d1, d2⟩, H⟩
          ·
           have H' := ak H
           clear H
           obtain ⟨ad217, a6, a7, e217, hx217_0, a4, HR217_0, d3, q217⟩ := al_ HR0.out a3
           cases e217
           obtain ⟨ad218, e218, hx218_0, d4, q218⟩ := ai_ HR217_0.out a1
           cases e218
           go_wp2
           go_roundg k3
           case measure => have := HK1.out; have := b0.out; have := HK3.out; omega
           case rel => exact ⟨(true), (wrap64 (a3 + 1)), zt_0, zt_0, H', ⟨zt_2⟩, zt_1⟩
          replace H := od2 H
          obtain ⟨f5, f6, H⟩ := H
          replace H := oe2 H
          rcases H with ⟨⟨-, d5, d6⟩, H⟩ | ⟨⟨h3, d5, d6⟩, H⟩
          ·
           have H' := ak H
           clear H
           obtain ⟨ad217, a6, a7, e217, hx217_0, a4, HR217_0, d3, q217⟩ := al_ HR0.out a3
           cases e217
           obtain ⟨ad218, e218, hx218_0, d4, q218⟩ := ai_ HR217_0.out a1
           cases e218
           obtain ⟨ad219, b5, b6, e219, hx219_0, a9, HR219_0, e5, q219⟩ := al_ HR0.out a3
           obtain rfl := ij_ e219
           obtain ⟨rfl, rfl⟩ := is_ hx217_0 hx219_0
           obtain ⟨ad220, e220, hx220_0, e6, q220⟩ := ai_ HR219_0.out a2
           cases e220
           go_wp2
           go_roundg k3
           case measure => have := HK1.out; have := b0.out; have := HK3.out; omega
           case rel => exact ⟨(true), (wrap64 (a3 + 1)), zt_0, zt_0, H', ⟨zt_2⟩, zt_1⟩
          replace H := od2 H
          obtain ⟨f7, f8, H⟩ := H
          have H' := ak H
          clear H
          obtain ⟨ad217, a6, a7, e217, hx217_0, a4, HR217_0, d3, q217⟩ := al_ HR0.out a3
          cases e217
          obtain ⟨ad218, e218, hx218_0, d4, q218⟩ := ai_ HR217_0.out a1
          cases e218
          obtain ⟨ad219, b5, b6, e219, hx219_0, a9, HR219_0, e5, q219⟩ := al_ HR0.out a3
          obtain rfl := ij_ e219
          obtain ⟨rfl, rfl⟩ := is_ hx217_0 hx219_0
          obtain ⟨ad220, e220, hx220_0, e6, q220⟩ := ai_ HR219_0.out a2
          cases e220
          obtain ⟨ad221, e7, e8, e221, hx221_0, d8, HR221_0, g7, q221⟩ := al_ HR0.out a3
          obtain rfl := ij_ e221
          obtain ⟨rfl, rfl⟩ := is_ hx217_0 hx221_0
          obtain ⟨ad222, e222, hx222_0, g8, q222⟩ := ai_ HR221_0.out a0
          cases e222
          go_wp2
          go_roundg k3
          case measure => have := HK1.out; have := b0.out; have := HK3.out; omega
          case rel => exact ⟨(((rd (rd_L1 l0 a3) a0) == 1)), (wrap64 (a3 + 1)), zt_0, zt_0, H', ⟨zt_2⟩, zt_1⟩
         have H' := ak H
         clear H
         go_wp2
         go_roundg k3
         case measure => have := HK1.out; have := b0.out; have := HK3.out; omega
         case rel => exact ⟨(false), (wrap64 (a3 + 1)), zt_0, zt_0, H', ⟨zt_2⟩, zt_1⟩
        replace H := ox_ H
        rcases H with ⟨rfl, H⟩ | ⟨rfl, H⟩
        ·
         obtain rfl := Option.some.inj H
         go_wp2
         go_ret
         exact ⟨zt_0, zt_1⟩
        have H' := ak H
        clear H
        go_wp2
        go_roundg k3
        case measure => have := HK1.out; have := b0.out; have := HK3.out; omega
        case rel => exact ⟨(wrap64 (a0 + 1)), zt_0, H', ⟨zt_2⟩, zt_1⟩
   obtain rfl := Option.some.inj H
   go_wp2
   go_ret
   exact ⟨zt_0, zt_1⟩

end Go.Proofs.Ytlkibgccgkhdmaa.P

namespace Go.Proofs.Ytlkibgccgkhdmaa.P
open Go.RowKit Go.Proofs.YtlkibgccgkhdmaaW.PrintWords Go.Proofs.YtlkibgccgkhdmaaW.PrintLast Go.Proofs.YtlkibgccgkhdmaaW.PrintMore
attribute [local go_sem] max2_int min2_int max_two min_two max_three min_three max_four min_four
set_option linter.unusedVariables false
set_option linter.unusedSimpArgs false
theorem zu_3 {p : Prop} (h : p := by have := a9.out; have := HK2.out; have := d7.out; have := HK4.out; have := d3.out; omega) : p := h
theorem zu_2 {p : Prop} (h : p := by have := a9.out; have := HK2.out; have := HK3.out; have := HK4.out; have := HK5.out; omega) : p := h
theorem zu_1 {p : Prop} (h : p := by first | rfl | (simp; done) | (simp [*]; done)) : p := h
theorem zu_0 {p : Prop} (h : p := by repeat (first | exact Drawn0.refl _ | apply Drawn0.step)) : p := h
set_option maxHeartbeats 8000000 in
set_option maxRecDepth 100000 in
theorem impl_OrderOk.calls (k : Nat) (A0 : Option Addr) (c0 : Nat) (l0 : List (List Int)) (r : Bool) (w : World) (hr0 : Kd.C (Kd.slice 3 (Kd.int .i64)) w A0 l0.length l0) (hc0 : l0.length ≤ c0) (h : impl_OrderOk.f k l0 = some r) :
 Calls Try.prog 104 #[.slice A0 l0.length c0] w fun e w' => e = .returned (.bool r) ∧ Drawn0 w w' := by
 have HR0 := ak hr0
 have m8 := ak hc0
 clear hr0 hc0
 have H : (if (l0.length : Int) < 1 then (impl_OrderOk.j0 k l0 (l0.length : Int) true) else (impl_OrderOk.j0 k l0 (l0.length : Int) (decide ((l0.length : Int) > 12)))) = some r := h
 clear h
 have h4 := ak H
 clear H
 go_enter Try.func104, Try.ntmps104
 go_upto_region 2 with (fail)
 go_cut [18] (fun k8 wc => ∃ (kq : Nat) (b6 : Bool), k8 = .bool b6 ∧ Aside0 (impl_OrderOk.j0 kq l0 (l0.length : Int) b6 = some r) ∧ Aside0 (kq ≤ k) ∧ Drawn0 w wc)
 case first =>
  have H := h4.out
  clear h4
  replace H := op_ H
  rcases H with ⟨c3, H⟩ | ⟨c3, H⟩
  ·
   have b7 : decide ((l0.length : Int) < 1) = true := dT_ c3
   have h5 : decide (l0.length < 1) = true := dT_ (by omega)
   clear c3
   (first | rw [b7] | (simp only [i64_w, i32_w]; rw [b7]) | skip)
   have H' := ak H
   clear H
   go_wp2
   go_meet
   case rel => exact ⟨_, (true), zu_1, H', ⟨(by first | omega | exact Nat.le_refl _)⟩, zu_0⟩
  have b7 : decide ((l0.length : Int) < 1) = false := dF_ c3
  have h5 : decide (l0.length < 1) = false := dF_ (by omega)
  clear c3
  (first | rw [b7] | (simp only [i64_w, i32_w]; rw [b7]) | skip)
  have H' := ak H
  clear H
  go_wp2
  go_meet
  case rel => exact ⟨_, (decide ((l0.length : Int) > 12)), zu_1, H', ⟨(by first | omega | exact Nat.le_refl _)⟩, zu_0⟩
 case rest =>
  clear h4
  obtain ⟨kq, b6, rfl, HA, a9, ⟨mc1, rfl⟩⟩ := hcut
  cases kq with
  | zero => exact absurd HA.out (by simp [impl_OrderOk.j0])
  | succ i6 =>
   have H := HA.out
   clear HA
   simp only [impl_OrderOk.j0] at H
   replace H := ox_ H
   rcases H with ⟨rfl, H⟩ | ⟨rfl, H⟩
   ·
    obtain rfl := Option.some.inj H
    go_wp2
    go_ret
    exact ⟨zu_1, zu_0⟩
   have H' := ak H
   clear H
   go_wp2
   go_loopg [21] i6 (fun kq k9 w' => ∃ (a0 : Int), k9 = .int .i64 a0 ∧ Aside0 (impl_OrderOk.l0 kq l0 (l0.length : Int) l0 (l0.length : Int) a0 = some r) ∧ Aside0 (kq ≤ i6) ∧ Drawn0 w w')
   case atStart => exact ⟨(0), zu_1, H', ⟨Nat.le_refl _⟩, zu_0⟩
   case round =>
    clear H'
    try clear c4
    obtain ⟨a0, rfl, HA, HK2, ⟨m2, rfl⟩⟩ := hrel
    cases gk with
    | zero => exact absurd HA.out (by simp [impl_OrderOk.l0])
    | succ k2 =>
     have H := HA.out
     clear HA
     simp only [impl_OrderOk.l0] at H
     replace H := os_ H
     rcases H with ⟨b1, H⟩ | ⟨b1, H⟩
     ·
      replace H := od2 H
      obtain ⟨e0, e1, H⟩ := H
      have h6 := ak H
      clear H
      obtain ⟨ad223, h7, h8, e223, hx223_0, h3, HR223_0, e2, q223⟩ := al_ HR0.out a0
      cases e223
      go_upto_region 7 with (fail)
      go_cut [36] (fun l5 wc => ∃ (kq : Nat) (b8 : Bool), l5 = .bool b8 ∧ Aside0 (impl_OrderOk.j2 kq l0 (l0.length : Int) a0 (rd_L1 l0 a0) l0 (l0.length : Int) a0 b8 = some r) ∧ Aside0 (kq ≤ k2) ∧ Drawn0 w wc)
      case first =>
       have H := h6.out
       clear h6
       replace H := oe2 H
       rcases H with ⟨⟨c9, b9, h9⟩, H⟩ | ⟨⟨c9, b9, h9⟩, H⟩
       ·
        have i0 : ((rd_L1 l0 a0).length == l0.length) = true := by first | simpa using c9 | (simp at c9 ⊢; omega)
        clear c9
        (first | rw [b9] | (simp only [i64_w, i32_w]; rw [b9]) | skip)
        replace H := od_ H
        obtain ⟨i7, H⟩ := H
        have H' := ak H
        clear H
        obtain ⟨ad224, e224, hx224_0, l6, q224⟩ := ai_ HR223_0.out a0
        cases e224
        go_wp2
        go_meet
        case rel => exact ⟨_, (((rd (rd_L1 l0 a0) a0) != 1)), zu_1, H', ⟨(by have := a9.out; have := HK2.out; first | omega | exact Nat.le_refl _)⟩, zu_0⟩
       have i0 : ((rd_L1 l0 a0).length == l0.length) = false := by first | simpa using c9 | (simp at c9 ⊢; omega)
       (first | rw [b9] | (simp only [i64_w, i32_w]; rw [b9]) | skip)
       have H' := ak H
       clear H
       go_wp2
       go_meet
       case rel => exact ⟨_, (true), zu_1, H', ⟨(by have := a9.out; have := HK2.out; first | omega | exact Nat.le_refl _)⟩, zu_0⟩
      case rest =>
       clear h6
       try clear c4
       try clear c5
       try clear b1
       try clear c6
       try clear e0
       try clear c7
       try clear e1
       try clear hx223_0
       try clear e2
       try clear q223
       obtain ⟨kq, b8, rfl, HA, d7, ⟨mc7, rfl⟩⟩ := hcut
       cases kq with
       | zero => exact absurd HA.out (by simp [impl_OrderOk.j2])
       | succ i8 =>
        have H := HA.out
        clear HA
        simp only [impl_OrderOk.j2] at H
        replace H := ox_ H
        rcases H with ⟨rfl, H⟩ | ⟨rfl, H⟩
        ·
         obtain rfl := Option.some.inj H
         go_wp2
         go_ret
         exact ⟨zu_1, zu_0⟩
        have H' := ak H
        clear H
        go_wp2
        go_loopg [39] i8 (fun kq l7 w' => ∃ (a1 : Int), l7 = .int .i64 a1 ∧ Aside0 (impl_OrderOk.l1 kq l0 (l0.length : Int) a0 l0 (l0.length : Int) a0 (rd_L1 l0 a0) ((rd_L1 l0 a0).length : Int) a1 = some r) ∧ Aside0 (kq ≤ i8) ∧ Drawn0 w w')
        case atStart => exact ⟨(0), zu_1, H', ⟨Nat.le_refl _⟩, zu_0⟩
        case round =>
         clear H'
         try clear c4
         try clear c5
         try clear b1
         try clear c6
         try clear e0
         try clear c7
         try clear e1
         try clear l8
         try clear hx223_0
         try clear e2
         try clear q223
         obtain ⟨a1, rfl, HA, HK4, ⟨m4, rfl⟩⟩ := hrel
         cases gk with
         | zero => exact absurd HA.out (by simp [impl_OrderOk.l1])
         | succ k4 =>
          have H := HA.out
          clear HA
          simp only [impl_OrderOk.l1] at H
          replace H := os_ H
          rcases H with ⟨d8, H⟩ | ⟨d8, H⟩
          ·
           replace H := od2 H
           obtain ⟨f2, f3, H⟩ := H
           have e3 := ak H
           clear H
           obtain ⟨ad225, e225, hx225_0, i1, q225⟩ := ai_ HR223_0.out a1
           cases e225
           go_upto_region 12 with (fail)
           go_cut [49] (fun l9 wc => ∃ (kq : Nat) (b2 : Bool), l9 = .bool b2 ∧ Aside0 (impl_OrderOk.j4 kq l0 (l0.length : Int) a0 a1 (rd (rd_L1 l0 a0) a1) l0 (l0.length : Int) a0 (rd_L1 l0 a0) ((rd_L1 l0 a0).length : Int) a1 b2 = some r) ∧ Aside0 (kq ≤ k4) ∧ Drawn0 w wc)
           case first =>
            have H := e3.out
            clear e3
            replace H := oe2 H
            rcases H with ⟨⟨-, b0, f4⟩, H⟩ | ⟨⟨m9, b0, f4⟩, H⟩
            ·
             (first | rw [b0] | (simp only [i64_w, i32_w]; rw [b0]) | skip)
             have H' := ak H
             clear H
             go_wp2
             go_meet
             case rel => exact ⟨_, (false), zu_1, H', ⟨(by have := a9.out; have := HK2.out; have := d7.out; have := HK4.out; first | omega | exact Nat.le_refl _)⟩, zu_0⟩
            (first | rw [b0] | (simp only [i64_w, i32_w]; rw [b0]) | skip)
            have H' := ak H
            clear H
            go_wp2
            go_meet
            case rel => exact ⟨_, (((rd (rd_L1 l0 a0) a1) != 1)), zu_1, H', ⟨(by have := a9.out; have := HK2.out; have := d7.out; have := HK4.out; first | omega | exact Nat.le_refl _)⟩, zu_0⟩
           case rest =>
            clear e3
            try clear c4
            try clear c5
            try clear b1
            try clear c6
            try clear e0
            try clear c7
            try clear e1
            try clear l8
            try clear n0
            try clear d8
            try clear n1
            try clear f2
            try clear n2
            try clear f3
            try clear hx223_0
            try clear hx225_0
            try clear e2
            try clear i1
            try clear q223
            try clear q225
            obtain ⟨kq, b2, rfl, HA, d3, ⟨mc14, rfl⟩⟩ := hcut
            cases kq with
            | zero => exact absurd HA.out (by simp [impl_OrderOk.j4])
            | succ e4 =>
             have H := HA.out
             clear HA
             simp only [impl_OrderOk.j4] at H
             replace H := ox_ H
             rcases H with ⟨rfl, H⟩ | ⟨rfl, H⟩
             ·
              obtain rfl := Option.some.inj H
              go_wp2
              go_ret
              exact ⟨zu_1, zu_0⟩
             replace H := od2 H
             obtain ⟨i9, j1, H⟩ := H
             replace H := oe2 H
             rcases H with ⟨⟨f1, f5, f6⟩, H⟩ | ⟨⟨f1, f5, f6⟩, H⟩
             ·
              have f7 : ((rd_L1 l0 a1).length == l0.length) = true := by first | simpa using f1 | (simp at f1 ⊢; omega)
              clear f1
              replace H := oe2 H
              rcases H with ⟨⟨-, f8, f9⟩, H⟩ | ⟨⟨n3, f8, f9⟩, H⟩
              ·
               replace H := oe2 H
               rcases H with ⟨⟨-, g0, g1⟩, H⟩ | ⟨⟨n4, g0, g1⟩, H⟩
               ·
                have H' := ak H
                clear H
                obtain ⟨ad226, a6, a7, e226, hx226_0, a5, HR226_0, d4, q226⟩ := al_ HR0.out a1
                obtain rfl := ij_ e226
                go_wp2
                go_roundg e4
                case measure => have := a9.out; have := HK2.out; have := d7.out; have := HK4.out; have := d3.out; omega
                case rel => exact ⟨(wrap64 (a1 + 1)), zu_1, H', ⟨zu_3⟩, zu_0⟩
               replace H := od2 H
               obtain ⟨j3, j5, H⟩ := H
               replace H := oe2 H
               rcases H with ⟨⟨-, g2, g3⟩, H⟩ | ⟨⟨n5, g2, g3⟩, H⟩
               ·
                obtain rfl := Option.some.inj H
                obtain ⟨ad226, a6, a7, e226, hx226_0, a5, HR226_0, d4, q226⟩ := al_ HR0.out a1
                obtain rfl := ij_ e226
                obtain ⟨ad227, e5, e6, e227, hx227_0, d5, HR227_0, i2, q227⟩ := al_ HR0.out a1
                obtain rfl := ij_ e227
                obtain ⟨rfl, rfl⟩ := is_ hx226_0 hx227_0
                obtain ⟨ad228, e228, hx228_0, i3, q228⟩ := ai_ HR227_0.out a0
                cases e228
                go_wp2
                go_ret
                exact ⟨zu_1, zu_0⟩
               have H' := ak H
               clear H
               obtain ⟨ad226, a6, a7, e226, hx226_0, a5, HR226_0, d4, q226⟩ := al_ HR0.out a1
               obtain rfl := ij_ e226
               obtain ⟨ad227, e5, e6, e227, hx227_0, d5, HR227_0, i2, q227⟩ := al_ HR0.out a1
               obtain rfl := ij_ e227
               obtain ⟨rfl, rfl⟩ := is_ hx226_0 hx227_0
               obtain ⟨ad228, e228, hx228_0, i3, q228⟩ := ai_ HR227_0.out a0
               cases e228
               go_wp2
               go_roundg e4
               case measure => have := a9.out; have := HK2.out; have := d7.out; have := HK4.out; have := d3.out; omega
               case rel => exact ⟨(wrap64 (a1 + 1)), zu_1, H', ⟨zu_3⟩, zu_0⟩
              have H' := ak H
              clear H
              obtain ⟨ad226, a6, a7, e226, hx226_0, a5, HR226_0, d4, q226⟩ := al_ HR0.out a1
              obtain rfl := ij_ e226
              go_wp2
              go_roundg e4
              case measure => have := a9.out; have := HK2.out; have := d7.out; have := HK4.out; have := d3.out; omega
              case rel => exact ⟨(wrap64 (a1 + 1)), zu_1, H', ⟨zu_3⟩, zu_0⟩
             have f7 : ((rd_L1 l0 a1).length == l0.length) = false := by first | simpa using f1 | (simp at f1 ⊢; omega)
             obtain rfl := Option.some.inj H
             obtain ⟨ad226, a6, a7, e226, hx226_0, a5, HR226_0, d4, q226⟩ := al_ HR0.out a1
             obtain rfl := ij_ e226
             go_wp2
             go_ret
             exact ⟨zu_1, zu_0⟩
          have H' := ak H
          clear H
          go_wp2
          go_roundg k4
          case measure => have := a9.out; have := HK2.out; have := d7.out; have := HK4.out; omega
          case rel => exact ⟨(wrap64 (a0 + 1)), zu_1, H', ⟨(by have := a9.out; have := HK2.out; have := d7.out; have := HK4.out; omega)⟩, zu_0⟩
     have H' := ak H
     clear H
     go_wp2
     go_loopg [79] k2 (fun kq m0 w' => ∃ (a2 : Int), m0 = .int .i64 a2 ∧ Aside0 (impl_OrderOk.l2 kq l0 (l0.length : Int) (l0.length : Int) a2 = some r) ∧ Aside0 (kq ≤ k2) ∧ Drawn0 w w')
     case atStart => exact ⟨(0), zu_1, H', ⟨Nat.le_refl _⟩, zu_0⟩
     case round =>
      clear H'
      try clear c4
      try clear c5
      try clear b1
      obtain ⟨a2, rfl, HA, HK3, ⟨m3, rfl⟩⟩ := hrel
      cases gk with
      | zero => exact absurd HA.out (by simp [impl_OrderOk.l2])
      | succ k3 =>
       have H := HA.out
       clear HA
       simp only [impl_OrderOk.l2] at H
       replace H := os_ H
       rcases H with ⟨d0, H⟩ | ⟨d0, H⟩
       ·
        have H' := ak H
        clear H
        go_wp2
        go_loopg [83] k3 (fun kq m1 w' => ∃ (a3 : Int), m1 = .int .i64 a3 ∧ Aside0 (impl_OrderOk.l3 kq l0 (l0.length : Int) a2 (l0.length : Int) a2 (l0.length : Int) a3 = some r) ∧ Aside0 (kq ≤ k3) ∧ Drawn0 w w')
        case atStart => exact ⟨(0), zu_1, H', ⟨Nat.le_refl _⟩, zu_0⟩
        case round =>
         clear H'
         try clear c4
         try clear c5
         try clear b1
         try clear m6
         try clear d0
         obtain ⟨a3, rfl, HA, HK4, ⟨m4, rfl⟩⟩ := hrel
         cases gk with
         | zero => exact absurd HA.out (by simp [impl_OrderOk.l3])
         | succ k4 =>
          have H := HA.out
          clear HA
          simp only [impl_OrderOk.l3] at H
          replace H := os_ H
          rcases H with ⟨d9, H⟩ | ⟨d9, H⟩
          ·
           have H' := ak H
           clear H
           go_wp2
           go_loopg [87] k4 (fun kq m7 w' => ∃ (a4 : Int), m7 = .int .i64 a4 ∧ Aside0 (impl_OrderOk.l4 kq l0 (l0.length : Int) a2 a3 (l0.length : Int) a2 (l0.length : Int) a3 (l0.length : Int) a4 = some r) ∧ Aside0 (kq ≤ k4) ∧ Drawn0 w w')
           case atStart => exact ⟨(0), zu_1, H', ⟨Nat.le_refl _⟩, zu_0⟩
           case round =>
            clear H'
            try clear c4
            try clear c5
            try clear b1
            try clear m6
            try clear d0
            try clear n6
            try clear d9
            obtain ⟨a4, rfl, HA, HK5, ⟨m5, rfl⟩⟩ := hrel
            cases gk with
            | zero => exact absurd HA.out (by simp [impl_OrderOk.l4])
            | succ k5 =>
             have H := HA.out
             clear HA
             simp only [impl_OrderOk.l4] at H
             replace H := os_ H
             rcases H with ⟨g4, H⟩ | ⟨g4, H⟩
             ·
              replace H := od4 H
              obtain ⟨j6, j7, j8, j9, H⟩ := H
              replace H := oe2 H
              rcases H with ⟨⟨-, g5, g6⟩, H⟩ | ⟨⟨n7, g5, g6⟩, H⟩
              ·
               replace H := od3 H
               obtain ⟨k0, k1, k6, H⟩ := H
               replace H := oe2 H
               rcases H with ⟨⟨-, g7, g8⟩, H⟩ | ⟨⟨n8, g7, g8⟩, H⟩
               ·
                replace H := od_ H
                obtain ⟨k7, H⟩ := H
                replace H := oe2 H
                rcases H with ⟨⟨-, g9, h0⟩, H⟩ | ⟨⟨n9, g9, h0⟩, H⟩
                ·
                 have H' := ak H
                 clear H
                 obtain ⟨ad229, b3, b4, e229, hx229_0, a8, HR229_0, e7, q229⟩ := al_ HR0.out a2
                 cases e229
                 obtain ⟨ad230, e230, hx230_0, e8, q230⟩ := ai_ HR229_0.out a3
                 cases e230
                 obtain ⟨ad231, d1, d2, e231, hx231_0, b5, HR231_0, h1, q231⟩ := al_ HR0.out a3
                 obtain rfl := ij_ e231
                 obtain ⟨ad232, e232, hx232_0, h2, q232⟩ := ai_ HR231_0.out a4
                 cases e232
                 obtain ⟨ad233, e9, f0, e233, hx233_0, d6, HR233_0, i4, q233⟩ := al_ HR0.out a2
                 obtain rfl := ij_ e233
                 obtain ⟨rfl, rfl⟩ := is_ hx229_0 hx233_0
                 obtain ⟨ad234, e234, hx234_0, i5, q234⟩ := ai_ HR233_0.out a4
                 cases e234
                 go_wp2
                 go_roundg k5
                 case measure => have := a9.out; have := HK2.out; have := HK3.out; have := HK4.out; have := HK5.out; omega
                 case rel => exact ⟨(wrap64 (a4 + 1)), zu_1, H', ⟨zu_2⟩, zu_0⟩
                obtain rfl := Option.some.inj H
                obtain ⟨ad229, b3, b4, e229, hx229_0, a8, HR229_0, e7, q229⟩ := al_ HR0.out a2
                cases e229
                obtain ⟨ad230, e230, hx230_0, e8, q230⟩ := ai_ HR229_0.out a3
                cases e230
                obtain ⟨ad231, d1, d2, e231, hx231_0, b5, HR231_0, h1, q231⟩ := al_ HR0.out a3
                obtain rfl := ij_ e231
                obtain ⟨ad232, e232, hx232_0, h2, q232⟩ := ai_ HR231_0.out a4
                cases e232
                obtain ⟨ad233, e9, f0, e233, hx233_0, d6, HR233_0, i4, q233⟩ := al_ HR0.out a2
                obtain rfl := ij_ e233
                obtain ⟨rfl, rfl⟩ := is_ hx229_0 hx233_0
                obtain ⟨ad234, e234, hx234_0, i5, q234⟩ := ai_ HR233_0.out a4
                cases e234
                go_wp2
                go_ret
                exact ⟨zu_1, zu_0⟩
               have H' := ak H
               clear H
               obtain ⟨ad229, b3, b4, e229, hx229_0, a8, HR229_0, e7, q229⟩ := al_ HR0.out a2
               cases e229
               obtain ⟨ad230, e230, hx230_0, e8, q230⟩ := ai_ HR229_0.out a3
               cases e230
               obtain ⟨ad231, d1, d2, e231, hx231_0, b5, HR231_0, h1, q231⟩ := al_ HR0.out a3
               obtain rfl := ij_ e231
               obtain ⟨ad232, e232, hx232_0, h2, q232⟩ := ai_ HR231_0.out a4
               cases e232
               go_wp2
               go_roundg k5
               case measure => have := a9.out; have := HK2.out; have := HK3.out; have := HK4.out; have := HK5.out; omega
               case rel => exact ⟨(wrap64 (a4 + 1)), zu_1, H', ⟨zu_2⟩, zu_0⟩
              have H' := ak H
              clear H
              obtain ⟨ad229, b3, b4, e229, hx229_0, a8, HR229_0, e7, q229⟩ := al_ HR0.out a2
              cases e229
              obtain ⟨ad230, e230, hx230_0, e8, q230⟩ := ai_ HR229_0.out a3
              cases e230
              go_wp2
              go_roundg k5
              case measure => have := a9.out; have := HK2.out; have := HK3.out; have := HK4.out; have := HK5.out; omega
              case rel => exact ⟨(wrap64 (a4 + 1)), zu_1, H', ⟨zu_2⟩, zu_0⟩
             have H' := ak H
             clear H
             go_wp2
             go_roundg k5
             case measure => have := a9.out; have := HK2.out; have := HK3.out; have := HK4.out; have := HK5.out; omega
             case rel => exact ⟨(wrap64 (a3 + 1)), zu_1, H', ⟨zu_2⟩, zu_0⟩
          have H' := ak H
          clear H
          go_wp2
          go_roundg k4
          case measure => have := a9.out; have := HK2.out; have := HK3.out; have := HK4.out; omega
          case rel => exact ⟨(wrap64 (a2 + 1)), zu_1, H', ⟨(by have := a9.out; have := HK2.out; have := HK3.out; have := HK4.out; omega)⟩, zu_0⟩
       obtain rfl := Option.some.inj H
       go_wp2
       go_ret
       exact ⟨zu_1, zu_0⟩

end Go.Proofs.Ytlkibgccgkhdmaa.P

namespace Go.Proofs.Ytlkibgccgkhdmaa.P
open Go.RowKit Go.Proofs.YtlkibgccgkhdmaaW.PrintWords Go.Proofs.YtlkibgccgkhdmaaW.PrintLast Go.Proofs.YtlkibgccgkhdmaaW.PrintMore
attribute [local go_sem] max2_int min2_int max_two min_two max_three min_three max_four min_four
set_option linter.unusedVariables false
set_option linter.unusedSimpArgs false
def impl_turned.T9 : Bool × List (List Nat × List Nat) := (true, [([], []), ([], []), ([0, 1], [0, 1]), ([2], [2]), ([], []), ([], []), ([], []), ([5, 6], [5, 6]), ([7], [7]), ([], []), ([8, 9], [8, 9]), ([10], [10]), ([3, 4, 0, 1, 2, 3, 4, 5, 6, 7, 8, 9, 10, 11], [3, 4]), ([12, 11, 0, 1, 2, 3, 4, 5, 6, 7, 8, 9, 10, 11], [11, 12])])
def impl_turned.B9 : List Nat := [0, 0, 3, 7, 0, 0, 0, 96, 224, 0, 992, 2016, 4095, 8191]
theorem impl_turned.tab9 : rtab .any (opsOf Try.f93 9) = impl_turned.T9 := by kernel_rfl
theorem impl_turned.bits9 : waitsOk impl_turned.T9.2 impl_turned.B9 = true := by kernel_rfl
theorem zv_1 {p : Prop} (h : p := by first | rfl | (simp; done) | (simp [*]; done)) : p := h
theorem zv_0 {p : Prop} (h : p := by repeat (first | (with_reducible first | exact HB.out | apply below_alloc | apply pw_below_drewN | apply below_drew1) | exact HB.out)) : p := h
set_option maxHeartbeats 8000000 in
set_option maxRecDepth 100000 in
theorem impl_turned.calls (k : Nat) (A0 : Option Addr) (c0 : Nat) (l0 : List (List Int)) (r : List (List Int)) (w : World) (hr0 : Kd.C (Kd.slice 3 (Kd.int .i64)) w A0 l0.length l0) (hc0 : l0.length ≤ c0) (h : impl_turned.f k l0 = some r) :
 Calls Try.prog 93 #[.slice A0 l0.length c0] w fun e w' => ∃ v0_ : Value, e = .returned (v0_) ∧ Kd.S (Kd.slice 3 (Kd.int .i64)) 23 w' w.heap.size (fun _ => True) v0_ r ∧ Below w.heap.size w w' := by
 have HR0 := ak hr0
 have f8 := ak hc0
 clear hr0 hc0
 have HB := ak (Below.refl w.heap.size w)
 have H : (if 0 ≤ (l0.length : Int) then (if ((l0.length : Int) : Int).toNat ≤ 11728124029610 then (impl_turned.l0 k l0 (List.replicate ((l0.length : Int) : Int).toNat []) (l0.length : Int) 0) else (none)) else (none)) = some r := h
 clear h
 replace H := ok_ H
 obtain ⟨c2, H⟩ := H
 have b3 := eq_true c2
 have b4 : decide (0 ≤ (l0.length : Int)) = true := dT_ c2
 clear c2
 replace H := ok_ H
 obtain ⟨c3, H⟩ := H
 have b5 := eq_true c3
 have b6 : decide (((l0.length : Int) : Int).toNat ≤ 11728124029610) = true := dT_ c3
 clear c3
 obtain ⟨y200, hy200⟩ : ∃ y_ : List (List Int), y_ = (List.replicate ((l0.length : Int) : Int).toNat []) := ⟨_, rfl⟩
 replace H : (impl_turned.l0 k l0 y200 (l0.length : Int) 0) = some r := by first | (rw [hy200]; with_reducible exact H) | (have H2_ := (Option.bind_some _ _).symm.trans H; rw [hy200]; with_reducible exact H2_) | (have H2_ := (Option.bind_some _ _).symm.trans H; with_reducible exact H2_) | with_reducible exact H | (rw [hy200]; exact H) | exact H
 have Ny200 := ak hy200
 clear hy200
 have H' := ak H
 clear H
 go_enter Try.func93, Try.ntmps93
 go_wp2_with (first | ((with_reducible refine gate_dst (N := 8) rfl ?_); refine Kd.S_make (Kd.slice 3 (Kd.int .i64)) _ 23 rfl (N := 8) rfl 22 _ _ rfl (l0.length : Int) rfl rfl Try.underlying22 (.slice none 0 0) 24 info23 rfl (by decide) (by omega) [] (ok := fun _ => True) (okp := fun _ => True) ⟨_, rfl, Kd.R_nil _ _ _ _ _⟩ (fun _ hk => hk) trivial (oa_) (Nat.le_trans (Nat.mul_le_mul_right _ (oa_ : (l0.length : Int).toNat ≤ 11728124029610)) (by omega)) (Below.refl _ _) (Nat.le_refl _) ?_; intro d8 w4 ho5 hb hg_ hnew_; clear hg_ hnew_; (first | rw [← Ny200.out] at ho5 | (simp only [Int.reduceToNat] at ho5; rw [← Ny200.out] at ho5)); have b7 := ak (Kd.S_lower ho5 (below_size zv_0)); replace HB := ak (below_step zv_0 hb); clear hb ho5))
 go_loopg [11] k (fun kq f5 w' => ∃ (a4 : List (List Int)) (a0 : Int), f5 = .int .i64 a0 ∧ Aside0 (impl_turned.l0 kq l0 a4 (l0.length : Int) a0 = some r) ∧ Aside0 (kq ≤ k) ∧ Aside0 (Kd.S (Kd.slice 3 (Kd.int .i64)) 23 w' w.heap.size (fun _ => True) d8 a4) ∧ Aside0 (Below w.heap.size w w'))
 case atStart => exact ⟨(y200), (0), zv_1, H', ⟨Nat.le_refl _⟩, ⟨(xS b7.out)⟩, ⟨zv_0⟩⟩
 case round =>
  clear H'
  try clear c2
  try clear b3
  try clear b4
  try clear c3
  try clear b5
  try clear b6
  obtain ⟨a4, a0, rfl, HA, HK1, a2, HB⟩ := hrel
  cases gk with
  | zero => exact absurd HA.out (by simp [impl_turned.l0])
  | succ k1 =>
   have H := HA.out
   clear HA
   simp only [impl_turned.l0] at H
   replace H := os_ H
   rcases H with ⟨b8, H⟩ | ⟨b8, H⟩
   ·
    replace H := ok_ H
    obtain ⟨c7, H⟩ := H
    have d9 := eq_true c7
    have e0 : decide (0 ≤ (l0.length : Int)) = true := dT_ c7
    clear c7
    replace H := ok_ H
    obtain ⟨c8, H⟩ := H
    have e1 := eq_true c8
    have e2 : decide (((l0.length : Int) : Int).toNat ≤ 35184372088832) = true := dT_ c8
    clear c8
    obtain ⟨y203, hy203⟩ : ∃ y_ : List Int, y_ = (List.replicate ((l0.length : Int) : Int).toNat 0) := ⟨_, rfl⟩
    replace H : (if 0 ≤ a0 then (if a0 < (a4.length : Int) then (impl_turned.l1 k1 l0 (a4.set (a0 : Int).toNat y203) a0 (l0.length : Int) a0 (l0.length : Int) 0) else (none)) else (none)) = some r := by first | (rw [hy203]; with_reducible exact H) | (have H2_ := (Option.bind_some _ _).symm.trans H; rw [hy203]; with_reducible exact H2_) | (have H2_ := (Option.bind_some _ _).symm.trans H; with_reducible exact H2_) | with_reducible exact H | (rw [hy203]; exact H) | exact H
    have Ny203 := ak hy203
    clear hy203
    replace H := od2 H
    obtain ⟨e3, b9, H⟩ := H
    obtain ⟨y206, hy206⟩ : ∃ y_ : List (List Int), y_ = (a4.set (a0 : Int).toNat y203) := ⟨_, rfl⟩
    replace H : (impl_turned.l1 k1 l0 y206 a0 (l0.length : Int) a0 (l0.length : Int) 0) = some r := by first | (rw [hy206]; with_reducible exact H) | (have H2_ := (Option.bind_some _ _).symm.trans H; rw [hy206]; with_reducible exact H2_) | (have H2_ := (Option.bind_some _ _).symm.trans H; with_reducible exact H2_) | with_reducible exact H | (rw [hy206]; exact H) | exact H
    have Ny206 := ak hy206
    clear hy206
    have H' := ak H
    clear H
    go_wp2_with (first | ((with_reducible refine gate_dst (N := 18) rfl ?_); refine Kd.R_make (Kd.int .i64) _ 3 rfl (N := 18) rfl 23 _ _ rfl (l0.length : Int) rfl rfl Try.underlying23 (.int .i64 0) 8 info3 rfl (by decide) (by omega) 0 (ok := fun _ => True) (okp := fun _ => True) rfl (fun _ hk => hk) trivial (oa_) (Nat.le_trans (Nat.mul_le_mul_right _ (oa_ : (l0.length : Int).toNat ≤ 35184372088832)) (by omega)) (Below.refl _ _) (Nat.le_refl _) ?_; intro a6 e4 ho13 hb hg_ hnew_; clear hg_ hnew_; (first | rw [← Ny203.out] at ho13 | (simp only [Int.reduceToNat] at ho13; rw [← Ny203.out] at ho13)); replace a2 := ak (Kd.S_elder' (xS a2.out) (Kd.R_base ho13) hb); have a5 := ak (Kd.R_lower ho13 (below_size zv_0)); replace HB := ak (below_step zv_0 hb); clear hb ho13; have d5 : 0 ≤ (a0 : Int) := oa_; have q11 : (a0 : Int) < ((a4.length : Int) : Int) := oa_; obtain ⟨go11, a8, d0, d1, gl11, cl11, HG11⟩ := Kd.S_form a2.out (by omega); (first | cases d0 | (injection d0 with ea_ en_ ec_; (first | subst ea_ | (injection ea_ with ea_; subst ea_)); subst ec_; clear en_)); have GB11 := ak d1; have GG11 := ak HG11; clear d1 gl11 HG11; obtain ⟨_, ce11, hcl11, hM11, hcc11, hfr11, _, _⟩ := Kd.S_elem a2.out [] (a0 : Int) d5 q11; obtain ⟨ve11_0, rfl, ge11_0⟩ := hM11; have hx11_0 := hcc11 0 _ rfl; have hf11_0 := hfr11 0; (try simp only [show ((Kd.slice 3 (Kd.int .i64))).sz = 1 from rfl, Nat.mul_one, Nat.add_zero] at hx11_0); (try simp only [show ((Kd.slice 3 (Kd.int .i64))).sz = 1 from rfl, Nat.mul_one, Nat.add_zero] at hf11_0); clear hcl11 hcc11 hfr11; (try clear hM11); replace d5 := eq_true d5; replace q11 := eq_true q11; have n_ := ak (Kd.S_mono (ok' := (fun k_ => some k_ ≠ (a6 : Value).ownBlock)) a2.out (fun k_ hk => hk.2)); clear a2; have a2 := n_; clear n_; have HX14 := ak (show Kd.S (Kd.slice 3 (Kd.int .i64)) 23 e4 w.heap.size (fun k_ => ((fun _ => True)) k_ ∧ ¬ ((fun k_ => some k_ = (a6 : Value).ownBlock)) k_) (.slice (some ⟨go11, 0, none⟩) a4.length a8) a4 from (by (with_reducible repeat (first | apply Kd.S_alloc | apply Kd.S_drewN | apply Kd.S_drew)); exact Kd.S_mono a2.out (fun k_ hk => ⟨trivial, fun e_ => hk e_⟩))); obtain ⟨oki14, ce14, hcl14, hM14, hcc14, hfr14, hoki14, hH14⟩ := Kd.S_elem HX14.out [] (a0 : Int) (oa_) (by have h_ : (a0 : Int) < ((a4.length : Int) : Int) := oa_; first | exact h_ | (have e_ := (Kd.S_reads' a2.out).1; omega) | simpa using h_); obtain ⟨ve14_0, rfl, ge14_0⟩ := hM14; have HP14 := Kd.S_seg hH14 (oa_) (by have h_ : (a0 : Int) < ((a4.length : Int) : Int) := oa_; first | exact h_ | (have e_ := (Kd.S_reads' a2.out).1; omega) | simpa using h_) (seg := [a6]) (j := 0) (show 1 ≤ 1 from by decide) (x' := y203) (Kd.M_row (Kd.R_mono (Kd.R_tight rfl (Kd.R_mono (ok' := fun k_ => ((fun _ => True)) k_ ∧ k_ ≠ go11) (Kd.R_apart' (a5.out) (Kd.S_typed a2.out) (by decide)) (fun k_ hk => ⟨trivial, fun e_ => (hk.2) (by rw [e_]; rfl)⟩))) (fun _ h_ => Or.inr (h_)))) (fun _ hk => hk) (fun k_ hk_ => ((Kd.R_mono (ok' := fun k_ => ((fun _ => True)) k_ ∧ k_ ≠ go11) (Kd.R_apart' (a5.out) (Kd.S_typed a2.out) (by decide)) (fun k_ hk => ⟨trivial, fun e_ => (hk.2) (by rw [e_]; rfl)⟩))).1 k_ hk_.symm); have hx14_0 := hcc14 0 _ rfl; (try simp only [show ((Kd.slice 3 (Kd.int .i64))).sz = 1 from rfl, Nat.mul_one, Nat.add_zero] at hx14_0); have hf14_0 := hfr14 0; (try simp only [show ((Kd.slice 3 (Kd.int .i64))).sz = 1 from rfl, Nat.mul_one, Nat.add_zero] at hf14_0); clear hcl14 hcc14 hfr14 hoki14 hH14; (try clear hM14); (try simp only [show ((Kd.slice 3 (Kd.int .i64))).sz = 1 from rfl, Nat.mul_one, Nat.add_zero] at HP14)) | ((with_reducible refine gate_store (t := 23) (p := 19) rfl ?_); refine store_event (t := 23) (p := 19) (v := ?vo_w15) (w1 := (e4.setCell ⟨go11, (a0 : Int).toNat, none⟩ (a6))) ?hg ?ho ?hn ?hr ?_; (case ho => rfl); (case hg => rfl); (case hn => rfl); (case hr => first | (go_simp; done) | (go_simp; rfl) | (obtain ⟨_, _, e_⟩ := Kd.R_slice a5.out; rw [e_]; first | (go_simp; done) | (go_simp; rfl))); intro e5 hw; have hg : e4.grownBy e5 (some go11) := (by rw [hw]; exact HP14.2); have hp_ : Kd.S (Kd.slice 3 (Kd.int .i64)) 23 e5 w.heap.size (fun _ => True) (.slice (some ⟨go11, 0, none⟩) a4.length a8) y206 := (by rw [hw, Ny206.out]; exact HP14.1); clear HP14; replace a2 := ak (hp_); replace HB := ak ((by rw [hw]; exact below_set (HB.out) GB11.out : Below w.heap.size w e5)); clear a5; clear hg hw hp_))
    go_loopg [22] k1 (fun kq f6 w' => ∃ (a3 : List (List Int)) (a1 : Int), f6 = .int .i64 a1 ∧ Aside0 (impl_turned.l1 kq l0 a3 a0 (l0.length : Int) a0 (l0.length : Int) a1 = some r) ∧ Aside0 (kq ≤ k1) ∧ Aside0 (Kd.S (Kd.slice 3 (Kd.int .i64)) 23 w' w.heap.size (fun _ => True) (.slice (some ⟨go11, 0, none⟩) a4.length a8) a3) ∧ Aside0 (Below w.heap.size w w'))
    case atStart => exact ⟨(y206), (0), zv_1, H', ⟨Nat.le_refl _⟩, ⟨(xS a2.out)⟩, ⟨zv_0⟩⟩
    case round =>
     clear H'
     try clear c2
     try clear b3
     try clear b4
     try clear c3
     try clear b5
     try clear b6
     try clear c6
     try clear b8
     try clear c7
     try clear d9
     try clear e0
     try clear c8
     try clear e1
     try clear e2
     try clear c9
     try clear e3
     try clear f9
     try clear b9
     try clear d5
     try clear q11
     try clear hx11_0
     try clear hx14_0
     obtain ⟨a3, a1, rfl, HA, HK2, a2, HB⟩ := hrel
     have hl3_2 := (Kd.S_reads' a2.out).1
     rw [hl3_2] at a2
     (try simp only [hl3_2])
     cases gk with
     | zero => exact absurd HA.out (by simp [impl_turned.l1])
     | succ k2 =>
      have H := HA.out
      clear HA
      simp only [impl_turned.l1] at H
      replace H := os_ H
      rcases H with ⟨d2, H⟩ | ⟨d2, H⟩
      ·
       replace H := od6 H
       obtain ⟨e9, f0, f1, f2, f3, f4, H⟩ := H
       obtain ⟨y210, hy210⟩ : ∃ y_ : List Int, y_ = ((rd_L1 a3 a0).set (a1 : Int).toNat (rd (rd_L1 l0 a1) a0)) := ⟨_, rfl⟩
       replace H : (impl_turned.l1 k2 l0 (a3.set (a0 : Int).toNat y210) a0 (l0.length : Int) a0 (l0.length : Int) (wrap64 (a1 + 1))) = some r := by first | (rw [hy210]; with_reducible exact H) | (have H2_ := (Option.bind_some _ _).symm.trans H; rw [hy210]; with_reducible exact H2_) | (have H2_ := (Option.bind_some _ _).symm.trans H; with_reducible exact H2_) | with_reducible exact H | (rw [hy210]; exact H) | exact H
       have Ny210 := ak hy210
       clear hy210
       obtain ⟨y212, hy212⟩ : ∃ y_ : List (List Int), y_ = (a3.set (a0 : Int).toNat y210) := ⟨_, rfl⟩
       replace H : (impl_turned.l1 k2 l0 y212 a0 (l0.length : Int) a0 (l0.length : Int) (wrap64 (a1 + 1))) = some r := by first | (rw [hy212]; with_reducible exact H) | (have H2_ := (Option.bind_some _ _).symm.trans H; rw [hy212]; with_reducible exact H2_) | (have H2_ := (Option.bind_some _ _).symm.trans H; with_reducible exact H2_) | with_reducible exact H | (rw [hy212]; exact H) | exact H
       have Ny212 := ak hy212
       clear hy212
       have H' := ak H
       clear H
       try go_wp2
       replace a2 := ak (Kd.S_drew a2.out)
       replace HB := ak (below_drew1 HB.out)
       have a7 : 0 ≤ (a0 : Int) := oa_
       have q207 : a0 < (a3.length : Int) := oa_
       obtain ⟨ad207, e6, a9, e207, hx207_0, hl207_0, hi207_0⟩ := at_L1 (Kd.S_reads' a2.out).2.2 a0 a7 q207
       obtain rfl : (⟨go11, 0, none⟩ : Addr) = ad207 := (by injection e207)
       obtain ⟨ce207, hce207, hMe207, hcc207⟩ := Kd.S_get a2.out [] a0 a7 (by first | exact q207 | exact oa_ | (have e_ := (Kd.S_reads' a2.out).1; omega))
       obtain ⟨ve207_0, rfl, ge207_0⟩ := hMe207
       have hv207_0 := hcc207 0 _ rfl
       rw [Nat.add_zero, show ((Kd.slice 3 (Kd.int .i64))).sz = 1 from rfl, Nat.mul_one] at hv207_0
       replace hv207_0 := Option.some.inj (hv207_0.symm.trans hx207_0)
       rw [hv207_0] at ge207_0
       have HL207_0 := ak (show Kd.R (Kd.int .i64) 3 _ _ _ _ (rd_L1 a3 a0) from ge207_0)
       clear hv207_0 ge207_0
       have HX207_0 := ak hx207_0
       clear hcc207 hce207
       (first | simp only [add_plain] at hx207_0 | simp only [add_at] at hx207_0 | simp only [Addr.add, Nat.zero_add] at hx207_0 | skip)
       have HR207_0 := ak hi207_0
       have d6 := ak hl207_0
       clear hi207_0 hl207_0
       replace a7 := eq_true a7
       replace q207 := eq_true q207
       have b0 : 0 ≤ (a1 : Int) := oa_
       have q208 : a1 < (l0.length : Int) := oa_
       obtain ⟨ad208, e7, b1, e208, hx208_0, hl208_0, hi208_0⟩ := at_L1 HR0.out a1 b0 q208
       have hw208_0 := hx208_0
       cases e208
       replace hx208_0 := (HB.out.cell (World.block_lt_of_cell? w _ hx208_0)).trans hx208_0
       have HR208_0 := ak hi208_0
       have d7 := ak hl208_0
       clear hi208_0 hl208_0
       replace b0 := eq_true b0
       replace q208 := eq_true q208
       have b2 : 0 ≤ (a0 : Int) := oa_
       have q209 : a0 < ((rd_L1 l0 a1).length : Int) := oa_
       obtain ⟨ad209, e209, hx209_0⟩ := Kd.at_int HR208_0.out a0 b2 q209
       have hw209_0 := hx209_0
       cases e209
       replace hx209_0 := (HB.out.cell (World.block_lt_of_cell? w _ hx209_0)).trans hx209_0
       replace b2 := eq_true b2
       replace q209 := eq_true q209
       have e8 : 0 ≤ (a1 : Int) := oa_
       have q23 : (a1 : Int) < (((rd_L1 a3 a0).length : Int) : Int) := oa_
       obtain ⟨go23, f7, d3, d4, gl23, cl23, HG23⟩ := Kd.R_form HL207_0.out (by omega)
       (first | cases d3 | (injection d3 with ea_ en_ ec_; (first | subst ea_ | (injection ea_ with ea_; subst ea_)); subst ec_; clear en_))
       have GB23 := ak d4
       have GG23 := ak HG23
       clear d4 gl23 HG23
       obtain ⟨hx23_0, hf23_0⟩ := Kd.R_celln 0 HL207_0.out (a1 : Int) e8 q23
       replace e8 := eq_true e8
       replace q23 := eq_true q23
       have hq25 : (a0 : Int) < (a3.length : Int) := (by have h_ : (a0 : Int) < ((a3.length : Int) : Int) := oa_; first | exact h_ | (have e_ := (Kd.S_reads' a2.out).1; omega) | simpa only [List.length_set, List.length_set] using h_)
       obtain ⟨oki25, ce25, hcl25, hM25, hcc25, hok25, hbk25⟩ := Kd.S_borrow a2.out [] (a0 : Int) (oa_) hq25
       obtain ⟨ve25_0, rfl, ge25_0⟩ := hM25
       have hv25 := hcc25 0 _ rfl
       rw [Nat.add_zero, show ((Kd.slice 3 (Kd.int .i64))).sz = 1 from rfl, Nat.mul_one] at hv25
       replace hv25 := Option.some.inj (hv25.symm.trans HX207_0.out)
       subst hv25
       clear hcc25 hcl25
       replace ge25_0 := (show Kd.R (Kd.int .i64) 3 _ _ _ _ (rd_L1 a3 a0) from ge25_0)
       have HP25 := Kd.R_putg ge25_0 (a1 : Int) (rd (rd_L1 l0 a1) a0)
       rw [← Ny210.out] at HP25
       have HS25 := hbk25 HP25.2 (fun k_ e_ => by injection e_ with e_; subst e_; exact ge25_0.1 _ rfl) (x' := y210) (Kd.M_row HP25.1)
       rw [← Ny212.out] at HS25
       have HQ25 := ak HS25
       clear HP25 HS25 hbk25 hok25
       refine start_ (n := 14) (S := fun w' => w'.cell? ⟨go11, (a0).toNat, none⟩ = some (.slice (some ⟨go23, 0, none⟩) (rd_L1 a3 a0).length a9) ∧ w'.cell? (ad208.add (a1).toNat) = some (.slice (some ad209) (rd_L1 l0 a1).length b1) ∧ w'.cell? (ad209.add (a0).toNat) = some (.int .i64 (rd (rd_L1 l0 a1) a0))) (ds := [13]) (bA 14 0) (by kernel_rfl) rfl rfl ⟨hx207_0, ((HB.out.cell (World.block_lt_of_cell? w _ hw208_0)).trans hw208_0), ((HB.out.cell (World.block_lt_of_cell? w _ hw209_0)).trans hw209_0)⟩ (fun hHeld => ?_); refine with_tabW impl_turned.tab9 impl_turned.bits9 (fun HT_ HW_ => ?_)
       generalize wr.drew = g0 at a2 HB GG23 HL207_0 HQ25 HR207_0 HR208_0 HX207_0 hf23_0 hx207_0 hx208_0 hx209_0 hx23_0 hHeld ⊢
       refine pu_ (i := 0) (N := some 25) (bA 14 1) ?_
       refine pu_ (i := 1) (N := some 26) (bA 14 3) ?_
       refine pu_ (i := 2) (N := some 27) (bA 14 7) ?_
       refine pu_ (i := 4) (N := some 29) (bA 14 23) ?_
       refine pu_ (i := 5) (N := some 30) (bA 14 55) ?_
       refine pu_ (i := 6) (N := some 31) (bA 14 119) ?_
       refine pu_ (i := 7) (N := some 32) (bA 14 247) ?_
       refine pu_ (i := 9) (N := some 34) (bA 14 759) ?_
       refine tk_ (i := 3) (N := some 28) (bA 14 767) ?_
       refine tk_ (i := 8) (N := some 33) (bA 14 1023) ?_
       refine pu_ (i := 10) (N := some 35) (bA 14 2047) ?_
       refine tk_ (i := 11) (N := some 36) (bA 14 4095) ?_
       refine pu_ (i := 12) (N := some 37) (bA 14 8191) ?_
       refine last_ (i := 13) (N := none) (bA 14 16383) rfl rfl (one_of HT_.out (by kernel_rfl)) (by decide) (fun K hK => ?_)
       refine skip_ (w1 := ?_) (by rfl) rfl ?_ ?_
       rotate_left
       ·
        go_simp
        rfl
       refine hK.out _ _ ?_
       clear hK K
       refine done_ (done_of HT_.out (by kernel_rfl)) ?_
       try go_wp2
       (try simp only [← hl3_2])
       go_roundg k2
       case measure => have := HK1.out; have := HK2.out; omega
       case rel => exact ⟨(y212), (wrap64 (a1 + 1)), zv_1, H', ⟨(by have := HK1.out; have := HK2.out; omega)⟩, ⟨(by (try simp only [hl3_2]); (with_reducible repeat (first | apply Kd.S_alloc | apply Kd.S_drewN | apply Kd.S_drew)); exact HQ25.out)⟩, ⟨(by repeat (first | (with_reducible first | exact HB.out | apply below_alloc | apply pw_below_drewN | apply below_drew1 | refine below_set ?_ GB23.out) | exact HB.out))⟩⟩
      have H' := ak H
      clear H
      go_wp2
      (try simp only [← hl3_2])
      go_roundg k2
      case measure => have := HK1.out; have := HK2.out; omega
      case rel => exact ⟨(a3), (wrap64 (a0 + 1)), zv_1, H', ⟨(by have := HK1.out; have := HK2.out; omega)⟩, ⟨(by (try simp only [hl3_2]); (with_reducible repeat (first | apply Kd.S_alloc | apply Kd.S_drewN | apply Kd.S_drew)); exact a2.out)⟩, ⟨zv_0⟩⟩
   obtain rfl := Option.some.inj H
   go_wp2
   go_ret
   exact ⟨_, (by first | rfl | (simp [errW_none, errW_some] <;> rfl) | (simp [*, errW_none, errW_some] <;> rfl)), (xS a2.out), zv_0⟩

end Go.Proofs.Ytlkibgccgkhdmaa.P

namespace Go.Proofs.Ytlkibgccgkhdmaa.P
open Go.RowKit Go.Proofs.YtlkibgccgkhdmaaW.PrintWords Go.Proofs.YtlkibgccgkhdmaaW.PrintLast Go.Proofs.YtlkibgccgkhdmaaW.PrintMore
attribute [local go_sem] max2_int min2_int max_two min_two max_three min_three max_four min_four
set_option linter.unusedVariables false
set_option linter.unusedSimpArgs false
theorem zs_2 {p : Prop} (h : p := by first | rfl | (simp; done) | (simp [*]; done)) : p := h
theorem zs_1 {p : Prop} (h : p := by first | rfl | (simp [errW_none, errW_some] <;> rfl) | (simp [*, errW_none, errW_some] <;> rfl)) : p := h
theorem zs_0 {p : Prop} (h : p := by repeat (first | (with_reducible first | exact HB.out | apply below_alloc | apply pw_below_drewN | apply below_drew1) | exact HB.out)) : p := h
set_option maxHeartbeats 8000000 in
set_option maxRecDepth 100000 in
theorem impl_LatticeOk.calls (k : Nat) (A0 : Option Addr) (c0 : Nat) (l0 : List (List Int)) (r : Bool) (w : World) (hr0 : Kd.C (Kd.slice 3 (Kd.int .i64)) w A0 l0.length l0) (hc0 : l0.length ≤ c0) (h : impl_LatticeOk.f k l0 = some r) :
 Calls Try.prog 92 #[.slice A0 l0.length c0] w fun e w' => e = .returned (.bool r) ∧ Below w.heap.size w w' := by
 have HR0 := ak hr0
 have a5 := ak hc0
 clear hr0 hc0
 have HB := ak (Below.refl w.heap.size w)
 have H : ((impl_OrderOk.f k l0).bind fun a6 => (if a6 = true then ((impl_turned.f k l0).bind fun a3 => (impl_LatticeOk.l0 k l0 a3 (l0.length : Int) 0)) else (some false))) = some r := h
 clear h
 obtain ⟨a6, A2, H⟩ := bd_ H
 try dsimp only at H
 replace H := ox_ H
 rcases H with ⟨rfl, H⟩ | ⟨rfl, H⟩
 ·
  obtain ⟨a3, A4, H⟩ := bd_ H
  try dsimp only at H
  have H' := ak H
  clear H
  go_enter Try.func92, Try.ntmps92
  go_wp2_with (first | ((with_reducible refine gate_callee (f := 104) rfl ?_); refine gl_ (some 7) Try.func104 #[.slice A0 l0.length c0] ?_; (with_reducible refine (impl_OrderOk.calls k _ _ l0 true _ (y4 HR0.out) a5.out A2.out).mono ?_); rintro e w' ⟨rfl, ⟨nd, rfl⟩⟩; refine ⟨_, rfl, ?_⟩) | ((with_reducible refine gate_callee (f := 93) rfl ?_); refine gl_ (some 10) Try.func93 #[.slice A0 l0.length c0] ?_; (with_reducible refine (impl_turned.calls k _ _ l0 a3 _ (y4 HR0.out) a5.out A4.out).mono ?_); rintro e w' ⟨a7, rfl, ho0, hb⟩; refine ⟨_, rfl, ?_⟩; have a8 := ak (Kd.S_lower ho0 (below_size zs_0)); replace HB := ak (below_step zs_0 hb); (try clear hb); (try clear hb2); (try clear hk); (try clear hi); (try clear ho0)))
  go_loopg [13] k (fun kq b7 w' => ∃ (a0 : Int), b7 = .int .i64 a0 ∧ Aside0 (impl_LatticeOk.l0 kq l0 a3 (l0.length : Int) a0 = some r) ∧ Aside0 (kq ≤ k) ∧ Aside0 (Kd.S (Kd.slice 3 (Kd.int .i64)) 23 w' w.heap.size (fun _ => True) a7 a3) ∧ Aside0 (Below w.heap.size w w'))
  case atStart => exact ⟨(0), zs_2, H', ⟨Nat.le_refl _⟩, ⟨(xS a8.out)⟩, ⟨zs_0⟩⟩
  case round =>
   clear H'
   try clear c3
   obtain ⟨a0, rfl, HA, HK1, a2, HB⟩ := hrel
   cases gk with
   | zero => exact absurd HA.out (by simp [impl_LatticeOk.l0])
   | succ k1 =>
    have H := HA.out
    clear HA
    simp only [impl_LatticeOk.l0] at H
    replace H := os_ H
    rcases H with ⟨a9, H⟩ | ⟨a9, H⟩
    ·
     have H' := ak H
     clear H
     go_wp2
     go_loopg [18] k1 (fun kq b8 w' => ∃ (a1 : Int), b8 = .int .i64 a1 ∧ Aside0 (impl_LatticeOk.l1 kq l0 a3 a0 (l0.length : Int) a0 (l0.length : Int) a1 = some r) ∧ Aside0 (kq ≤ k1) ∧ Aside0 (Kd.S (Kd.slice 3 (Kd.int .i64)) 23 w' w.heap.size (fun _ => True) a7 a3) ∧ Aside0 (Below w.heap.size w w'))
     case atStart => exact ⟨(0), zs_2, H', ⟨Nat.le_refl _⟩, ⟨(xS a2.out)⟩, ⟨zs_0⟩⟩
     case round =>
      clear H'
      try clear c3
      try clear c6
      try clear a9
      obtain ⟨a1, rfl, HA, HK2, a2, HB⟩ := hrel
      cases gk with
      | zero => exact absurd HA.out (by simp [impl_LatticeOk.l1])
      | succ k2 =>
       have H := HA.out
       clear HA
       simp only [impl_LatticeOk.l1] at H
       replace H := os_ H
       rcases H with ⟨b2, H⟩ | ⟨b2, H⟩
       ·
        obtain ⟨a4, A8, H⟩ := bd_ H
        try dsimp only at H
        replace H := os_ H
        rcases H with ⟨b3, H⟩ | ⟨b3, H⟩
        ·
         obtain rfl := Option.some.inj H
         go_wp2_with (first | ((with_reducible refine gate_callee (f := 94) rfl ?_); refine gl_ (some 24) Try.func94 #[.slice A0 l0.length c0, .int .i64 a0, .int .i64 a1] ?_; (with_reducible refine (impl_meet.calls k2 _ _ l0 a0 a1 a4 _ (y3 HR0.out HB.out) a5.out A8.out).mono ?_); rintro e w' ⟨rfl, ⟨nd, rfl⟩⟩; refine ⟨_, rfl, ?_⟩))
         go_ret
         exact ⟨zs_1, zs_0⟩
        obtain ⟨b0, b6, H⟩ := bd_ H
        try dsimp only at H
        replace H := os_ H
        rcases H with ⟨b1, H⟩ | ⟨b1, H⟩
        ·
         obtain rfl := Option.some.inj H
         go_wp2_with (first | ((with_reducible refine gate_callee (f := 94) rfl ?_); refine gl_ (some 24) Try.func94 #[.slice A0 l0.length c0, .int .i64 a0, .int .i64 a1] ?_; (with_reducible refine (impl_meet.calls k2 _ _ l0 a0 a1 a4 _ (y3 HR0.out HB.out) a5.out A8.out).mono ?_); rintro e w' ⟨rfl, ⟨nd, rfl⟩⟩; refine ⟨_, rfl, ?_⟩; obtain ⟨b9, d0, b4⟩ := Kd.S_slice a2.out; subst b4) | (go_at_call 94; (with_reducible refine (impl_meet.calls k2 _ _ a3 a0 a1 b0 _ (y1 a2.out) (y2 a2.out) b6.out).mono ?_); rintro e w' ⟨rfl, ⟨nd, rfl⟩⟩))
         go_ret
         exact ⟨zs_1, zs_0⟩
        have H' := ak H
        clear H
        go_wp2_with (first | ((with_reducible refine gate_callee (f := 94) rfl ?_); refine gl_ (some 24) Try.func94 #[.slice A0 l0.length c0, .int .i64 a0, .int .i64 a1] ?_; (with_reducible refine (impl_meet.calls k2 _ _ l0 a0 a1 a4 _ (y3 HR0.out HB.out) a5.out A8.out).mono ?_); rintro e w' ⟨rfl, ⟨nd, rfl⟩⟩; refine ⟨_, rfl, ?_⟩; obtain ⟨d1, d2, b5⟩ := Kd.S_slice a2.out; subst b5) | (go_at_call 94; (with_reducible refine (impl_meet.calls k2 _ _ a3 a0 a1 b0 _ (y1 a2.out) (y2 a2.out) b6.out).mono ?_); rintro e w' ⟨rfl, ⟨nd, rfl⟩⟩))
        go_roundg k2
        case measure => have := HK1.out; have := HK2.out; omega
        case rel => exact ⟨(wrap64 (a1 + 1)), zs_2, H', ⟨(by have := HK1.out; have := HK2.out; omega)⟩, ⟨(xS a2.out)⟩, ⟨zs_0⟩⟩
       have H' := ak H
       clear H
       go_wp2
       go_roundg k2
       case measure => have := HK1.out; have := HK2.out; omega
       case rel => exact ⟨(wrap64 (a0 + 1)), zs_2, H', ⟨(by have := HK1.out; have := HK2.out; omega)⟩, ⟨(xS a2.out)⟩, ⟨zs_0⟩⟩
    obtain rfl := Option.some.inj H
    go_wp2
    go_ret
    exact ⟨zs_1, zs_0⟩
 obtain rfl := Option.some.inj H
 go_enter Try.func92, Try.ntmps92
 go_wp2_with (first | ((with_reducible refine gate_callee (f := 104) rfl ?_); refine gl_ (some 7) Try.func104 #[.slice A0 l0.length c0] ?_; (with_reducible refine (impl_OrderOk.calls k _ _ l0 false _ (y4 HR0.out) a5.out A2.out).mono ?_); rintro e w' ⟨rfl, ⟨nd, rfl⟩⟩; refine ⟨_, rfl, ?_⟩))
 go_ret
 exact ⟨zs_1, zs_0⟩

end Go.Proofs.Ytlkibgccgkhdmaa.P

namespace Go.Proofs.Ytlkibgccgkhdmaa.P
open Go.RowKit Go.Proofs.YtlkibgccgkhdmaaW.PrintWords Go.Proofs.YtlkibgccgkhdmaaW.PrintLast Go.Proofs.YtlkibgccgkhdmaaW.PrintMore
attribute [local go_sem] max2_int min2_int max_two min_two max_three min_three max_four min_four
set_option linter.unusedVariables false
set_option linter.unusedSimpArgs false
theorem zw_1 {p : Prop} (h : p := by repeat (first | exact Drawn0.refl _ | apply Drawn0.step)) : p := h
theorem zw_0 {p : Prop} (h : p := by first | rfl | (simp; done) | (simp [*]; done)) : p := h
set_option maxHeartbeats 8000000 in
set_option maxRecDepth 100000 in
theorem impl_LeastOf.calls (k : Nat) (A0 : Option Addr) (c0 : Nat) (l0 : List (List Int)) (r1 : Int) (r2 : Bool) (w : World) (hr0 : Kd.C (Kd.slice 3 (Kd.int .i64)) w A0 l0.length l0) (hc0 : l0.length ≤ c0) (h : impl_LeastOf.f k l0 = some (r1, r2)) :
 Calls Try.prog 95 #[.slice A0 l0.length c0] w fun e w' => e = .returned (.tuple #[.int .i64 r1, .bool r2]) ∧ Drawn0 w w' := by
 have HR0 := ak hr0
 have b3 := ak hc0
 clear hr0 hc0
 have H : ((impl_OrderOk.f k l0).bind fun a3 => (if a3 = true then (impl_LeastOf.l0 k l0 (l0.length : Int) 0) else (some ((-1), false)))) = some (r1, r2) := h
 clear h
 obtain ⟨a3, A2, H⟩ := bd_ H
 try dsimp only at H
 replace H := ox_ H
 rcases H with ⟨rfl, H⟩ | ⟨rfl, H⟩
 ·
  have H' := ak H
  clear H
  go_enter Try.func95, Try.ntmps95
  go_wp2_with (first | ((with_reducible refine gate_callee (f := 104) rfl ?_); refine gl_ (some 10) Try.func104 #[.slice A0 l0.length c0] ?_; (with_reducible refine (impl_OrderOk.calls k _ _ l0 true _ (y4 HR0.out) b3.out A2.out).mono ?_); rintro e w' ⟨rfl, ⟨nd, rfl⟩⟩; refine ⟨_, rfl, ?_⟩))
  go_loopg [14] k (fun kq b4 w' => ∃ (a0 : Int), b4 = .int .i64 a0 ∧ Aside0 (impl_LeastOf.l0 kq l0 (l0.length : Int) a0 = some (r1, r2)) ∧ Aside0 (kq ≤ k) ∧ Drawn0 w w')
  case atStart => exact ⟨(0), zw_0, H', ⟨Nat.le_refl _⟩, zw_1⟩
  case round =>
   clear H'
   try clear c3
   obtain ⟨a0, rfl, HA, HK1, ⟨m1, rfl⟩⟩ := hrel
   cases gk with
   | zero => exact absurd HA.out (by simp [impl_LeastOf.l0])
   | succ k1 =>
    have H := HA.out
    clear HA
    simp only [impl_LeastOf.l0] at H
    replace H := os_ H
    rcases H with ⟨a4, H⟩ | ⟨a4, H⟩
    ·
     replace H := od2 H
     obtain ⟨a6, a7, H⟩ := H
     have H' := ak H
     clear H
     obtain ⟨ad242, a8, a9, e242, hx242_0, a5, HR242_0, b0, q242⟩ := al_ HR0.out a0
     cases e242
     go_wp2
     go_loopg [6, 21] k1 (fun kq v6 b5 w' => ∃ (a2 : Bool) (a1 : Int), v6 = .bool a2 ∧ b5 = .int .i64 a1 ∧ Aside0 (impl_LeastOf.l1 kq a0 a2 l0 (l0.length : Int) a0 (rd_L1 l0 a0) ((rd_L1 l0 a0).length : Int) a1 = some (r1, r2)) ∧ Aside0 (kq ≤ k1) ∧ Drawn0 w w')
     case atStart => exact ⟨(true), (0), zw_0, zw_0, H', ⟨Nat.le_refl _⟩, zw_1⟩
     case round =>
      clear H'
      try clear c3
      try clear c4
      try clear a4
      try clear c5
      try clear a6
      try clear c6
      try clear a7
      try clear hx242_0
      try clear b0
      try clear q242
      obtain ⟨a2, a1, rfl, rfl, HA, HK2, ⟨m2, rfl⟩⟩ := hrel
      cases gk with
      | zero => exact absurd HA.out (by simp [impl_LeastOf.l1])
      | succ k2 =>
       have H := HA.out
       clear HA
       simp only [impl_LeastOf.l1] at H
       replace H := os_ H
       rcases H with ⟨b1, H⟩ | ⟨b1, H⟩
       ·
        replace H := od2 H
        obtain ⟨b6, b7, H⟩ := H
        replace H := ox_ H
        rcases H with ⟨rfl, H⟩ | ⟨rfl, H⟩
        ·
         have H' := ak H
         clear H
         obtain ⟨ad243, e243, hx243_0, b2, q243⟩ := ai_ HR242_0.out a1
         cases e243
         go_wp2
         go_roundg k2
         case measure => have := HK1.out; have := HK2.out; omega
         case rel => exact ⟨(((rd (rd_L1 l0 a0) a1) == 1)), (wrap64 (a1 + 1)), zw_0, zw_0, H', ⟨(by have := HK1.out; have := HK2.out; omega)⟩, zw_1⟩
        have H' := ak H
        clear H
        obtain ⟨ad243, e243, hx243_0, b2, q243⟩ := ai_ HR242_0.out a1
        cases e243
        go_wp2
        go_roundg k2
        case measure => have := HK1.out; have := HK2.out; omega
        case rel => exact ⟨(false), (wrap64 (a1 + 1)), zw_0, zw_0, H', ⟨(by have := HK1.out; have := HK2.out; omega)⟩, zw_1⟩
       replace H := ox_ H
       rcases H with ⟨rfl, H⟩ | ⟨rfl, H⟩
       ·
        simp only [Option.some.injEq, Prod.mk.injEq] at H
        obtain ⟨rfl, rfl⟩ := H
        go_wp2
        go_ret2
        exact ⟨zw_0, zw_1⟩
       have H' := ak H
       clear H
       go_wp2
       go_roundg k2
       case measure => have := HK1.out; have := HK2.out; omega
       case rel => exact ⟨(wrap64 (a0 + 1)), zw_0, H', ⟨(by have := HK1.out; have := HK2.out; omega)⟩, zw_1⟩
    simp only [Option.some.injEq, Prod.mk.injEq] at H
    obtain ⟨rfl, rfl⟩ := H
    go_wp2
    go_ret2
    exact ⟨zw_0, zw_1⟩
 simp only [Option.some.injEq, Prod.mk.injEq] at H
 obtain ⟨rfl, rfl⟩ := H
 go_enter Try.func95, Try.ntmps95
 go_wp2_with (first | ((with_reducible refine gate_callee (f := 104) rfl ?_); refine gl_ (some 10) Try.func104 #[.slice A0 l0.length c0] ?_; (with_reducible refine (impl_OrderOk.calls k _ _ l0 false _ (y4 HR0.out) b3.out A2.out).mono ?_); rintro e w' ⟨rfl, ⟨nd, rfl⟩⟩; refine ⟨_, rfl, ?_⟩))
 go_ret2
 exact ⟨zw_0, zw_1⟩

end Go.Proofs.Ytlkibgccgkhdmaa.P
