-- written by gen.py (a program of this session) out of the kit's print of this seat's translation
import Derived.Test.YtacifhahfamipaaPk2
import Derived.Test.YtacifhahfamipaaPk7
import Derived.Test.YtacifhahfamipaaPk3
import Derived.Test.YtacifhahfamipaaPk4
import Derived.Test.YtacifhahfamipaaFSpecMadeBy
namespace Go.Proofs.Ytacifhahfamipaa.P
open Go.RowKit Go.Proofs.YtacifhahfamipaaW.PrintWords Go.Proofs.YtacifhahfamipaaW.PrintLast Go.Proofs.YtacifhahfamipaaW.PrintMore
attribute [local go_sem] max2_int min2_int max_two min_two max_three min_three max_four min_four
set_option linter.unusedVariables false
set_option linter.unusedSimpArgs false
def spec_l20Some.T3 : Bool × List (List Nat × List Nat) := (true, [([], []), ([], []), ([0, 1], [0, 1]), ([2], [2]), ([], []), ([], []), ([4, 5, 2], [4, 5]), ([6], [6]), ([3, 7], [3, 7]), ([8, 6, 0, 1, 2, 3, 4, 5, 6, 7, 8], [8])])
def spec_l20Some.B3 : List Nat := [0, 0, 3, 7, 0, 0, 55, 119, 255, 511]
theorem spec_l20Some.tab3 : rtab .any (opsOf Try.f82 3) = spec_l20Some.T3 := by kernel_rfl
theorem spec_l20Some.bits3 : waitsOk spec_l20Some.T3.2 spec_l20Some.B3 = true := by kernel_rfl
def spec_l20Some.T8 : Bool × List (List Nat × List Nat) := (true, [([], []), ([], []), ([], []), ([2], [2]), ([3], [3]), ([4], [4]), ([1, 5], [1, 5]), ([], []), ([7, 3], [7]), ([8], [8]), ([9], [9]), ([6, 10], [6, 10]), ([0, 8, 0], [0]), ([11, 12, 0, 1, 2, 3, 4, 5, 6, 7, 8, 9, 10, 11, 12], [11])])
def spec_l20Some.B8 : List Nat := [0, 0, 0, 4, 12, 28, 62, 0, 140, 396, 908, 2046, 397, 8191]
theorem spec_l20Some.tab8 : rtab .any (opsOf Try.f82 8) = spec_l20Some.T8 := by kernel_rfl
theorem spec_l20Some.bits8 : waitsOk spec_l20Some.T8.2 spec_l20Some.B8 = true := by kernel_rfl
theorem z1h_12 {p : Prop} (h : p := by kernel_rfl) : p := h
theorem z1h_11 {p : Prop} (h : p := by repeat (first | (with_reducible first | exact b2.out | apply IsS80.alloc | apply IsS80.drewN | apply IsS80.drew | apply IsS80.set_1 | refine IsS80.far ?_ a6.out _) | exact b2.out)) : p := h
theorem z1h_10 {p : Prop} (h : p := by first | rfl | (simp [errW_none, errW_some] <;> rfl) | (simp only [← hji4, ← hji7, ← hji10]; first | rfl | (simp [errW_none, errW_some] <;> rfl)) | (simp [*, errW_none, errW_some] <;> rfl)) : p := h
theorem z1h_9 {p : Prop} (h : p := by repeat (first | (with_reducible first | exact HB.out | apply below_alloc | apply pw_below_drewN | apply below_drew1 | refine below_set ?_ (IsS80.ge b2.out) | refine below_set ?_ d8.out) | exact HB.out)) : p := h
theorem z1h_8 {p : Prop} (h : p := by repeat (first | (with_reducible first | exact HK.out | apply KeepBut.set_ | apply keep_drewN | apply keep_drew | apply keep_alloc) | exact HK.out)) : p := h
theorem z1h_7 {p : Prop} (h : p := by (try simp only [List.map_toArray, List.map_cons, List.map_nil]); first | done | (simp only [hji4]; rfl) | rfl | (simp only [List.length_drop, List.length_take]; rfl)) : p := h
theorem z1h_6 {p : Prop} (h : p := by (with_reducible repeat (first | apply Kd.S_alloc | apply Kd.S_drewN | apply Kd.S_drew)); exact Kd.S_mono (Kd.S_far (p := ⟨a8, 1, none⟩) (Kd.S_far (p := ⟨a8, 0, none⟩) (Kd.S_types a0.out a4.out (by decide)) (fun _ hk => hk.2) (.slice b5 b1.length b6)) (fun _ hk => hk.2) (.slice b3 a9.length b4)) (fun _ hk => hk.1)) : p := h
theorem z1h_5 {p : Prop} (h : p := by (with_reducible repeat (first | apply Kd.Q_alloc | apply Kd.Q_drewN | apply Kd.Q_drew)); exact Kd.Q_mono (Kd.Q_far (p := ⟨a8, 1, none⟩) (Kd.Q_far (p := ⟨a8, 0, none⟩) (Kd.Q_types a2.out a4.out (by decide)) (fun _ hk => hk.2) (.slice b5 b1.length b6)) (fun _ hk => hk.2) (.slice b3 a9.length b4)) (fun _ hk => trivial)) : p := h
theorem z1h_4 {p : Prop} (h : p := by (with_reducible repeat (first | refine blk_drewN ?_ _ | refine blk_drew ?_ | refine blk_alloc ?_ _)); refine blk_put (cs := #[.slice b5 b1.length b6, .slice none 0 0]) ?_ 1 _ rfl; (with_reducible repeat (first | refine blk_drewN ?_ _ | refine blk_drew ?_ | refine blk_alloc ?_ _)); refine blk_put (cs := #[.slice none 0 0, .slice none 0 0]) ?_ 0 _ rfl; (with_reducible repeat (first | refine blk_drewN ?_ _ | refine blk_drew ?_ | refine blk_alloc ?_ _)); exact a4.out) : p := h
theorem z1h_3 {p : Prop} (h : p := by repeat (first | (with_reducible first | exact HK.out | apply KeepBut.set_ | apply keep_drewN | apply keep_drew | apply keep_alloc | refine keep_far ?_ f9.out _) | exact HK.out)) : p := h
theorem z1h_2 {p : Prop} (h : p := by repeat (first | (with_reducible first | exact b2.out | apply IsS80.alloc | apply IsS80.drewN | apply IsS80.drew | apply IsS80.set_1 | refine IsS80.far ?_ a6.out _ | refine IsS80.far ?_ a5.out _) | exact b2.out)) : p := h
theorem z1h_1 {p : Prop} (h : p := by repeat (first | (with_reducible first | exact HB.out | apply below_alloc | apply pw_below_drewN | apply below_drew1 | refine below_set ?_ (IsS80.ge b2.out) | refine below_set ?_ d8.out | refine below_set ?_ e3.out) | exact HB.out)) : p := h
theorem z1h_0 {p : Prop} (h : p := by repeat (first | (with_reducible first | exact HK.out | apply KeepBut.set_ | apply keep_drewN | apply keep_drew | apply keep_alloc | refine keep_far ?_ f9.out _ | refine keep_far ?_ g4.out _) | exact HK.out)) : p := h
set_option maxHeartbeats 8000000 in
set_option maxRecDepth 100000 in
theorem spec_l20Some.calls (k : Nat) (g : Nat) (s0_0 : List Int) (s0_1 : Int) (a1 : Int) (r1 : List (List Int)) (r2 : List Int) (r3 : Int) (r4 : Int) (w0 w : World) (hI : IsS80 w0 w g s0_0 s0_1) (hB : Below w0.heap.size w0 w) (h : spec_l20Some.f k s0_0 s0_1 a1 = some (r1, r2, r3, r4)) :
 Calls Try.prog 82 #[.pointer (some ⟨g, 0, none⟩), .int .i64 a1] w fun e w' => ∃ v0_ v1_ : Value, e = .returned (.tuple #[.agg #[v0_, v1_], .int .i64 r3]) ∧ Kd.S (Kd.slice 3 (Kd.int .i64)) 25 w' w.heap.size (fun k_ => some k_ ≠ (v1_ : Value).ownBlock) v0_ r1 ∧ Kd.Q (Kd.int .i64) 3 w' w.heap.size (fun _ => True) v1_ r2 ∧ IsS80 w0 w' g s0_0 r4 ∧ Below w0.heap.size w0 w' ∧ KeepBut w w' g none := by
 have hu27 := Try.underlying27
 have b2 := ak hI
 have HK := ak (KeepBut.refl w g none)
 have HL := ak hB.size
 clear hI
 have HW0 := ak hB.size
 have HB := ak hB
 clear hB
 have H : ((spec_l20Logic.f k s0_0 s0_1 a1).bind fun d9 => ((spec_l20Rd_pick.f k s0_0 d9.2.2 (mx (d9.2.1.length : Int) 1)).bind fun d7 => (if 0 ≤ d7.1 then ((spec_l20Rd_pick.f k s0_0 d7.2 (mx (d9.2.1.length : Int) 1)).bind fun d6 => (if 0 ≤ d6.1 then ((spec_l20Rd_pick.f k s0_0 d6.2 2).bind fun d3 => (if d3.1 = 0 then ((spec_l20Rd_pick.f k s0_0 d3.2 (mx (d9.2.1.length : Int) 1)).bind fun d4 => (if 0 ≤ d4.1 then (spec_l20Some.j0 k (Go.bits .or .i64 (Go.bits .or .i64 (shl .i64 1 d7.1) (shl .i64 1 d6.1)) (shl .i64 1 d4.1)) s0_0 d4.2 d9.1 d9.2.1) else (none))) else (spec_l20Some.j0 k (Go.bits .or .i64 (shl .i64 1 d7.1) (shl .i64 1 d6.1)) s0_0 d3.2 d9.1 d9.2.1))) else (none))) else (none)))) = some (r1, r2, r3, r4) := h
 clear h
 obtain ⟨⟨b1, a9, e5⟩, A3, H⟩ := bd_ H
 try dsimp only at H
 obtain ⟨ji4, hji4⟩ : ∃ j_ : Int, (mx (a9.length : Int) 1) = j_ := ⟨_, rfl⟩
 replace H : ((spec_l20Rd_pick.f k s0_0 e5 (ji4)).bind fun d7 => (if 0 ≤ d7.1 then ((spec_l20Rd_pick.f k s0_0 d7.2 (ji4)).bind fun d6 => (if 0 ≤ d6.1 then ((spec_l20Rd_pick.f k s0_0 d6.2 2).bind fun d3 => (if d3.1 = 0 then ((spec_l20Rd_pick.f k s0_0 d3.2 (ji4)).bind fun d4 => (if 0 ≤ d4.1 then (spec_l20Some.j0 k (Go.bits .or .i64 (Go.bits .or .i64 (shl .i64 1 d7.1) (shl .i64 1 d6.1)) (shl .i64 1 d4.1)) s0_0 d4.2 b1 a9) else (none))) else (spec_l20Some.j0 k (Go.bits .or .i64 (shl .i64 1 d7.1) (shl .i64 1 d6.1)) s0_0 d3.2 b1 a9))) else (none))) else (none))) = some (r1, r2, r3, r4) := by first | (rw [hji4] at H; exact H) | (simp only [hji4] at H ⊢; exact H)
 (try rw [hji4] at A3)
 (try (have hji4l : 1 ≤ ji4 := by (rw [← hji4]; unfold mx; (repeat' split) <;> omega)))
 (try (have hji4m : 0 ≤ ji4 := by omega))
 have hji4_ : (if (a9.length : Int) < 1 then 1 else (a9.length : Int)) = ji4 := hji4
 obtain ⟨⟨e0, f2⟩, A5, H⟩ := bd_ H
 try dsimp only at H
 replace H := ok_ H
 obtain ⟨c6, H⟩ := H
 have g5 := eq_true c6
 have g6 : decide (0 ≤ e0) = true := dT_ c6
 clear c6
 obtain ⟨ji7, hji7⟩ : ∃ j_ : Int, (shl .i64 1 e0) = j_ := ⟨_, rfl⟩
 replace H : ((spec_l20Rd_pick.f k s0_0 f2 (ji4)).bind fun d6 => (if 0 ≤ d6.1 then ((spec_l20Rd_pick.f k s0_0 d6.2 2).bind fun d3 => (if d3.1 = 0 then ((spec_l20Rd_pick.f k s0_0 d3.2 (ji4)).bind fun d4 => (if 0 ≤ d4.1 then (spec_l20Some.j0 k (Go.bits .or .i64 (Go.bits .or .i64 (ji7) (shl .i64 1 d6.1)) (shl .i64 1 d4.1)) s0_0 d4.2 b1 a9) else (none))) else (spec_l20Some.j0 k (Go.bits .or .i64 (ji7) (shl .i64 1 d6.1)) s0_0 d3.2 b1 a9))) else (none))) = some (r1, r2, r3, r4) := by first | (rw [hji7] at H; exact H) | (simp only [hji7] at H ⊢; exact H)
 (try rw [hji7] at A3)
 (try rw [hji7] at A5)
 have hji7_ : (IntKind.i64.wrap (1 * 2 ^ min e0.toNat 64)) = ji7 := hji7
 have hji7z : e0 ≤ 64 → (IntKind.i64.wrap (1 * 2 ^ e0.toNat)) = ji7 := shl_small hji7
 have hji7u : (IntKind.i64.wrap (2 ^ min e0.toNat 64)) = ji7 := by have h_ := hji7_; rw [Int.one_mul] at h_; exact h_
 have hji7v : e0 ≤ 64 → (IntKind.i64.wrap (2 ^ e0.toNat)) = ji7 := fun hle_ => by have h_ := hji7z hle_; rw [Int.one_mul] at h_; exact h_
 have hji7y : (wrap64 (1 * 2 ^ min e0.toNat 64)) = ji7 := (i64_w _).symm.trans hji7_
 have hji7x : e0 ≤ 64 → (wrap64 (1 * 2 ^ e0.toNat)) = ji7 := fun h_ => (i64_w _).symm.trans (hji7z h_)
 obtain ⟨⟨e1, f3⟩, A8, H⟩ := bd_ H
 try dsimp only at H
 replace H := ok_ H
 obtain ⟨c9, H⟩ := H
 have g7 := eq_true c9
 have g8 : decide (0 ≤ e1) = true := dT_ c9
 clear c9
 obtain ⟨ji10, hji10⟩ : ∃ j_ : Int, (shl .i64 1 e1) = j_ := ⟨_, rfl⟩
 replace H : ((spec_l20Rd_pick.f k s0_0 f3 2).bind fun d3 => (if d3.1 = 0 then ((spec_l20Rd_pick.f k s0_0 d3.2 (ji4)).bind fun d4 => (if 0 ≤ d4.1 then (spec_l20Some.j0 k (Go.bits .or .i64 (Go.bits .or .i64 (ji7) (ji10)) (shl .i64 1 d4.1)) s0_0 d4.2 b1 a9) else (none))) else (spec_l20Some.j0 k (Go.bits .or .i64 (ji7) (ji10)) s0_0 d3.2 b1 a9))) = some (r1, r2, r3, r4) := by first | (rw [hji10] at H; exact H) | (simp only [hji10] at H ⊢; exact H)
 (try rw [hji10] at A3)
 (try rw [hji10] at A5)
 (try rw [hji10] at A8)
 have hji10_ : (IntKind.i64.wrap (1 * 2 ^ min e1.toNat 64)) = ji10 := hji10
 have hji10z : e1 ≤ 64 → (IntKind.i64.wrap (1 * 2 ^ e1.toNat)) = ji10 := shl_small hji10
 have hji10u : (IntKind.i64.wrap (2 ^ min e1.toNat 64)) = ji10 := by have h_ := hji10_; rw [Int.one_mul] at h_; exact h_
 have hji10v : e1 ≤ 64 → (IntKind.i64.wrap (2 ^ e1.toNat)) = ji10 := fun hle_ => by have h_ := hji10z hle_; rw [Int.one_mul] at h_; exact h_
 have hji10y : (wrap64 (1 * 2 ^ min e1.toNat 64)) = ji10 := (i64_w _).symm.trans hji10_
 have hji10x : e1 ≤ 64 → (wrap64 (1 * 2 ^ e1.toNat)) = ji10 := fun h_ => (i64_w _).symm.trans (hji10z h_)
 obtain ⟨⟨h3, f4⟩, k6, H⟩ := bd_ H
 try dsimp only at H
 have g1 := ak H
 clear H
 go_enter Try.func82, Try.ntmps82
 try go_wp2_with (first | ((with_reducible refine gate_dst (N := 4) rfl ?_); refine bx_ (N := 4) (cs := #[.slice none 0 0, .slice none 0 0]) (t := 27) ?_; intro a8 hg m0 hbox hb; replace HB := ak (below_step (by repeat (first | (with_reducible first | exact HB.out | apply below_alloc | apply pw_below_drewN | apply below_drew1 | refine below_set ?_ (IsS80.ge b2.out)) | exact HB.out)) hb); have a4 := ak (hbox); have f9 := ak ((by rw [hg]; exact (keep_size (w := w) (g := g) (row := none) z1h_8) : w.heap.size ≤ a8)); have d8 := ak ((Nat.le_trans HW0.out (by rw [hg]; exact (keep_size (w := w) (g := g) (row := none) z1h_8) : w.heap.size ≤ a8) : w0.heap.size ≤ a8)); replace HK := ak (KeepBut.trans z1h_8 (KeepBut.of_below hb g none) (.inl rfl)); have a6 := ak ((by rw [hg]; exact Nat.ne_of_lt (IsS80.lt (show IsS80 w0 _ g s0_0 s0_1 from by repeat (first | (with_reducible first | exact b2.out | apply IsS80.alloc | apply IsS80.drewN | apply IsS80.drew | apply IsS80.set_1) | exact b2.out))) : g ≠ a8)); have d2 := ak ((by rw [hg]; exact Nat.ne_of_gt (IsS80.lt (show IsS80 w0 _ g s0_0 s0_1 from by repeat (first | (with_reducible first | exact b2.out | apply IsS80.alloc | apply IsS80.drewN | apply IsS80.drew | apply IsS80.set_1) | exact b2.out))) : a8 ≠ g)); replace b2 := ak (IsS80.below (by repeat (first | (with_reducible first | exact b2.out | apply IsS80.alloc | apply IsS80.drewN | apply IsS80.drew | apply IsS80.set_1) | exact b2.out)) hb); clear hb hbox hg) | ((with_reducible refine gate_callee (f := 73) rfl ?_); refine gl_ (some 11) Try.func73 #[.pointer (some ⟨g, 0, none⟩), .int .i64 a1] ?_; (with_reducible refine (spec_l20Logic.calls k g s0_0 s0_1 a1 b1 a9 e5 w0 _ z1h_11 z1h_9 A3.out).mono ?_); rintro e w' ⟨k7, k8, rfl, ho0, ho1, hi, hb, hk⟩; refine ⟨_, rfl, ?_⟩; replace a4 := ak (KeepBut.blk hk (g' := a8) (o := .cells #[.slice none 0 0, .slice none 0 0] 27 (0, 0)) (xb a4.out) d2.out (by simp)); have b9 := ak (Kd.S_lower ho0 (keep_size (w := w) (g := g) (row := none) z1h_3)); have d0 := ak (Kd.Q_lower ho1 (keep_size (w := w) (g := g) (row := none) z1h_3)); replace HK := ak (KeepBut.trans z1h_3 hk (.inl rfl)); replace HB := ak (hb); replace b2 := ak (hi); (try clear hb); (try clear hb2); (try clear hk); (try clear hi); (try clear ho0); (try clear ho1)) | ((with_reducible refine gate_dst (N := 6) rfl ?_); refine bx_ (N := 6) (cs := #[.slice none 0 0, .slice none 0 0]) (t := 27) ?_; intro a7 hg g0 hbox hb; replace b9 := ak (Kd.S_below (xS b9.out) hb); replace d0 := ak (Kd.Q_below (xQ d0.out) hb); replace HB := ak (below_step z1h_9 hb); have a3 := ak (hbox); have g4 := ak ((by rw [hg]; exact (keep_size (w := w) (g := g) (row := none) z1h_3) : w.heap.size ≤ a7)); have e3 := ak ((Nat.le_trans HW0.out (by rw [hg]; exact (keep_size (w := w) (g := g) (row := none) z1h_3) : w.heap.size ≤ a7) : w0.heap.size ≤ a7)); replace HK := ak (KeepBut.trans z1h_3 (KeepBut.of_below hb g none) (.inl rfl)); have b7 := ak ((by rw [hg]; exact Nat.ne_of_lt (blk_lt (g := a8) (o := .cells #[.slice none 0 0, .slice none 0 0] 27 (0, 0)) (xb a4.out)) : a8 ≠ a7)); have b0 := ak ((by rw [hg]; exact Nat.ne_of_gt (blk_lt (g := a8) (o := .cells #[.slice none 0 0, .slice none 0 0] 27 (0, 0)) (xb a4.out)) : a7 ≠ a8)); replace a4 := ak (blk_below (g := a8) (o := .cells #[.slice none 0 0, .slice none 0 0] 27 (0, 0)) (xb a4.out) hb); have a5 := ak ((by rw [hg]; exact Nat.ne_of_lt (IsS80.lt (show IsS80 w0 _ g s0_0 e5 from by repeat (first | (with_reducible first | exact b2.out | apply IsS80.alloc | apply IsS80.drewN | apply IsS80.drew | apply IsS80.set_1 | refine IsS80.far ?_ a6.out _) | exact b2.out))) : g ≠ a7)); have b8 := ak ((by rw [hg]; exact Nat.ne_of_gt (IsS80.lt (show IsS80 w0 _ g s0_0 e5 from by repeat (first | (with_reducible first | exact b2.out | apply IsS80.alloc | apply IsS80.drewN | apply IsS80.drew | apply IsS80.set_1 | refine IsS80.far ?_ a6.out _) | exact b2.out))) : a7 ≠ g)); replace b2 := ak (IsS80.below z1h_11 hb); clear hb hbox hg; obtain ⟨b5, b6, h4⟩ := Kd.S_slice b9.out; subst h4; have i4 := b0.out; have i5 := b7.out; have i6 := b8.out; have i7 := a5.out; have e6 := cz20 a3.out; have e7 := cz21 a3.out; have e8 := blk_frozen a3.out 0; have e9 := blk_frozen a3.out 1; obtain ⟨b3, b4, h5, _⟩ := Kd.Q_slice d0.out; subst h5))
 have n0_ : Aside0 (Kd.S (Kd.slice 3 (Kd.int .i64)) 25 ((g0.setCell ⟨a7, 0, none⟩ (.slice b5 b1.length b6)).setCell ⟨a7, 1, none⟩ (.slice b3 a9.length b4)) w.heap.size (fun k_ => some k_ ≠ (.slice b3 a9.length b4 : Value).ownBlock) (.slice b5 b1.length b6) b1) := ⟨(by (with_reducible repeat (first | apply Kd.S_alloc | apply Kd.S_drewN | apply Kd.S_drew)); exact Kd.S_mono (Kd.S_far (p := ⟨a7, 1, none⟩) (Kd.S_far (p := ⟨a7, 0, none⟩) (Kd.S_types b9.out a3.out (by decide)) (fun _ hk => hk.2) (.slice b5 b1.length b6)) (fun _ hk => hk.2) (.slice b3 a9.length b4)) (fun _ hk => hk.1))⟩
 have n1_ : Aside0 (Kd.Q (Kd.int .i64) 3 ((g0.setCell ⟨a7, 0, none⟩ (.slice b5 b1.length b6)).setCell ⟨a7, 1, none⟩ (.slice b3 a9.length b4)) w.heap.size (fun _ => True) (.slice b3 a9.length b4) a9) := ⟨(by (with_reducible repeat (first | apply Kd.Q_alloc | apply Kd.Q_drewN | apply Kd.Q_drew)); exact Kd.Q_mono (Kd.Q_far (p := ⟨a7, 1, none⟩) (Kd.Q_far (p := ⟨a7, 0, none⟩) (Kd.Q_types d0.out a3.out (by decide)) (fun _ hk => hk.2) (.slice b5 b1.length b6)) (fun _ hk => hk.2) (.slice b3 a9.length b4)) (fun _ hk => trivial))⟩
 have n2_ : Aside0 (((g0.setCell ⟨a7, 0, none⟩ (.slice b5 b1.length b6)).setCell ⟨a7, 1, none⟩ (.slice b3 a9.length b4)).heap[a8]? = some (.cells #[.slice none 0 0, .slice none 0 0] 27 (0, 0))) := ⟨(by (with_reducible repeat (first | refine blk_drewN ?_ _ | refine blk_drew ?_ | refine blk_alloc ?_ _)); refine blk_far ?_ b7.out _; (with_reducible repeat (first | refine blk_drewN ?_ _ | refine blk_drew ?_ | refine blk_alloc ?_ _)); refine blk_far ?_ b7.out _; (with_reducible repeat (first | refine blk_drewN ?_ _ | refine blk_drew ?_ | refine blk_alloc ?_ _)); exact a4.out)⟩
 have n3_ : Aside0 (((g0.setCell ⟨a7, 0, none⟩ (.slice b5 b1.length b6)).setCell ⟨a7, 1, none⟩ (.slice b3 a9.length b4)).heap[a7]? = some (.cells #[.slice b5 b1.length b6, .slice b3 a9.length b4] 27 (0, 0))) := ⟨(by (with_reducible repeat (first | refine blk_drewN ?_ _ | refine blk_drew ?_ | refine blk_alloc ?_ _)); refine blk_put (cs := #[.slice b5 b1.length b6, .slice none 0 0]) ?_ 1 _ rfl; (with_reducible repeat (first | refine blk_drewN ?_ _ | refine blk_drew ?_ | refine blk_alloc ?_ _)); refine blk_put (cs := #[.slice none 0 0, .slice none 0 0]) ?_ 0 _ rfl; (with_reducible repeat (first | refine blk_drewN ?_ _ | refine blk_drew ?_ | refine blk_alloc ?_ _)); exact a3.out)⟩
 have n4_ : Aside0 (IsS80 w0 ((g0.setCell ⟨a7, 0, none⟩ (.slice b5 b1.length b6)).setCell ⟨a7, 1, none⟩ (.slice b3 a9.length b4)) g s0_0 e5) := ⟨z1h_2⟩
 have n5_ : Aside0 (KeepBut w ((g0.setCell ⟨a7, 0, none⟩ (.slice b5 b1.length b6)).setCell ⟨a7, 1, none⟩ (.slice b3 a9.length b4)) g none) := ⟨z1h_0⟩
 have n6_ : Aside0 (Below w0.heap.size w0 ((g0.setCell ⟨a7, 0, none⟩ (.slice b5 b1.length b6)).setCell ⟨a7, 1, none⟩ (.slice b3 a9.length b4))) := ⟨z1h_1⟩
 (try clear b9)
 (try clear d0)
 (try clear a4)
 (try clear a3)
 (try clear b2)
 (try clear HK)
 (try clear HB)
 generalize ((g0.setCell ⟨a7, 0, none⟩ (.slice b5 b1.length b6)).setCell ⟨a7, 1, none⟩ (.slice b3 a9.length b4)) = k9 at n0_ n1_ n2_ n3_ n4_ n5_ n6_ ⊢
 have b9 := n0_
 have d0 := n1_
 have a4 := n2_
 have a3 := n3_
 have b2 := n4_
 have HK := n5_
 have HB := n6_
 clear n0_ n1_ n2_ n3_ n4_ n5_ n6_
 replace b9 := ak (Kd.S_drew b9.out)
 replace d0 := ak (Kd.Q_drew d0.out)
 replace a4 := ak (blk_drew a4.out)
 replace a3 := ak (blk_drew a3.out)
 replace b2 := ak (IsS80.drew b2.out)
 replace HK := ak (keep_drew HK.out)
 replace HB := ak (below_drew1 HB.out)
 refine start_ (n := 10) (S := fun w' => True) (ds := []) (bA 10 0) z1h_12 rfl rfl trivial (fun hHeld => ?_); refine with_tabW spec_l20Some.tab3 spec_l20Some.bits3 (fun HT_ HW_ => ?_)
 generalize k9.drew = m1 at b9 d0 a4 a3 b2 HK HB hHeld ⊢
 refine pu_ (i := 0) (N := some 16) (bA 10 1) ?_
 refine pu_ (i := 1) (N := some 17) (bA 10 3) ?_
 refine pu_ (i := 4) (N := some 20) (bA 10 19) ?_
 refine pu_ (i := 5) (N := some 21) (bA 10 51) ?_
 refine one_ (i := 2) (N := some 18) (bA 10 55) rfl rfl (one_of HT_.out z1h_12) (by decide) (fun K hK => ?_)
 refine goes_ Try.func62 z1h_12 rfl #[.pointer (some ⟨g, 0, none⟩), .int .i64 ji4] (by rfl) rfl rfl z1h_7 ?_
 with_reducible refine (spec_l20Rd_pick.calls k g s0_0 e5 ji4 e0 f2 w0 _ ?side1 ?side2 A5.out).mono ?_
 (case side1 => repeat (first | (with_reducible first | exact b2.out | apply IsS80.alloc | apply IsS80.drewN | apply IsS80.drew | apply IsS80.set_1 | refine IsS80.far ?_ a6.out _ | refine IsS80.far ?_ a5.out _) | exact b2.out))
 (case side2 => repeat (first | (with_reducible first | exact HB.out | apply below_alloc | apply pw_below_drewN | apply below_drew1 | refine below_set ?_ (IsS80.ge b2.out) | refine below_set ?_ d8.out | refine below_set ?_ e3.out) | exact HB.out))
 rintro e w' ⟨rfl, hi, hb, hk⟩
 refine ⟨_, rfl, ?_⟩
 replace a4 := ak (KeepBut.blk hk (g' := a8) (o := .cells #[.slice none 0 0, .slice none 0 0] 27 (0, 0)) (xb a4.out) d2.out (by simp))
 replace b9 := ak (Kd.S_mono (Kd.S_keep (IsS80.apartS (show IsS80 w0 _ g s0_0 e5 from by repeat (first | (with_reducible first | exact b2.out | apply IsS80.alloc | apply IsS80.drewN | apply IsS80.drew | apply IsS80.set_1 | refine IsS80.far ?_ a6.out _ | refine IsS80.far ?_ a5.out _) | exact b2.out)) (xS b9.out) (by decide)) hk (fun _ h => h.2)) (fun _ h => h.1))
 replace d0 := ak (Kd.Q_mono (Kd.Q_keep (IsS80.apartQ (show IsS80 w0 _ g s0_0 e5 from by repeat (first | (with_reducible first | exact b2.out | apply IsS80.alloc | apply IsS80.drewN | apply IsS80.drew | apply IsS80.set_1 | refine IsS80.far ?_ a6.out _ | refine IsS80.far ?_ a5.out _) | exact b2.out)) (xQ d0.out) (by decide)) hk (fun _ h => h.2)) (fun _ h => h.1))
 replace a3 := ak (KeepBut.blk hk (g' := a7) (o := .cells #[.slice b5 b1.length b6, .slice b3 a9.length b4] 27 (0, 0)) (xb a3.out) b8.out (by simp))
 replace HK := ak (KeepBut.trans z1h_0 hk (.inl rfl))
 replace HB := ak (hb)
 replace b2 := ak (hi)
 (try clear hb)
 (try clear hb2)
 (try clear hk)
 (try clear hi)
 refine hK.out _ _ trivial (fun hHeld => ?_)
 clear hK K
 refine no_ (N := some 18) ?_
 refine pu_ (i := 3) (N := some 19) (bA 10 63) ?_
 refine one_ (i := 6) (N := some 22) (bA 10 127) rfl rfl (one_of HT_.out z1h_12) (by decide) (fun K hK => ?_)
 refine goes_ Try.func62 z1h_12 rfl #[.pointer (some ⟨g, 0, none⟩), .int .i64 ji4] (by rfl) rfl rfl z1h_7 ?_
 with_reducible refine (spec_l20Rd_pick.calls k g s0_0 f2 ji4 e1 f3 w0 _ ?side1 ?side2 A8.out).mono ?_
 (case side1 => repeat (first | (with_reducible first | exact b2.out | apply IsS80.alloc | apply IsS80.drewN | apply IsS80.drew | apply IsS80.set_1 | refine IsS80.far ?_ a6.out _ | refine IsS80.far ?_ a5.out _) | exact b2.out))
 (case side2 => repeat (first | (with_reducible first | exact HB.out | apply below_alloc | apply pw_below_drewN | apply below_drew1 | refine below_set ?_ (IsS80.ge b2.out) | refine below_set ?_ d8.out | refine below_set ?_ e3.out) | exact HB.out))
 rintro e w' ⟨rfl, hi, hb, hk⟩
 refine ⟨_, rfl, ?_⟩
 replace a4 := ak (KeepBut.blk hk (g' := a8) (o := .cells #[.slice none 0 0, .slice none 0 0] 27 (0, 0)) (xb a4.out) d2.out (by simp))
 replace b9 := ak (Kd.S_mono (Kd.S_keep (IsS80.apartS (show IsS80 w0 _ g s0_0 f2 from by repeat (first | (with_reducible first | exact b2.out | apply IsS80.alloc | apply IsS80.drewN | apply IsS80.drew | apply IsS80.set_1 | refine IsS80.far ?_ a6.out _ | refine IsS80.far ?_ a5.out _) | exact b2.out)) (xS b9.out) (by decide)) hk (fun _ h => h.2)) (fun _ h => h.1))
 replace d0 := ak (Kd.Q_mono (Kd.Q_keep (IsS80.apartQ (show IsS80 w0 _ g s0_0 f2 from by repeat (first | (with_reducible first | exact b2.out | apply IsS80.alloc | apply IsS80.drewN | apply IsS80.drew | apply IsS80.set_1 | refine IsS80.far ?_ a6.out _ | refine IsS80.far ?_ a5.out _) | exact b2.out)) (xQ d0.out) (by decide)) hk (fun _ h => h.2)) (fun _ h => h.1))
 replace a3 := ak (KeepBut.blk hk (g' := a7) (o := .cells #[.slice b5 b1.length b6, .slice b3 a9.length b4] 27 (0, 0)) (xb a3.out) b8.out (by simp))
 replace HK := ak (KeepBut.trans z1h_0 hk (.inl rfl))
 replace HB := ak (hb)
 replace b2 := ak (hi)
 (try clear hb)
 (try clear hb2)
 (try clear hk)
 (try clear hi)
 refine hK.out _ _ trivial (fun hHeld => ?_)
 clear hK K
 refine no_ (N := some 22) ?_
 refine pu_ (i := 7) (N := some 23) (bA 10 255) ?_
 refine pu_ (i := 8) (N := some 24) (bA 10 511) ?_
 refine pu_ (i := 9) (N := some 8) (bA 10 1023) ?_
 refine done_ (done_of HT_.out z1h_12) ?_
 go_upto_if 27 with (first | ((with_reducible refine gate_callee (f := 62) rfl ?_); refine gl_ (some 26) Try.func62 #[.pointer (some ⟨g, 0, none⟩), .int .i64 2] ?_; (with_reducible refine (spec_l20Rd_pick.calls k g s0_0 f3 2 h3 f4 w0 _ z1h_2 z1h_1 k6.out).mono ?_); rintro e w' ⟨rfl, hi, hb, hk⟩; refine ⟨_, rfl, ?_⟩; replace a4 := ak (KeepBut.blk hk (g' := a8) (o := .cells #[.slice none 0 0, .slice none 0 0] 27 (0, 0)) (xb a4.out) d2.out (by simp)); replace b9 := ak (Kd.S_mono (Kd.S_keep (IsS80.apartS (show IsS80 w0 _ g s0_0 f3 from by repeat (first | (with_reducible first | exact b2.out | apply IsS80.alloc | apply IsS80.drewN | apply IsS80.drew | apply IsS80.set_1 | refine IsS80.far ?_ a6.out _ | refine IsS80.far ?_ a5.out _) | exact b2.out)) (xS b9.out) (by decide)) hk (fun _ h => h.2)) (fun _ h => h.1)); replace d0 := ak (Kd.Q_mono (Kd.Q_keep (IsS80.apartQ (show IsS80 w0 _ g s0_0 f3 from by repeat (first | (with_reducible first | exact b2.out | apply IsS80.alloc | apply IsS80.drewN | apply IsS80.drew | apply IsS80.set_1 | refine IsS80.far ?_ a6.out _ | refine IsS80.far ?_ a5.out _) | exact b2.out)) (xQ d0.out) (by decide)) hk (fun _ h => h.2)) (fun _ h => h.1)); replace a3 := ak (KeepBut.blk hk (g' := a7) (o := .cells #[.slice b5 b1.length b6, .slice b3 a9.length b4] 27 (0, 0)) (xb a3.out) b8.out (by simp)); replace HK := ak (KeepBut.trans z1h_0 hk (.inl rfl)); replace HB := ak (hb); replace b2 := ak (hi); (try clear hb); (try clear hb2); (try clear hk); (try clear hi)))
 (try simp only [Act.put, List.setIfInBounds_toArray, List.set_cons_zero, List.set_cons_succ])
 go_cut [8] (fun v8 wc => ∃ (kq : Nat) (e4 : Int) (d5 : Int), v8 = .int .i64 e4 ∧ Aside0 (spec_l20Some.j0 kq e4 s0_0 d5 b1 a9 = some (r1, r2, r3, r4)) ∧ Aside0 (kq ≤ k) ∧ Aside0 (Kd.S (Kd.slice 3 (Kd.int .i64)) 25 wc w.heap.size (fun k_ => some k_ ≠ ((.slice b3 a9.length b4) : Value).ownBlock) (.slice b5 b1.length b6) b1) ∧ Aside0 (Kd.Q (Kd.int .i64) 3 wc w.heap.size (fun _ => True) (.slice b3 a9.length b4) a9) ∧ Aside0 (wc.heap[a8]? = some (.cells #[(.slice none 0 0), (.slice none 0 0)] 27 (0, 0))) ∧ Aside0 (wc.heap[a7]? = some (.cells #[(.slice b5 b1.length b6), (.slice b3 a9.length b4)] 27 (0, 0))) ∧ Aside0 (IsS80 w0 wc g s0_0 d5) ∧ Aside0 (KeepBut w wc g none) ∧ Aside0 (Below w0.heap.size w0 wc))
 case first =>
  have H := g1.out
  clear g1
  replace H := oe2 H
  rcases H with ⟨⟨-, f0, g9⟩, H⟩ | ⟨⟨m2, f0, g9⟩, H⟩
  ·
   (first | rw [f0] | (simp only [i64_w, i32_w]; rw [f0]) | skip)
   obtain ⟨⟨e2, g2⟩, i8, H⟩ := bd_ H
   try dsimp only at H
   replace H := ok_ H
   obtain ⟨h6, H⟩ := H
   have i9 := eq_true h6
   have j2 : decide (0 ≤ e2) = true := dT_ h6
   clear h6
   obtain ⟨ji29, hji29⟩ : ∃ j_ : Int, (shl .i64 1 e2) = j_ := ⟨_, rfl⟩
   replace H : (spec_l20Some.j0 k (Go.bits .or .i64 (Go.bits .or .i64 (ji7) (ji10)) (ji29)) s0_0 g2 b1 a9) = some (r1, r2, r3, r4) := by first | (rw [hji29] at H; exact H) | (simp only [hji29] at H ⊢; exact H)
   (try rw [hji29] at i8)
   have hji29_ : (IntKind.i64.wrap (1 * 2 ^ min e2.toNat 64)) = ji29 := hji29
   have hji29z : e2 ≤ 64 → (IntKind.i64.wrap (1 * 2 ^ e2.toNat)) = ji29 := shl_small hji29
   have hji29u : (IntKind.i64.wrap (2 ^ min e2.toNat 64)) = ji29 := by have h_ := hji29_; rw [Int.one_mul] at h_; exact h_
   have hji29v : e2 ≤ 64 → (IntKind.i64.wrap (2 ^ e2.toNat)) = ji29 := fun hle_ => by have h_ := hji29z hle_; rw [Int.one_mul] at h_; exact h_
   have hji29y : (wrap64 (1 * 2 ^ min e2.toNat 64)) = ji29 := (i64_w _).symm.trans hji29_
   have hji29x : e2 ≤ 64 → (wrap64 (1 * 2 ^ e2.toNat)) = ji29 := fun h_ => (i64_w _).symm.trans (hji29z h_)
   have H' := ak H
   clear H
   go_wp2_with (first | ((with_reducible refine gate_callee (f := 62) rfl ?_); refine goesL_ (some 31) rfl rfl Try.func62 z1h_12 rfl #[.pointer (some ⟨g, 0, none⟩), .int .i64 ji4] rfl z1h_7 ?_; (with_reducible refine (spec_l20Rd_pick.calls k g s0_0 f4 ji4 e2 g2 w0 _ z1h_2 z1h_1 i8.out).mono ?_); rintro e w' ⟨rfl, hi, hb, hk⟩; refine ⟨_, rfl, ?_⟩; replace a4 := ak (KeepBut.blk hk (g' := a8) (o := .cells #[.slice none 0 0, .slice none 0 0] 27 (0, 0)) (xb a4.out) d2.out (by simp)); replace b9 := ak (Kd.S_mono (Kd.S_keep (IsS80.apartS (show IsS80 w0 _ g s0_0 f4 from by repeat (first | (with_reducible first | exact b2.out | apply IsS80.alloc | apply IsS80.drewN | apply IsS80.drew | apply IsS80.set_1 | refine IsS80.far ?_ a6.out _ | refine IsS80.far ?_ a5.out _) | exact b2.out)) (xS b9.out) (by decide)) hk (fun _ h => h.2)) (fun _ h => h.1)); replace d0 := ak (Kd.Q_mono (Kd.Q_keep (IsS80.apartQ (show IsS80 w0 _ g s0_0 f4 from by repeat (first | (with_reducible first | exact b2.out | apply IsS80.alloc | apply IsS80.drewN | apply IsS80.drew | apply IsS80.set_1 | refine IsS80.far ?_ a6.out _ | refine IsS80.far ?_ a5.out _) | exact b2.out)) (xQ d0.out) (by decide)) hk (fun _ h => h.2)) (fun _ h => h.1)); replace a3 := ak (KeepBut.blk hk (g' := a7) (o := .cells #[.slice b5 b1.length b6, .slice b3 a9.length b4] 27 (0, 0)) (xb a3.out) b8.out (by simp)); replace HK := ak (KeepBut.trans z1h_0 hk (.inl rfl)); replace HB := ak (hb); replace b2 := ak (hi); (try clear hb); (try clear hb2); (try clear hk); (try clear hi)))
   go_meet
   case rel => exact ⟨_, (Go.bits .or .i64 (Go.bits .or .i64 (ji7) (ji10)) (ji29)), (g2), (by first | rfl | (simp; done) | (simp only [← hji7, ← hji10, ← hji29] <;> (first | rfl | simp)) | (simp [*]; done)), H', ⟨(by first | omega | exact Nat.le_refl _)⟩, ⟨(xS b9.out)⟩, ⟨(xQ d0.out)⟩, ⟨(xb a4.out)⟩, ⟨(xb a3.out)⟩, ⟨z1h_2⟩, ⟨z1h_0⟩, ⟨z1h_1⟩⟩
  (first | rw [f0] | (simp only [i64_w, i32_w]; rw [f0]) | skip)
  have H' := ak H
  clear H
  go_wp2
  go_meet
  case rel => exact ⟨_, (Go.bits .or .i64 (ji7) (ji10)), (f4), (by first | rfl | (simp; done) | (simp only [← hji7, ← hji10] <;> (first | rfl | simp)) | (simp [*]; done)), H', ⟨(by first | omega | exact Nat.le_refl _)⟩, ⟨(xS b9.out)⟩, ⟨(xQ d0.out)⟩, ⟨(xb a4.out)⟩, ⟨(xb a3.out)⟩, ⟨z1h_2⟩, ⟨z1h_0⟩, ⟨z1h_1⟩⟩
 case rest =>
  clear g1
  try clear c6
  try clear g5
  try clear g6
  try clear c9
  try clear g7
  try clear g8
  try clear e6
  try clear e7
  try clear e8
  try clear e9
  obtain ⟨kq, e4, d5, rfl, HA, h0, a0, a2, a4, a3, b2, HK, HB⟩ := hcut
  cases kq with
  | zero => exact absurd HA.out (by simp [spec_l20Some.j0])
  | succ f6 =>
   have H := HA.out
   clear HA
   simp only [spec_l20Some.j0] at H
   have g3 := ak H
   clear H
   go_upto_region 6 with (fail)
   go_cut [40] (fun l0 wc => ∃ (kq : Nat) (f1 : Bool) (d1 : Int), l0 = .bool f1 ∧ Aside0 (spec_l20Some.j1 kq e4 f1 s0_0 d1 b1 a9 = some (r1, r2, r3, r4)) ∧ Aside0 (kq ≤ f6) ∧ Aside0 (Kd.S (Kd.slice 3 (Kd.int .i64)) 25 wc w.heap.size (fun k_ => some k_ ≠ ((.slice b3 a9.length b4) : Value).ownBlock) (.slice b5 b1.length b6) b1) ∧ Aside0 (Kd.Q (Kd.int .i64) 3 wc w.heap.size (fun _ => True) (.slice b3 a9.length b4) a9) ∧ Aside0 (wc.heap[a8]? = some (.cells #[(.slice none 0 0), (.slice none 0 0)] 27 (0, 0))) ∧ Aside0 (wc.heap[a7]? = some (.cells #[(.slice b5 b1.length b6), (.slice b3 a9.length b4)] 27 (0, 0))) ∧ Aside0 (IsS80 w0 wc g s0_0 d1) ∧ Aside0 (KeepBut w wc g none) ∧ Aside0 (Below w0.heap.size w0 wc))
   case first =>
    have H := g3.out
    clear g3
    obtain ⟨l1, j3, H⟩ := bd_ H
    try dsimp only at H
    replace H := ox_ H
    rcases H with ⟨rfl, H⟩ | ⟨rfl, H⟩
    ·
     obtain ⟨⟨h1, h2⟩, l2, H⟩ := bd_ H
     try dsimp only at H
     have H' := ak H
     clear H
     have j4 := b0.out
     have j5 := b7.out
     have j6 := b8.out
     have j7 := a5.out
     have e6 := cz20 a3.out
     have e7 := cz21 a3.out
     have e8 := blk_frozen a3.out 0
     have e9 := blk_frozen a3.out 1
     go_wp2_with (first | ((with_reducible refine gate_callee (f := 30) rfl ?_); refine gl_ (some 35) Try.func30 #[.agg #[.slice b5 b1.length b6, .slice b3 a9.length b4]] ?_; (with_reducible refine (spec_LogicOk.calls f6 _ _ b1 _ _ a9 true _ (y1 a0.out) (y2 a0.out) (y1 a2.out) (y2 a2.out) j3.out).mono ?_); rintro e w' ⟨rfl, hb⟩; refine ⟨_, rfl, ?_⟩; replace a0 := ak (Kd.S_below (xS a0.out) hb); replace a2 := ak (Kd.Q_below (xQ a2.out) hb); replace a4 := ak (blk_below (g := a8) (o := .cells #[.slice none 0 0, .slice none 0 0] 27 (0, 0)) (xb a4.out) hb); replace a3 := ak (blk_below (g := a7) (o := .cells #[.slice b5 b1.length b6, .slice b3 a9.length b4] 27 (0, 0)) (xb a3.out) hb); replace HK := ak (KeepBut.trans z1h_0 (KeepBut.of_below hb g none) (.inl rfl)); replace HB := ak (below_step z1h_1 hb); replace b2 := ak (IsS80.below z1h_2 hb); (try clear hb); (try clear hb2); (try clear hk); (try clear hi)) | (go_at_call 62; (with_reducible refine (spec_l20Rd_pick.calls f6 g s0_0 d5 2 h1 h2 w0 _ z1h_2 z1h_1 l2.out).mono ?_); rintro e w' ⟨rfl, hi, hb, hk⟩; replace a0 := ak (Kd.S_mono (Kd.S_keep (IsS80.apartS (show IsS80 w0 _ g s0_0 d5 from by repeat (first | (with_reducible first | exact b2.out | apply IsS80.alloc | apply IsS80.drewN | apply IsS80.drew | apply IsS80.set_1 | refine IsS80.far ?_ a6.out _ | refine IsS80.far ?_ a5.out _) | exact b2.out)) (xS a0.out) (by decide)) hk (fun _ h => h.2)) (fun _ h => h.1)); replace a2 := ak (Kd.Q_mono (Kd.Q_keep (IsS80.apartQ (show IsS80 w0 _ g s0_0 d5 from by repeat (first | (with_reducible first | exact b2.out | apply IsS80.alloc | apply IsS80.drewN | apply IsS80.drew | apply IsS80.set_1 | refine IsS80.far ?_ a6.out _ | refine IsS80.far ?_ a5.out _) | exact b2.out)) (xQ a2.out) (by decide)) hk (fun _ h => h.2)) (fun _ h => h.1)); replace a4 := ak (KeepBut.blk hk (g' := a8) (o := .cells #[.slice none 0 0, .slice none 0 0] 27 (0, 0)) (xb a4.out) d2.out (by simp)); replace a3 := ak (KeepBut.blk hk (g' := a7) (o := .cells #[.slice b5 b1.length b6, .slice b3 a9.length b4] 27 (0, 0)) (xb a3.out) b8.out (by simp)); replace HK := ak (KeepBut.trans z1h_0 hk (.inl rfl)); replace HB := ak (hb); replace b2 := ak (hi); (try clear hb); (try clear hb2); (try clear hk); (try clear hi)))
     go_meet
     case rel => exact ⟨_, ((h1 == 0)), (h2), (by first | rfl | (simp; done) | (simp [*]; done)), H', ⟨(by have := h0.out; first | omega | exact Nat.le_refl _)⟩, ⟨(xS a0.out)⟩, ⟨(xQ a2.out)⟩, ⟨(xb a4.out)⟩, ⟨(xb a3.out)⟩, ⟨z1h_2⟩, ⟨z1h_0⟩, ⟨z1h_1⟩⟩
    have H' := ak H
    clear H
    have j8 := b0.out
    have j9 := b7.out
    have k0 := b8.out
    have k1 := a5.out
    have e6 := cz20 a3.out
    have e7 := cz21 a3.out
    have e8 := blk_frozen a3.out 0
    have e9 := blk_frozen a3.out 1
    go_wp2_with (first | ((with_reducible refine gate_callee (f := 30) rfl ?_); refine gl_ (some 35) Try.func30 #[.agg #[.slice b5 b1.length b6, .slice b3 a9.length b4]] ?_; (with_reducible refine (spec_LogicOk.calls f6 _ _ b1 _ _ a9 false _ (y1 a0.out) (y2 a0.out) (y1 a2.out) (y2 a2.out) j3.out).mono ?_); rintro e w' ⟨rfl, hb⟩; refine ⟨_, rfl, ?_⟩; replace a0 := ak (Kd.S_below (xS a0.out) hb); replace a2 := ak (Kd.Q_below (xQ a2.out) hb); replace a4 := ak (blk_below (g := a8) (o := .cells #[.slice none 0 0, .slice none 0 0] 27 (0, 0)) (xb a4.out) hb); replace a3 := ak (blk_below (g := a7) (o := .cells #[.slice b5 b1.length b6, .slice b3 a9.length b4] 27 (0, 0)) (xb a3.out) hb); replace HK := ak (KeepBut.trans z1h_0 (KeepBut.of_below hb g none) (.inl rfl)); replace HB := ak (below_step z1h_1 hb); replace b2 := ak (IsS80.below z1h_2 hb); (try clear hb); (try clear hb2); (try clear hk); (try clear hi)))
    go_meet
    case rel => exact ⟨_, (false), (d5), (by first | rfl | (simp; done) | (simp [*]; done)), H', ⟨(by have := h0.out; first | omega | exact Nat.le_refl _)⟩, ⟨(xS a0.out)⟩, ⟨(xQ a2.out)⟩, ⟨(xb a4.out)⟩, ⟨(xb a3.out)⟩, ⟨z1h_2⟩, ⟨z1h_0⟩, ⟨z1h_1⟩⟩
   case rest =>
    clear g3
    try clear c6
    try clear g5
    try clear g6
    try clear c9
    try clear g7
    try clear g8
    try clear e6
    try clear e7
    try clear e8
    try clear e9
    obtain ⟨kq, f1, d1, rfl, HA, l3, a0, a2, a4, a3, b2, HK, HB⟩ := hcut
    cases kq with
    | zero => exact absurd HA.out (by simp [spec_l20Some.j1])
    | succ f5 =>
     have H := HA.out
     clear HA
     simp only [spec_l20Some.j1] at H
     replace H := ox_ H
     rcases H with ⟨rfl, H⟩ | ⟨rfl, H⟩
     ·
      obtain ⟨h7, l4, H⟩ := bd_ H
      obtain ⟨⟨h8, f7⟩, l5, H⟩ := bd_ H
      try dsimp only at H
      obtain ⟨⟨h9, i0⟩, l6, H⟩ := bd_ H
      try dsimp only at H
      simp only [Option.some.injEq, Prod.mk.injEq] at H
      obtain ⟨rfl, rfl, rfl, rfl⟩ := H
      have k2 := b0.out
      have k3 := b7.out
      have k4 := b8.out
      have k5 := a5.out
      have e6 := cz20 a3.out
      have e7 := cz21 a3.out
      have e8 := blk_frozen a3.out 0
      have e9 := blk_frozen a3.out 1
      try go_wp2_with (first | ((with_reducible refine gate_callee (f := 33) rfl ?_); refine gl_ (some 43) Try.func33 #[.agg #[.slice b5 b1.length b6, .slice b3 a9.length b4], .int .i64 e4] ?_; (with_reducible refine (spec_MadeBy.calls f5 _ _ b1 _ _ a9 e4 h7 _ (y1 a0.out) (y2 a0.out) (y1 a2.out) (y2 a2.out) l4.out).mono ?_); rintro e l7 ⟨rfl, hb⟩; refine ⟨_, rfl, ?_⟩; replace a0 := ak (Kd.S_below (xS a0.out) hb); replace a2 := ak (Kd.Q_below (xQ a2.out) hb); replace a4 := ak (blk_below (g := a8) (o := .cells #[.slice none 0 0, .slice none 0 0] 27 (0, 0)) (xb a4.out) hb); replace a3 := ak (blk_below (g := a7) (o := .cells #[.slice b5 b1.length b6, .slice b3 a9.length b4] 27 (0, 0)) (xb a3.out) hb); replace HK := ak (KeepBut.trans z1h_0 (KeepBut.of_below hb g none) (.inl rfl)); replace HB := ak (below_step z1h_1 hb); replace b2 := ak (IsS80.below z1h_2 hb); (try clear hb); (try clear hb2); (try clear hk); (try clear hi)))
      replace a0 := ak (Kd.S_drew a0.out)
      replace a2 := ak (Kd.Q_drew a2.out)
      replace a4 := ak (blk_drew a4.out)
      replace a3 := ak (blk_drew a3.out)
      replace b2 := ak (IsS80.drew b2.out)
      replace HK := ak (keep_drew HK.out)
      replace HB := ak (below_drew1 HB.out)
      refine start_ (n := 14) (S := fun w' => w'.cell? ⟨a7, 0, none⟩ = some (.slice b5 b1.length b6) ∧ w'.cell? ⟨a7, 1, none⟩ = some (.slice b3 a9.length b4)) (ds := []) (bA 14 0) z1h_12 rfl rfl ⟨(blk_cell a3.out 0).trans rfl, (blk_cell a3.out 1).trans rfl⟩ (fun hHeld => ?_); refine with_tabW spec_l20Some.tab8 spec_l20Some.bits8 (fun HT_ HW_ => ?_)
      generalize l7.drew = m3 at a0 a2 a4 a3 b2 HK HB hHeld ⊢
      refine pu_ (i := 1) (N := some 45) (bA 14 2) ?_
      refine pu_ (i := 2) (N := some 46) (bA 14 6) ?_
      refine pu_ (i := 7) (N := some 51) (bA 14 134) ?_
      refine tk_ (i := 0) (N := some 44) (bA 14 135) ?_
      refine one_ (i := 3) (N := some 47) (bA 14 143) rfl rfl (one_of HT_.out z1h_12) (by decide) (fun K hK => ?_)
      refine ge_ Try.func62 #[.pointer (some ⟨g, 0, none⟩), .int .i64 40] ?_
      with_reducible refine (spec_l20Rd_pick.calls f5 g s0_0 d1 40 h8 f7 w0 _ ?side1 ?side2 l5.out).mono ?_
      (case side1 => repeat (first | (with_reducible first | exact b2.out | apply IsS80.alloc | apply IsS80.drewN | apply IsS80.drew | apply IsS80.set_1 | refine IsS80.far ?_ a6.out _ | refine IsS80.far ?_ a5.out _) | exact b2.out))
      (case side2 => repeat (first | (with_reducible first | exact HB.out | apply below_alloc | apply pw_below_drewN | apply below_drew1 | refine below_set ?_ (IsS80.ge b2.out) | refine below_set ?_ d8.out | refine below_set ?_ e3.out) | exact HB.out))
      rintro e w' ⟨rfl, hi, hb, hk⟩
      refine ⟨_, rfl, ?_⟩
      replace a0 := ak (Kd.S_mono (Kd.S_keep (IsS80.apartS (show IsS80 w0 _ g s0_0 d1 from by repeat (first | (with_reducible first | exact b2.out | apply IsS80.alloc | apply IsS80.drewN | apply IsS80.drew | apply IsS80.set_1 | refine IsS80.far ?_ a6.out _ | refine IsS80.far ?_ a5.out _) | exact b2.out)) (xS a0.out) (by decide)) hk (fun _ h => h.2)) (fun _ h => h.1))
      replace a2 := ak (Kd.Q_mono (Kd.Q_keep (IsS80.apartQ (show IsS80 w0 _ g s0_0 d1 from by repeat (first | (with_reducible first | exact b2.out | apply IsS80.alloc | apply IsS80.drewN | apply IsS80.drew | apply IsS80.set_1 | refine IsS80.far ?_ a6.out _ | refine IsS80.far ?_ a5.out _) | exact b2.out)) (xQ a2.out) (by decide)) hk (fun _ h => h.2)) (fun _ h => h.1))
      replace a4 := ak (KeepBut.blk hk (g' := a8) (o := .cells #[.slice none 0 0, .slice none 0 0] 27 (0, 0)) (xb a4.out) d2.out (by simp))
      replace a3 := ak (KeepBut.blk hk (g' := a7) (o := .cells #[.slice b5 b1.length b6, .slice b3 a9.length b4] 27 (0, 0)) (xb a3.out) b8.out (by simp))
      replace HK := ak (KeepBut.trans z1h_0 hk (.inl rfl))
      replace HB := ak (hb)
      replace b2 := ak (hi)
      (try clear hb)
      (try clear hb2)
      (try clear hk)
      (try clear hi)
      refine hK.out _ _ ⟨(blk_cell a3.out 0).trans rfl, (blk_cell a3.out 1).trans rfl⟩ (fun hHeld => ?_)
      clear hK K
      refine no_ (N := some 47) ?_
      refine pu_ (i := 4) (N := some 48) (bA 14 159) ?_
      refine pu_ (i := 5) (N := some 49) (bA 14 191) ?_
      refine pu_ (i := 6) (N := some 50) (bA 14 255) ?_
      refine one_ (i := 8) (N := some 52) (bA 14 511) rfl rfl (one_of HT_.out z1h_12) (by decide) (fun K hK => ?_)
      refine ge_ Try.func62 #[.pointer (some ⟨g, 0, none⟩), .int .i64 50] ?_
      with_reducible refine (spec_l20Rd_pick.calls f5 g s0_0 f7 50 h9 i0 w0 _ ?side1 ?side2 l6.out).mono ?_
      (case side1 => repeat (first | (with_reducible first | exact b2.out | apply IsS80.alloc | apply IsS80.drewN | apply IsS80.drew | apply IsS80.set_1 | refine IsS80.far ?_ a6.out _ | refine IsS80.far ?_ a5.out _) | exact b2.out))
      (case side2 => repeat (first | (with_reducible first | exact HB.out | apply below_alloc | apply pw_below_drewN | apply below_drew1 | refine below_set ?_ (IsS80.ge b2.out) | refine below_set ?_ d8.out | refine below_set ?_ e3.out) | exact HB.out))
      rintro e w' ⟨rfl, hi, hb, hk⟩
      refine ⟨_, rfl, ?_⟩
      replace a0 := ak (Kd.S_mono (Kd.S_keep (IsS80.apartS (show IsS80 w0 _ g s0_0 f7 from by repeat (first | (with_reducible first | exact b2.out | apply IsS80.alloc | apply IsS80.drewN | apply IsS80.drew | apply IsS80.set_1 | refine IsS80.far ?_ a6.out _ | refine IsS80.far ?_ a5.out _) | exact b2.out)) (xS a0.out) (by decide)) hk (fun _ h => h.2)) (fun _ h => h.1))
      replace a2 := ak (Kd.Q_mono (Kd.Q_keep (IsS80.apartQ (show IsS80 w0 _ g s0_0 f7 from by repeat (first | (with_reducible first | exact b2.out | apply IsS80.alloc | apply IsS80.drewN | apply IsS80.drew | apply IsS80.set_1 | refine IsS80.far ?_ a6.out _ | refine IsS80.far ?_ a5.out _) | exact b2.out)) (xQ a2.out) (by decide)) hk (fun _ h => h.2)) (fun _ h => h.1))
      replace a4 := ak (KeepBut.blk hk (g' := a8) (o := .cells #[.slice none 0 0, .slice none 0 0] 27 (0, 0)) (xb a4.out) d2.out (by simp))
      replace a3 := ak (KeepBut.blk hk (g' := a7) (o := .cells #[.slice b5 b1.length b6, .slice b3 a9.length b4] 27 (0, 0)) (xb a3.out) b8.out (by simp))
      replace HK := ak (KeepBut.trans z1h_0 hk (.inl rfl))
      replace HB := ak (hb)
      replace b2 := ak (hi)
      (try clear hb)
      (try clear hb2)
      (try clear hk)
      (try clear hi)
      refine hK.out _ _ ⟨(blk_cell a3.out 0).trans rfl, (blk_cell a3.out 1).trans rfl⟩ (fun hHeld => ?_)
      clear hK K
      refine no_ (N := some 52) ?_
      refine pu_ (i := 9) (N := some 53) (bA 14 1023) ?_
      refine pu_ (i := 10) (N := some 54) (bA 14 2047) ?_
      refine pu_ (i := 11) (N := some 55) (bA 14 4095) ?_
      refine one_ (i := 12) (N := none) (bA 14 8191) rfl rfl (one_of HT_.out z1h_12) (by decide) (fun K hK => ?_)
      have hs55 : _ := cz20 a4.out
      have hfs55 := blk_frozen a4.out 0
      have hns55_1 := b0.out
      have hms55_1 := b7.out
      have hs56 : _ := cz21 a4.out
      have hfs56 := blk_frozen a4.out 1
      have hns56_1 := b0.out
      have hms56_1 := b7.out
      refine skip_ (w1 := ?_) (by rfl) rfl ?_ ?_
      rotate_left
      ·
       go_simp
       rfl
      refine hK.out _ _ ⟨((cell_far (p := ⟨a8, _, none⟩) b0.out _).trans (((cell_far (p := ⟨a8, _, none⟩) b0.out _).trans (hHeld.1)))), ((cell_far (p := ⟨a8, _, none⟩) b0.out _).trans (((cell_far (p := ⟨a8, _, none⟩) b0.out _).trans (hHeld.2))))⟩ (fun hHeld => ?_)
      clear hK K
      refine pu_ (i := 13) (N := some 5) (bA 14 16383) ?_
      refine done_ (done_of HT_.out z1h_12) ?_
      try go_wp2
      refine bodyPost_ret (results_ct rfl _ _ a8 27 #[.slice b5 b1.length b6, .slice b3 a9.length b4] (0, 0) _ rfl z1h_4 Try.underlying27 rfl z1h_12) rfl ?_
      exact ⟨_, _, z1h_10, z1h_6, z1h_5, z1h_2, z1h_1, z1h_0⟩
     obtain ⟨⟨i1, f8⟩, l8, H⟩ := bd_ H
     try dsimp only at H
     obtain ⟨⟨i2, i3⟩, l9, H⟩ := bd_ H
     try dsimp only at H
     simp only [Option.some.injEq, Prod.mk.injEq] at H
     obtain ⟨rfl, rfl, rfl, rfl⟩ := H
     try go_wp2
     replace a0 := ak (Kd.S_drew a0.out)
     replace a2 := ak (Kd.Q_drew a2.out)
     replace a4 := ak (blk_drew a4.out)
     replace a3 := ak (blk_drew a3.out)
     replace b2 := ak (IsS80.drew b2.out)
     replace HK := ak (keep_drew HK.out)
     replace HB := ak (below_drew1 HB.out)
     refine start_ (n := 14) (S := fun w' => w'.cell? ⟨a7, 0, none⟩ = some (.slice b5 b1.length b6) ∧ w'.cell? ⟨a7, 1, none⟩ = some (.slice b3 a9.length b4)) (ds := []) (bA 14 0) z1h_12 rfl rfl ⟨(blk_cell a3.out 0).trans rfl, (blk_cell a3.out 1).trans rfl⟩ (fun hHeld => ?_); refine with_tabW spec_l20Some.tab8 spec_l20Some.bits8 (fun HT_ HW_ => ?_)
     generalize wc.drew = m4 at a0 a2 a4 a3 b2 HK HB hHeld ⊢
     refine pu_ (i := 1) (N := some 45) (bA 14 2) ?_
     refine pu_ (i := 2) (N := some 46) (bA 14 6) ?_
     refine pu_ (i := 7) (N := some 51) (bA 14 134) ?_
     refine tk_ (i := 0) (N := some 44) (bA 14 135) ?_
     refine one_ (i := 3) (N := some 47) (bA 14 143) rfl rfl (one_of HT_.out z1h_12) (by decide) (fun K hK => ?_)
     refine ge_ Try.func62 #[.pointer (some ⟨g, 0, none⟩), .int .i64 40] ?_
     with_reducible refine (spec_l20Rd_pick.calls f5 g s0_0 d1 40 i1 f8 w0 _ ?side1 ?side2 l8.out).mono ?_
     (case side1 => repeat (first | (with_reducible first | exact b2.out | apply IsS80.alloc | apply IsS80.drewN | apply IsS80.drew | apply IsS80.set_1 | refine IsS80.far ?_ a6.out _ | refine IsS80.far ?_ a5.out _) | exact b2.out))
     (case side2 => repeat (first | (with_reducible first | exact HB.out | apply below_alloc | apply pw_below_drewN | apply below_drew1 | refine below_set ?_ (IsS80.ge b2.out) | refine below_set ?_ d8.out | refine below_set ?_ e3.out) | exact HB.out))
     rintro e w' ⟨rfl, hi, hb, hk⟩
     refine ⟨_, rfl, ?_⟩
     replace a0 := ak (Kd.S_mono (Kd.S_keep (IsS80.apartS (show IsS80 w0 _ g s0_0 d1 from by repeat (first | (with_reducible first | exact b2.out | apply IsS80.alloc | apply IsS80.drewN | apply IsS80.drew | apply IsS80.set_1 | refine IsS80.far ?_ a6.out _ | refine IsS80.far ?_ a5.out _) | exact b2.out)) (xS a0.out) (by decide)) hk (fun _ h => h.2)) (fun _ h => h.1))
     replace a2 := ak (Kd.Q_mono (Kd.Q_keep (IsS80.apartQ (show IsS80 w0 _ g s0_0 d1 from by repeat (first | (with_reducible first | exact b2.out | apply IsS80.alloc | apply IsS80.drewN | apply IsS80.drew | apply IsS80.set_1 | refine IsS80.far ?_ a6.out _ | refine IsS80.far ?_ a5.out _) | exact b2.out)) (xQ a2.out) (by decide)) hk (fun _ h => h.2)) (fun _ h => h.1))
     replace a4 := ak (KeepBut.blk hk (g' := a8) (o := .cells #[.slice none 0 0, .slice none 0 0] 27 (0, 0)) (xb a4.out) d2.out (by simp))
     replace a3 := ak (KeepBut.blk hk (g' := a7) (o := .cells #[.slice b5 b1.length b6, .slice b3 a9.length b4] 27 (0, 0)) (xb a3.out) b8.out (by simp))
     replace HK := ak (KeepBut.trans z1h_0 hk (.inl rfl))
     replace HB := ak (hb)
     replace b2 := ak (hi)
     (try clear hb)
     (try clear hb2)
     (try clear hk)
     (try clear hi)
     refine hK.out _ _ ⟨(blk_cell a3.out 0).trans rfl, (blk_cell a3.out 1).trans rfl⟩ (fun hHeld => ?_)
     clear hK K
     refine no_ (N := some 47) ?_
     refine pu_ (i := 4) (N := some 48) (bA 14 159) ?_
     refine pu_ (i := 5) (N := some 49) (bA 14 191) ?_
     refine pu_ (i := 6) (N := some 50) (bA 14 255) ?_
     refine one_ (i := 8) (N := some 52) (bA 14 511) rfl rfl (one_of HT_.out z1h_12) (by decide) (fun K hK => ?_)
     refine ge_ Try.func62 #[.pointer (some ⟨g, 0, none⟩), .int .i64 50] ?_
     with_reducible refine (spec_l20Rd_pick.calls f5 g s0_0 f8 50 i2 i3 w0 _ ?side1 ?side2 l9.out).mono ?_
     (case side1 => repeat (first | (with_reducible first | exact b2.out | apply IsS80.alloc | apply IsS80.drewN | apply IsS80.drew | apply IsS80.set_1 | refine IsS80.far ?_ a6.out _ | refine IsS80.far ?_ a5.out _) | exact b2.out))
     (case side2 => repeat (first | (with_reducible first | exact HB.out | apply below_alloc | apply pw_below_drewN | apply below_drew1 | refine below_set ?_ (IsS80.ge b2.out) | refine below_set ?_ d8.out | refine below_set ?_ e3.out) | exact HB.out))
     rintro e w' ⟨rfl, hi, hb, hk⟩
     refine ⟨_, rfl, ?_⟩
     replace a0 := ak (Kd.S_mono (Kd.S_keep (IsS80.apartS (show IsS80 w0 _ g s0_0 f8 from by repeat (first | (with_reducible first | exact b2.out | apply IsS80.alloc | apply IsS80.drewN | apply IsS80.drew | apply IsS80.set_1 | refine IsS80.far ?_ a6.out _ | refine IsS80.far ?_ a5.out _) | exact b2.out)) (xS a0.out) (by decide)) hk (fun _ h => h.2)) (fun _ h => h.1))
     replace a2 := ak (Kd.Q_mono (Kd.Q_keep (IsS80.apartQ (show IsS80 w0 _ g s0_0 f8 from by repeat (first | (with_reducible first | exact b2.out | apply IsS80.alloc | apply IsS80.drewN | apply IsS80.drew | apply IsS80.set_1 | refine IsS80.far ?_ a6.out _ | refine IsS80.far ?_ a5.out _) | exact b2.out)) (xQ a2.out) (by decide)) hk (fun _ h => h.2)) (fun _ h => h.1))
     replace a4 := ak (KeepBut.blk hk (g' := a8) (o := .cells #[.slice none 0 0, .slice none 0 0] 27 (0, 0)) (xb a4.out) d2.out (by simp))
     replace a3 := ak (KeepBut.blk hk (g' := a7) (o := .cells #[.slice b5 b1.length b6, .slice b3 a9.length b4] 27 (0, 0)) (xb a3.out) b8.out (by simp))
     replace HK := ak (KeepBut.trans z1h_0 hk (.inl rfl))
     replace HB := ak (hb)
     replace b2 := ak (hi)
     (try clear hb)
     (try clear hb2)
     (try clear hk)
     (try clear hi)
     refine hK.out _ _ ⟨(blk_cell a3.out 0).trans rfl, (blk_cell a3.out 1).trans rfl⟩ (fun hHeld => ?_)
     clear hK K
     refine no_ (N := some 52) ?_
     refine pu_ (i := 9) (N := some 53) (bA 14 1023) ?_
     refine pu_ (i := 10) (N := some 54) (bA 14 2047) ?_
     refine pu_ (i := 11) (N := some 55) (bA 14 4095) ?_
     refine one_ (i := 12) (N := none) (bA 14 8191) rfl rfl (one_of HT_.out z1h_12) (by decide) (fun K hK => ?_)
     have hs62 : _ := cz20 a4.out
     have hfs62 := blk_frozen a4.out 0
     have hns62_1 := b0.out
     have hms62_1 := b7.out
     have hs63 : _ := cz21 a4.out
     have hfs63 := blk_frozen a4.out 1
     have hns63_1 := b0.out
     have hms63_1 := b7.out
     refine skip_ (w1 := ?_) (by rfl) rfl ?_ ?_
     rotate_left
     ·
      go_simp
      rfl
     refine hK.out _ _ ⟨((cell_far (p := ⟨a8, _, none⟩) b0.out _).trans (((cell_far (p := ⟨a8, _, none⟩) b0.out _).trans (hHeld.1)))), ((cell_far (p := ⟨a8, _, none⟩) b0.out _).trans (((cell_far (p := ⟨a8, _, none⟩) b0.out _).trans (hHeld.2))))⟩ (fun hHeld => ?_)
     clear hK K
     refine pu_ (i := 13) (N := some 5) (bA 14 16383) ?_
     refine done_ (done_of HT_.out z1h_12) ?_
     try go_wp2
     refine bodyPost_ret (results_ct rfl _ _ a8 27 #[.slice b5 b1.length b6, .slice b3 a9.length b4] (0, 0) _ rfl z1h_4 Try.underlying27 rfl z1h_12) rfl ?_
     exact ⟨_, _, z1h_10, z1h_6, z1h_5, z1h_2, z1h_1, z1h_0⟩

end Go.Proofs.Ytacifhahfamipaa.P
