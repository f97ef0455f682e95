/- 1 texts of this seat joined: walks, and the laws of what they compute. -/
import Derived.Test.YtacifhahfamipaaPk2
import Derived.Test.YtacifhahfamipaaPk3
import Derived.Test.YtacifhahfamipaaPk7
import Derived.Test.YtacifhahfamipaaPk4
import Derived.Test.YtacifhahfamipaaPk6
namespace Go.Proofs.Ytacifhahfamipaa.P
open Go.RowKit Go.Proofs.YtacifhahfamipaaW.PrintWords Go.Proofs.YtacifhahfamipaaW.PrintLast Go.Proofs.YtacifhahfamipaaW.PrintMore
attribute [local go_sem] max2_int min2_int max_two min_two max_three min_three max_four min_four
set_option linter.unusedVariables false
set_option linter.unusedSimpArgs false
def laws_FnRenamed.T15 : Bool × List (List Nat × List Nat) := (true, [([], []), ([0], [0]), ([1], [1]), ([2], [2]), ([2], [2]), ([3, 4, 2], [2, 3, 4]), ([5, 2], [2, 5]), ([2], [2]), ([2], [2]), ([2], [2]), ([8, 9, 2], [2, 8, 9]), ([10, 2], [2, 10]), ([2], [2]), ([2], [2]), ([12, 13, 2], [2, 12, 13]), ([14, 2], [2, 14]), ([7, 11, 15, 2, 2], [2, 7, 11, 15]), ([6, 16, 2], [2, 6, 16]), ([2, 17], [2, 17])])
def laws_FnRenamed.B15 : List Nat := [0, 1, 3, 7, 7, 31, 63, 7, 7, 7, 775, 1799, 7, 7, 12295, 28679, 65415, 131071, 262143]
theorem laws_FnRenamed.tab15 : rtab .any (opsOf Try.f11 15) = laws_FnRenamed.T15 := by kernel_rfl
theorem laws_FnRenamed.bits15 : waitsOk laws_FnRenamed.T15.2 laws_FnRenamed.B15 = true := by kernel_rfl
def laws_FnRenamed.T17 : Bool × List (List Nat × List Nat) := (true, [([], []), ([0], [0]), ([1, 1], [1]), ([2], [2]), ([3, 2], [2, 3]), ([4, 2, 2], [2, 4]), ([5, 2], [2, 5]), ([2], [2]), ([7, 2], [2, 7]), ([8, 5, 2], [2, 8]), ([9, 2], [2, 9]), ([6, 10, 2], [2, 6, 10]), ([2, 11], [2, 11]), ([12, 9, 0, 1, 2, 3, 4, 5, 6, 7, 8, 9, 10, 11, 12], [12])])
def laws_FnRenamed.B17 : List Nat := [0, 1, 3, 7, 15, 31, 63, 7, 135, 447, 959, 2047, 4095, 8191]
theorem laws_FnRenamed.tab17 : rtab .any (opsOf Try.f11 17) = laws_FnRenamed.T17 := by kernel_rfl
theorem laws_FnRenamed.bits17 : waitsOk laws_FnRenamed.T17.2 laws_FnRenamed.B17 = true := by kernel_rfl
theorem zf_15 {p : Prop} (h : p := by kernel_rfl) : p := h
theorem zf_14 {p : Prop} (h : p := by first | rfl | (simp [errW_none, errW_some] <;> rfl) | (simp [*, errW_none, errW_some] <;> rfl)) : p := h
theorem zf_13 {p : Prop} (h : p := by (try simp only [List.map_toArray, List.map_cons, List.map_nil]); first | done | (simp only [hji61]; rfl) | rfl | (simp only [List.length_drop, List.length_take]; rfl)) : p := h
theorem zf_12 {p : Prop} (h : p := by (with_reducible repeat (first | apply Kd.S_alloc | apply Kd.S_drewN | apply Kd.S_drew)); exact (Kd.S_mono (Kd.S_far (p := ⟨b1, 1, none⟩) (Kd.S_far (p := ⟨b1, 0, none⟩) (Kd.S_types b4.out a2.out (by decide)) (fun _ hk => hk.2) (.slice f7 b5.length f6)) (fun _ hk => hk.2) (.slice f2 b0.length e9)) (fun _ h_ => h_.1))) : p := h
theorem zf_11 {p : Prop} (h : p := by (with_reducible repeat (first | apply Kd.S_alloc | apply Kd.S_drewN | apply Kd.S_drew)); exact (Kd.S_mono (Kd.S_far (p := ⟨b1, 1, none⟩) (Kd.S_far (p := ⟨b1, 0, none⟩) (Kd.S_types b4.out a2.out (by decide)) (fun _ hk => hk.2) (.slice e1 b5.length e0)) (fun _ hk => hk.2) (.slice d6 b0.length d5)) (fun _ h_ => h_.1))) : p := h
theorem zf_10 {p : Prop} (h : p := by (with_reducible repeat (first | apply Kd.S_alloc | apply Kd.S_drewN | apply Kd.S_drew)); exact (Kd.S_mono (Kd.S_far (p := ⟨b1, 1, none⟩) (Kd.S_far (p := ⟨b1, 0, none⟩) (Kd.S_types b4.out a2.out (by decide)) (fun _ hk => hk.2) (.slice g3 b5.length f8)) (fun _ hk => hk.2) (.slice f5 b0.length f3)) (fun _ h_ => h_.1))) : p := h
theorem zf_9 {p : Prop} (h : p := by (with_reducible repeat (first | refine blk_drewN ?_ _ | refine blk_drew ?_ | refine blk_alloc ?_ _)); refine blk_far ?_ b9.out _; (with_reducible repeat (first | refine blk_drewN ?_ _ | refine blk_drew ?_ | refine blk_alloc ?_ _)); refine blk_far ?_ b9.out _; (with_reducible repeat (first | refine blk_drewN ?_ _ | refine blk_drew ?_ | refine blk_alloc ?_ _)); exact a2.out) : p := h
theorem zf_8 {p : Prop} (h : p := by (with_reducible repeat (first | apply Kd.Q_alloc | apply Kd.Q_drewN | apply Kd.Q_drew)); exact (Kd.Q_mono (Kd.Q_far (p := ⟨b1, 1, none⟩) (Kd.Q_far (p := ⟨b1, 0, none⟩) (Kd.Q_types b2.out a2.out (by decide)) (fun _ hk => hk.2) (.slice f7 b5.length f6)) (fun _ hk => hk.2) (.slice f2 b0.length e9)) (fun _ h_ => h_.1))) : p := h
theorem zf_7 {p : Prop} (h : p := by (with_reducible repeat (first | apply Kd.Q_alloc | apply Kd.Q_drewN | apply Kd.Q_drew)); exact (Kd.Q_mono (Kd.Q_far (p := ⟨b1, 1, none⟩) (Kd.Q_far (p := ⟨b1, 0, none⟩) (Kd.Q_types b2.out a2.out (by decide)) (fun _ hk => hk.2) (.slice e1 b5.length e0)) (fun _ hk => hk.2) (.slice d6 b0.length d5)) (fun _ h_ => h_.1))) : p := h
theorem zf_6 {p : Prop} (h : p := by (with_reducible repeat (first | apply Kd.Q_alloc | apply Kd.Q_drewN | apply Kd.Q_drew)); exact (Kd.Q_mono (Kd.Q_far (p := ⟨b1, 1, none⟩) (Kd.Q_far (p := ⟨b1, 0, none⟩) (Kd.Q_types b2.out a2.out (by decide)) (fun _ hk => hk.2) (.slice g3 b5.length f8)) (fun _ hk => hk.2) (.slice f5 b0.length f3)) (fun _ h_ => h_.1))) : p := h
theorem zf_5 {p : Prop} (h : p := by (with_reducible repeat (first | apply Kd.R_alloc | apply Kd.R_drewN | apply Kd.R_drew)); exact (Kd.R_mono (Kd.R_far (p := ⟨b1, 1, none⟩) (Kd.R_far (p := ⟨b1, 0, none⟩) (Kd.R_types b3.out a2.out (by decide)) (fun _ hk => hk.2) (.slice f7 b5.length f6)) (fun _ hk => hk.2) (.slice f2 b0.length e9)) (fun _ h_ => h_.1))) : p := h
theorem zf_4 {p : Prop} (h : p := by (with_reducible repeat (first | apply Kd.R_alloc | apply Kd.R_drewN | apply Kd.R_drew)); exact (Kd.R_mono (Kd.R_far (p := ⟨b1, 1, none⟩) (Kd.R_far (p := ⟨b1, 0, none⟩) (Kd.R_types b3.out a2.out (by decide)) (fun _ hk => hk.2) (.slice e1 b5.length e0)) (fun _ hk => hk.2) (.slice d6 b0.length d5)) (fun _ h_ => h_.1))) : p := h
theorem zf_3 {p : Prop} (h : p := by (with_reducible repeat (first | apply Kd.R_alloc | apply Kd.R_drewN | apply Kd.R_drew)); exact (Kd.R_mono (Kd.R_far (p := ⟨b1, 1, none⟩) (Kd.R_far (p := ⟨b1, 0, none⟩) (Kd.R_types b3.out a2.out (by decide)) (fun _ hk => hk.2) (.slice g3 b5.length f8)) (fun _ hk => hk.2) (.slice f5 b0.length f3)) (fun _ h_ => h_.1))) : p := h
theorem zf_2 {p : Prop} (h : p := by repeat (first | (with_reducible first | exact HB.out | apply below_alloc | apply pw_below_drewN | apply below_drew1) | exact HB.out)) : p := h
theorem zf_1 {p : Prop} (h : p := by repeat (first | (with_reducible first | exact HB.out | apply below_alloc | apply pw_below_drewN | apply below_drew1 | refine below_set ?_ h3.out) | exact HB.out)) : p := h
theorem zf_0 {p : Prop} (h : p := by repeat (first | (with_reducible first | exact HB.out | apply below_alloc | apply pw_below_drewN | apply below_drew1 | refine below_set ?_ h3.out | refine below_set ?_ h7.out) | exact HB.out)) : p := h
set_option maxHeartbeats 8000000 in
set_option maxRecDepth 100000 in
theorem laws_FnRenamed.calls (k : Nat) (A0 : Option Addr) (c0 : Nat) (l0 : List Int) (r : Bool) (w : World) (hr0 : Kd.C (Kd.int .u8) w A0 l0.length l0) (hc0 : l0.length ≤ c0) (h : laws_FnRenamed.f k l0 = some r) :
 Calls Try.prog 11 #[.slice A0 l0.length c0] w fun e w' => e = .returned (.bool r) ∧ Below w.heap.size w w' := by
 have hu27 := Try.underlying27
 have HR0 := ak hr0
 have m4 := ak hc0
 clear hr0 hc0
 have HB := ak (Below.refl w.heap.size w)
 have H : (if (l0.length : Int) > 1048576 then (some true) else ((spec_DrawRenamed.f k l0).bind fun f4 => ((impl_Renamed.f f4.1 f4.2.1 f4.2.2).bind fun g9 => ((spec_Renamed.f k f4.1 f4.2.1 f4.2.2).bind fun h9 => ((laws_sameLogic.f k g9.1 g9.2 h9.1 h9.2).bind fun i6 => (if i6 = true then (if (g9.2.length : Int) = 0 then ((laws_alive.f k).bind fun i0 => (some i0)) else (laws_FnRenamed.l0 k f4.2.2 (f4.2.2.length : Int) 0 f4.1 f4.2.1 g9.1 g9.2)) else (some false))))))) = some r := h
 clear h
 replace H := op_ H
 rcases H with ⟨c2, H⟩ | ⟨c2, H⟩
 ·
  have j7 : decide (1048576 < (l0.length : Int)) = true := dT_ c2
  have j8 : decide (1048576 < l0.length) = true := dT_ (by omega)
  clear c2
  obtain rfl := Option.some.inj H
  go_enter Try.func11, Try.ntmps11
  go_wp2
  go_ret
  exact ⟨zf_14, zf_2⟩
 have j7 : decide (1048576 < (l0.length : Int)) = false := dF_ c2
 have j8 : decide (1048576 < l0.length) = false := dF_ (by omega)
 clear c2
 replace H := bd_ H
 obtain ⟨⟨b5, b0, b7⟩, A3, H⟩ := H
 try dsimp only at H
 replace H := bd_ H
 obtain ⟨⟨a9, a6⟩, A4, H⟩ := H
 try dsimp only at H
 replace H := bd_ H
 obtain ⟨⟨g6, g7⟩, A5, H⟩ := H
 try dsimp only at H
 replace H := bd_ H
 obtain ⟨i6, A6, H⟩ := H
 try dsimp only at H
 replace H := ox_ H
 rcases H with ⟨rfl, H⟩ | ⟨rfl, H⟩
 ·
  replace H := oe2 H
  rcases H with ⟨⟨-, j9, k0⟩, H⟩ | ⟨⟨c8, j9, k0⟩, H⟩
  ·
   replace H := bd_ H
   obtain ⟨i0, A9, H⟩ := H
   try dsimp only at H
   obtain rfl := Option.some.inj H
   go_enter Try.func11, Try.ntmps11
   try go_wp2_with (first | ((with_reducible refine gate_callee (f := 48) rfl ?_); refine gl_ (some 15) Try.func48 #[.slice A0 l0.length c0] ?_; (with_reducible refine (spec_DrawRenamed.calls k _ _ l0 b5 b0 b7 _ (y4 HR0.out) m4.out A3.out).mono ?_); rintro e w' ⟨i7, i8, i9, rfl, ho0, ho1, ho2, hb⟩; refine ⟨_, rfl, ?_⟩; have b4 := ak (Kd.S_lower ho0 (below_size zf_2)); have b2 := ak (Kd.Q_lower ho1 (below_size zf_2)); have b3 := ak (Kd.R_lower ho2 (below_size zf_2)); replace HB := ak (below_step zf_2 hb); (try clear hb); (try clear hb2); (try clear hk); (try clear hi); (try clear ho0); (try clear ho1); (try clear ho2)) | ((with_reducible refine gate_dst (N := 3) rfl ?_); (try (refine gate_guard (by rfl) ?_; dsimp only)); refine box_event ?hg (N := 3) ?hd (cs := #[.slice none 0 0, .slice none 0 0]) (t := 27) ?hr ?_; (case hd => rfl); (case hg => rfl); (case hr => first | (go_simp; done) | (go_simp; rfl)); intro b1 hg x0 hbox hb; replace b4 := ak (Kd.S_below (xS b4.out) hb); replace b2 := ak (Kd.Q_below (xQ b2.out) hb); replace b3 := ak (Kd.R_below (xR b3.out) hb); have a2 := ak (hbox); have i1 := ak ((by rw [hg]; exact (below_size zf_2) : w.heap.size ≤ b1)); have h3 := ak ((by rw [hg]; exact (below_size zf_2) : w.heap.size ≤ b1)); replace HB := ak (below_step zf_2 hb); clear hb hbox hg; obtain ⟨f7, f6, m5⟩ := Kd.S_slice b4.out; subst m5; have f9 := cz20 a2.out; have g0 := cz21 a2.out; have g1 := blk_frozen a2.out 0; have g2 := blk_frozen a2.out 1; obtain ⟨f2, e9, m6, _⟩ := Kd.Q_slice b2.out; subst m6; obtain ⟨h4, h0, m7⟩ := Kd.R_slice b3.out; subst m7) | ((with_reducible refine gate_callee (f := 49) rfl ?_); refine gl_ (some 20) Try.func49 #[.agg #[.slice f7 b5.length f6, .slice f2 b0.length e9], .slice h4 b7.length h0] ?_; (with_reducible refine (impl_Renamed.calls _ _ b5 _ _ b0 _ _ b7 a9 a6 _ (by refine (Kd.S_reads' (e := 25) (base := w.heap.size) (ok := fun k_ => (some k_ ≠ (.slice f2 b0.length e9 : Value).ownBlock ∧ some k_ ≠ (.slice h4 b7.length h0 : Value).ownBlock)) (n := b5.length) (c := f6) ?_).2.2; exact zf_12) (y2 b4.out) (by refine (Kd.Q_reads' (e := 3) (base := w.heap.size) (ok := fun k_ => some k_ ≠ (.slice h4 b7.length h0 : Value).ownBlock) (n := b0.length) (c := e9) ?_).2.2; exact zf_8) (y2 b2.out) (by refine (Kd.R_reads' (e := 3) (base := w.heap.size) (ok := fun k_ => some k_ ≠ (.slice f2 b0.length e9 : Value).ownBlock) (n := b7.length) (c := h0) ?_).2.2; exact zf_5) (y2 b3.out) A4.out).mono ?_); rintro e w' ⟨j0, j1, rfl, ho0, ho1, hb⟩; refine ⟨_, rfl, ?_⟩; have b8 := ak (Kd.S_lower (Kd.S_new' (Kd.S_new' (Kd.S_new' ho0 (Kd.S_lt zf_12)) (Kd.Q_lt zf_8)) (Kd.R_lt zf_5)) (below_size zf_1)); replace b4 := ak (Kd.S_mono (Kd.S_told (Kd.S_told (Kd.S_old zf_12 hb) (Kd.S_base ho0)) (Kd.R_base ho1)) (fun _ h_ => h_.1)); have b6 := ak (Kd.R_lower (Kd.R_new' (Kd.R_new' ho1 (Kd.Q_lt zf_8)) (Kd.R_lt zf_5)) (below_size zf_1)); replace b2 := ak (Kd.Q_elder' zf_8 (Kd.R_base ho1) hb); replace b3 := ak (Kd.R_elder' zf_5 (Kd.R_base ho1) hb); replace a2 := ak (blk_below (g := b1) (o := .cells #[.slice f7 b5.length f6, .slice f2 b0.length e9] 27 (0, 0)) (by (with_reducible repeat (first | refine blk_drewN ?_ _ | refine blk_drew ?_ | refine blk_alloc ?_ _)); refine blk_put (cs := #[.slice f7 b5.length f6, .slice none 0 0]) ?_ 1 _ rfl; (with_reducible repeat (first | refine blk_drewN ?_ _ | refine blk_drew ?_ | refine blk_alloc ?_ _)); refine blk_put (cs := #[.slice none 0 0, .slice none 0 0]) ?_ 0 _ rfl; (with_reducible repeat (first | refine blk_drewN ?_ _ | refine blk_drew ?_ | refine blk_alloc ?_ _)); exact a2.out) hb); replace HB := ak (below_step zf_1 hb); (try clear hb); (try clear hb2); (try clear hk); (try clear hi); (try clear ho0); (try clear ho1)) | ((with_reducible refine gate_dst (N := 5) rfl ?_); (try (refine gate_guard (by rfl) ?_; dsimp only)); refine box_event ?hg (N := 5) ?hd (cs := #[.slice none 0 0, .slice none 0 0]) (t := 27) ?hr ?_; (case hd => rfl); (case hg => rfl); (case hr => first | (go_simp; done) | (go_simp; rfl)); intro a3 hg i3 hbox hb; replace b4 := ak (Kd.S_below (xS b4.out) hb); replace b2 := ak (Kd.Q_below (xQ b2.out) hb); replace b3 := ak (Kd.R_below (xR b3.out) hb); replace b8 := ak (Kd.S_below (xS b8.out) hb); replace b6 := ak (Kd.R_below (xR b6.out) hb); have a1 := ak (hbox); have i2 := ak ((by rw [hg]; exact (below_size zf_1) : w.heap.size ≤ a3)); have h7 := ak ((by rw [hg]; exact (below_size zf_1) : w.heap.size ≤ a3)); replace HB := ak (below_step zf_1 hb); have b9 := ak ((by rw [hg]; exact Nat.ne_of_lt (blk_lt (g := b1) (o := .cells #[.slice f7 b5.length f6, .slice f2 b0.length e9] 27 (0, 0)) (xb a2.out)) : b1 ≠ a3)); have d7 := ak ((by rw [hg]; exact Nat.ne_of_gt (blk_lt (g := b1) (o := .cells #[.slice f7 b5.length f6, .slice f2 b0.length e9] 27 (0, 0)) (xb a2.out)) : a3 ≠ b1)); replace a2 := ak (blk_below (g := b1) (o := .cells #[.slice f7 b5.length f6, .slice f2 b0.length e9] 27 (0, 0)) (xb a2.out) hb); clear hb hbox hg; obtain ⟨e7, e8, m8⟩ := Kd.S_slice b8.out; subst m8; have q0 := d7.out; have q1 := b9.out; have f9 := cz20 a1.out; have g0 := cz21 a1.out; have g1 := blk_frozen a1.out 0; have g2 := blk_frozen a1.out 1; obtain ⟨e2, e3, m9⟩ := Kd.R_slice b6.out; subst m9))
   have n0_ : Aside0 (Kd.S (Kd.slice 3 (Kd.int .i64)) 25 ((i3.setCell ⟨a3, 0, none⟩ (.slice e7 a9.length e8)).setCell ⟨a3, 1, none⟩ (.slice e2 a6.length e3)) w.heap.size (fun k_ => some k_ ≠ (.slice f2 b0.length e9 : Value).ownBlock ∧ some k_ ≠ (.slice h4 b7.length h0 : Value).ownBlock ∧ some k_ ≠ (.slice e7 a9.length e8 : Value).ownBlock ∧ some k_ ≠ (.slice e2 a6.length e3 : Value).ownBlock) (.slice f7 b5.length f6) b5) := ⟨(by (with_reducible repeat (first | apply Kd.S_alloc | apply Kd.S_drewN | apply Kd.S_drew)); exact Kd.S_mono (Kd.S_far (p := ⟨a3, 1, none⟩) (Kd.S_far (p := ⟨a3, 0, none⟩) (Kd.S_types b4.out a1.out (by decide)) (fun _ hk => hk.2) (.slice e7 a9.length e8)) (fun _ hk => hk.2) (.slice e2 a6.length e3)) (fun _ hk => ⟨hk.1.1.1.1, ⟨hk.1.1.1.2, ⟨hk.1.1.2, hk.1.2⟩⟩⟩))⟩
   have n1_ : Aside0 (Kd.Q (Kd.int .i64) 3 ((i3.setCell ⟨a3, 0, none⟩ (.slice e7 a9.length e8)).setCell ⟨a3, 1, none⟩ (.slice e2 a6.length e3)) w.heap.size (fun k_ => some k_ ≠ (.slice h4 b7.length h0 : Value).ownBlock ∧ some k_ ≠ (.slice e2 a6.length e3 : Value).ownBlock) (.slice f2 b0.length e9) b0) := ⟨(by (with_reducible repeat (first | apply Kd.Q_alloc | apply Kd.Q_drewN | apply Kd.Q_drew)); exact Kd.Q_mono (Kd.Q_far (p := ⟨a3, 1, none⟩) (Kd.Q_far (p := ⟨a3, 0, none⟩) (Kd.Q_types b2.out a1.out (by decide)) (fun _ hk => hk.2) (.slice e7 a9.length e8)) (fun _ hk => hk.2) (.slice e2 a6.length e3)) (fun _ hk => ⟨hk.1.1, hk.1.2⟩))⟩
   have n2_ : Aside0 (Kd.R (Kd.int .i64) 3 ((i3.setCell ⟨a3, 0, none⟩ (.slice e7 a9.length e8)).setCell ⟨a3, 1, none⟩ (.slice e2 a6.length e3)) w.heap.size (fun k_ => some k_ ≠ (.slice f2 b0.length e9 : Value).ownBlock ∧ some k_ ≠ (.slice e2 a6.length e3 : Value).ownBlock) (.slice h4 b7.length h0) b7) := ⟨(by (with_reducible repeat (first | apply Kd.R_alloc | apply Kd.R_drewN | apply Kd.R_drew)); exact Kd.R_mono (Kd.R_far (p := ⟨a3, 1, none⟩) (Kd.R_far (p := ⟨a3, 0, none⟩) (Kd.R_types b3.out a1.out (by decide)) (fun _ hk => hk.2) (.slice e7 a9.length e8)) (fun _ hk => hk.2) (.slice e2 a6.length e3)) (fun _ hk => ⟨hk.1.1, hk.1.2⟩))⟩
   have n3_ : Aside0 (Kd.S (Kd.slice 3 (Kd.int .i64)) 25 ((i3.setCell ⟨a3, 0, none⟩ (.slice e7 a9.length e8)).setCell ⟨a3, 1, none⟩ (.slice e2 a6.length e3)) w.heap.size (fun k_ => some k_ ≠ (.slice f7 b5.length f6 : Value).ownBlock ∧ some k_ ≠ (.slice f2 b0.length e9 : Value).ownBlock ∧ some k_ ≠ (.slice h4 b7.length h0 : Value).ownBlock ∧ some k_ ≠ (.slice e2 a6.length e3 : Value).ownBlock) (.slice e7 a9.length e8) a9) := ⟨(by (with_reducible repeat (first | apply Kd.S_alloc | apply Kd.S_drewN | apply Kd.S_drew)); exact Kd.S_mono (Kd.S_far (p := ⟨a3, 1, none⟩) (Kd.S_far (p := ⟨a3, 0, none⟩) (Kd.S_types b8.out a1.out (by decide)) (fun _ hk => hk.2) (.slice e7 a9.length e8)) (fun _ hk => hk.2) (.slice e2 a6.length e3)) (fun _ hk => ⟨hk.1.1.1.2, ⟨hk.1.1.2, ⟨hk.1.2, hk.1.1.1.1⟩⟩⟩))⟩
   have n4_ : Aside0 (Kd.R (Kd.int .i64) 3 ((i3.setCell ⟨a3, 0, none⟩ (.slice e7 a9.length e8)).setCell ⟨a3, 1, none⟩ (.slice e2 a6.length e3)) w.heap.size (fun k_ => some k_ ≠ (.slice f2 b0.length e9 : Value).ownBlock ∧ some k_ ≠ (.slice h4 b7.length h0 : Value).ownBlock) (.slice e2 a6.length e3) a6) := ⟨(by (with_reducible repeat (first | apply Kd.R_alloc | apply Kd.R_drewN | apply Kd.R_drew)); exact Kd.R_mono (Kd.R_far (p := ⟨a3, 1, none⟩) (Kd.R_far (p := ⟨a3, 0, none⟩) (Kd.R_types b6.out a1.out (by decide)) (fun _ hk => hk.2) (.slice e7 a9.length e8)) (fun _ hk => hk.2) (.slice e2 a6.length e3)) (fun _ hk => ⟨hk.1.1.2, hk.1.2⟩))⟩
   have n5_ : Aside0 (((i3.setCell ⟨a3, 0, none⟩ (.slice e7 a9.length e8)).setCell ⟨a3, 1, none⟩ (.slice e2 a6.length e3)).heap[b1]? = some (.cells #[.slice f7 b5.length f6, .slice f2 b0.length e9] 27 (0, 0))) := ⟨zf_9⟩
   have n6_ : Aside0 (((i3.setCell ⟨a3, 0, none⟩ (.slice e7 a9.length e8)).setCell ⟨a3, 1, none⟩ (.slice e2 a6.length e3)).heap[a3]? = some (.cells #[.slice e7 a9.length e8, .slice e2 a6.length e3] 27 (0, 0))) := ⟨(by (with_reducible repeat (first | refine blk_drewN ?_ _ | refine blk_drew ?_ | refine blk_alloc ?_ _)); refine blk_put (cs := #[.slice e7 a9.length e8, .slice none 0 0]) ?_ 1 _ rfl; (with_reducible repeat (first | refine blk_drewN ?_ _ | refine blk_drew ?_ | refine blk_alloc ?_ _)); refine blk_put (cs := #[.slice none 0 0, .slice none 0 0]) ?_ 0 _ rfl; (with_reducible repeat (first | refine blk_drewN ?_ _ | refine blk_drew ?_ | refine blk_alloc ?_ _)); exact a1.out)⟩
   have n7_ : Aside0 (Below w.heap.size w ((i3.setCell ⟨a3, 0, none⟩ (.slice e7 a9.length e8)).setCell ⟨a3, 1, none⟩ (.slice e2 a6.length e3))) := ⟨zf_0⟩
   (try clear b4)
   (try clear b2)
   (try clear b3)
   (try clear b8)
   (try clear b6)
   (try clear a2)
   (try clear a1)
   (try clear HB)
   generalize ((i3.setCell ⟨a3, 0, none⟩ (.slice e7 a9.length e8)).setCell ⟨a3, 1, none⟩ (.slice e2 a6.length e3)) = u6 at n0_ n1_ n2_ n3_ n4_ n5_ n6_ n7_ ⊢
   have b4 := n0_
   have b2 := n1_
   have b3 := n2_
   have b8 := n3_
   have b6 := n4_
   have a2 := n5_
   have a1 := n6_
   have HB := n7_
   clear n0_ n1_ n2_ n3_ n4_ n5_ n6_ n7_
   replace b4 := ak (Kd.S_drew b4.out)
   replace b2 := ak (Kd.Q_drew b2.out)
   replace b3 := ak (Kd.R_drew b3.out)
   replace b8 := ak (Kd.S_drew b8.out)
   replace b6 := ak (Kd.R_drew b6.out)
   replace a2 := ak (blk_drew a2.out)
   replace a1 := ak (blk_drew a1.out)
   replace HB := ak (below_drew1 HB.out)
   refine start_ (n := 6) (S := fun w' => w'.cell? ⟨a3, 0, none⟩ = some (.slice e7 a9.length e8) ∧ w'.cell? ⟨a3, 1, none⟩ = some (.slice e2 a6.length e3) ∧ w'.cell? ⟨b1, 0, none⟩ = some (.slice f7 b5.length f6) ∧ w'.cell? ⟨b1, 1, none⟩ = some (.slice f2 b0.length e9)) (ds := []) (bA 6 0) zf_15 rfl rfl ⟨(blk_cell a1.out 0).trans rfl, (blk_cell a1.out 1).trans rfl, (blk_cell a2.out 0).trans rfl, (blk_cell a2.out 1).trans rfl⟩ (fun hHeld => ?_)
   generalize u6.drew = x1 at b4 b2 b3 b8 b6 a2 a1 HB hHeld ⊢
   refine pu_ (i := 2) (N := some 23) (bA 6 4) ?_
   refine tk_ (i := 0) (N := some 21) (bA 6 5) ?_
   refine tk_ (i := 1) (N := some 22) (bA 6 7) ?_
   refine one_ (i := 3) (N := some 24) (bA 6 15) rfl rfl zf_15 (by decide) (fun K hK => ?_)
   refine ge_ Try.func50 #[.agg #[.slice f7 b5.length f6, .slice f2 b0.length e9], .slice h4 b7.length h0] ?_
   with_reducible refine (spec_Renamed.calls k _ _ b5 _ _ b0 _ _ b7 g6 g7 _ ?side1 ?side2 ?side3 ?side4 ?side5 ?side6 A5.out).mono ?_
   (case side1 => repeat (first | exact (Kd.S_reads' b4.out).2.2 | (with_reducible refine Kd.C_alloc ?_ _) | (with_reducible refine Kd.C_drewN ?_ _) | (with_reducible refine Kd.C_drew ?_)))
   (case side2 => exact (Kd.S_reads' b4.out).2.1)
   (case side3 => repeat (first | exact (Kd.Q_reads' b2.out).2.2 | (with_reducible refine Kd.C_alloc ?_ _) | (with_reducible refine Kd.C_drewN ?_ _) | (with_reducible refine Kd.C_drew ?_)))
   (case side4 => exact (Kd.Q_reads' b2.out).2.1)
   (case side5 => repeat (first | exact (Kd.R_reads' b3.out).2.2 | (with_reducible refine Kd.C_alloc ?_ _) | (with_reducible refine Kd.C_drewN ?_ _) | (with_reducible refine Kd.C_drew ?_)))
   (case side6 => exact (Kd.R_reads' b3.out).2.1)
   rintro e w' ⟨j2, j3, rfl, ho0, ho1, hb⟩
   refine ⟨_, rfl, ?_⟩
   have d8 := ak (Kd.S_lower (Kd.S_new' (Kd.S_new' (Kd.S_new' (Kd.S_new' (Kd.S_new' ho0 (Kd.S_lt (xS b4.out))) (Kd.Q_lt (xQ b2.out))) (Kd.R_lt (xR b3.out))) (Kd.S_lt (xS b8.out))) (Kd.R_lt (xR b6.out))) (below_size zf_0))
   replace b4 := ak (Kd.S_mono (Kd.S_told (Kd.S_told (Kd.S_old (xS b4.out) hb) (Kd.S_base ho0)) (Kd.R_base ho1)) (fun _ h_ => h_.1))
   replace b8 := ak (Kd.S_mono (Kd.S_told (Kd.S_told (Kd.S_old (xS b8.out) hb) (Kd.S_base ho0)) (Kd.R_base ho1)) (fun _ h_ => h_.1))
   have d9 := ak (Kd.R_lower (Kd.R_new' (Kd.R_new' (Kd.R_new' ho1 (Kd.Q_lt (xQ b2.out))) (Kd.R_lt (xR b3.out))) (Kd.R_lt (xR b6.out))) (below_size zf_0))
   replace b2 := ak (Kd.Q_elder' (xQ b2.out) (Kd.R_base ho1) hb)
   replace b3 := ak (Kd.R_elder' (xR b3.out) (Kd.R_base ho1) hb)
   replace b6 := ak (Kd.R_elder' (xR b6.out) (Kd.R_base ho1) hb)
   replace a2 := ak (blk_below (g := b1) (o := .cells #[.slice f7 b5.length f6, .slice f2 b0.length e9] 27 (0, 0)) (xb a2.out) hb)
   replace a1 := ak (blk_below (g := a3) (o := .cells #[.slice e7 a9.length e8, .slice e2 a6.length e3] 27 (0, 0)) (xb a1.out) hb)
   replace HB := ak (below_step zf_0 hb)
   (try clear hb)
   (try clear hb2)
   (try clear hk)
   (try clear hi)
   (try clear ho0)
   (try clear ho1)
   obtain ⟨n0, n1, k2⟩ := Kd.S_slice d8.out
   (first | subst k2 | (injection k2 with f1_ f2_ f3_; have f4_ := f1_.symm; have f5_ := f3_.symm; clear f1_ f2_ f3_; subst f4_; subst f5_))
   obtain ⟨n2, n3, k3⟩ := Kd.R_slice d9.out
   (first | subst k3 | (injection k3 with f1_ f2_ f3_; have f4_ := f1_.symm; have f5_ := f3_.symm; clear f1_ f2_ f3_; subst f4_; subst f5_))
   refine hK.out _ _ ⟨(blk_cell a1.out 0).trans rfl, (blk_cell a1.out 1).trans rfl, (blk_cell a2.out 0).trans rfl, (blk_cell a2.out 1).trans rfl⟩ (fun hHeld => ?_)
   clear hK K
   refine no_ (N := some 24) ?_
   refine one_ (i := 4) (N := some 25) (bA 6 31) rfl rfl zf_15 (by decide) (fun K hK => ?_)
   refine ge_ Try.func17 #[.agg #[.slice e7 a9.length e8, .slice e2 a6.length e3], .agg #[.slice n0 g6.length n1, .slice n2 g7.length n3]] ?_
   with_reducible refine (laws_sameLogic.calls k _ _ a9 _ _ a6 _ _ g6 _ _ g7 true _ ?side1 ?side2 ?side3 ?side4 ?side5 ?side6 ?side7 ?side8 A6.out).mono ?_
   (case side1 => repeat (first | exact (Kd.S_reads' b8.out).2.2 | (with_reducible refine Kd.C_alloc ?_ _) | (with_reducible refine Kd.C_drewN ?_ _) | (with_reducible refine Kd.C_drew ?_)))
   (case side2 => exact (Kd.S_reads' b8.out).2.1)
   (case side3 => repeat (first | exact (Kd.R_reads' b6.out).2.2 | (with_reducible refine Kd.C_alloc ?_ _) | (with_reducible refine Kd.C_drewN ?_ _) | (with_reducible refine Kd.C_drew ?_)))
   (case side4 => exact (Kd.R_reads' b6.out).2.1)
   (case side5 => repeat (first | exact (Kd.S_reads' d8.out).2.2 | (with_reducible refine Kd.C_alloc ?_ _) | (with_reducible refine Kd.C_drewN ?_ _) | (with_reducible refine Kd.C_drew ?_)))
   (case side6 => exact (Kd.S_reads' d8.out).2.1)
   (case side7 => repeat (first | exact (Kd.R_reads' d9.out).2.2 | (with_reducible refine Kd.C_alloc ?_ _) | (with_reducible refine Kd.C_drewN ?_ _) | (with_reducible refine Kd.C_drew ?_)))
   (case side8 => exact (Kd.R_reads' d9.out).2.1)
   rintro e w' ⟨rfl, hb⟩
   refine ⟨_, rfl, ?_⟩
   replace b4 := ak (Kd.S_below (xS b4.out) hb)
   replace b2 := ak (Kd.Q_below (xQ b2.out) hb)
   replace b3 := ak (Kd.R_below (xR b3.out) hb)
   replace b8 := ak (Kd.S_below (xS b8.out) hb)
   replace b6 := ak (Kd.R_below (xR b6.out) hb)
   replace d8 := ak (Kd.S_below (xS d8.out) hb)
   replace d9 := ak (Kd.R_below (xR d9.out) hb)
   replace a2 := ak (blk_below (g := b1) (o := .cells #[.slice f7 b5.length f6, .slice f2 b0.length e9] 27 (0, 0)) (xb a2.out) hb)
   replace a1 := ak (blk_below (g := a3) (o := .cells #[.slice e7 a9.length e8, .slice e2 a6.length e3] 27 (0, 0)) (xb a1.out) hb)
   replace HB := ak (below_step zf_0 hb)
   (try clear hb)
   (try clear hb2)
   (try clear hk)
   (try clear hi)
   refine hK.out _ _ ⟨(blk_cell a1.out 0).trans rfl, (blk_cell a1.out 1).trans rfl, (blk_cell a2.out 0).trans rfl, (blk_cell a2.out 1).trans rfl⟩ (fun hHeld => ?_)
   clear hK K
   refine no_ (N := some 25) ?_
   refine pu_ (i := 5) (N := some 26) (bA 6 63) ?_
   refine done_ zf_15 ?_
   have f9 := cz20 a1.out
   have g0 := cz21 a1.out
   have g1 := blk_frozen a1.out 0
   have g2 := blk_frozen a1.out 1
   try go_wp2_with (first | ((with_reducible refine gate_callee (f := 19) rfl ?_); refine gl_ (some 31) Try.func19 #[] ?_; (with_reducible refine (laws_alive.calls k  i0 _ A9.out).mono ?_); rintro e w' ⟨rfl, hb⟩; refine ⟨_, rfl, ?_⟩; replace b4 := ak (Kd.S_below (xS b4.out) hb); replace b2 := ak (Kd.Q_below (xQ b2.out) hb); replace b3 := ak (Kd.R_below (xR b3.out) hb); replace b8 := ak (Kd.S_below (xS b8.out) hb); replace b6 := ak (Kd.R_below (xR b6.out) hb); replace d8 := ak (Kd.S_below (xS d8.out) hb); replace d9 := ak (Kd.R_below (xR d9.out) hb); replace a2 := ak (blk_below (g := b1) (o := .cells #[.slice f7 b5.length f6, .slice f2 b0.length e9] 27 (0, 0)) (xb a2.out) hb); replace a1 := ak (blk_below (g := a3) (o := .cells #[.slice e7 a9.length e8, .slice e2 a6.length e3] 27 (0, 0)) (xb a1.out) hb); replace HB := ak (below_step zf_0 hb); (try clear hb); (try clear hb2); (try clear hk); (try clear hi)))
   go_ret
   exact ⟨zf_14, zf_0⟩
  have n4 : ¬ (a6 = []) := fun h_ => c8 (by rw [h_]; rfl)
  have H' := ak H
  clear H
  go_enter Try.func11, Try.ntmps11
  try go_wp2_with (first | ((with_reducible refine gate_callee (f := 48) rfl ?_); refine gl_ (some 15) Try.func48 #[.slice A0 l0.length c0] ?_; (with_reducible refine (spec_DrawRenamed.calls k _ _ l0 b5 b0 b7 _ (y4 HR0.out) m4.out A3.out).mono ?_); rintro e w' ⟨i7, i8, i9, rfl, ho0, ho1, ho2, hb⟩; refine ⟨_, rfl, ?_⟩; have b4 := ak (Kd.S_lower ho0 (below_size zf_2)); have b2 := ak (Kd.Q_lower ho1 (below_size zf_2)); have b3 := ak (Kd.R_lower ho2 (below_size zf_2)); replace HB := ak (below_step zf_2 hb); (try clear hb); (try clear hb2); (try clear hk); (try clear hi); (try clear ho0); (try clear ho1); (try clear ho2)) | ((with_reducible refine gate_dst (N := 3) rfl ?_); (try (refine gate_guard (by rfl) ?_; dsimp only)); refine box_event ?hg (N := 3) ?hd (cs := #[.slice none 0 0, .slice none 0 0]) (t := 27) ?hr ?_; (case hd => rfl); (case hg => rfl); (case hr => first | (go_simp; done) | (go_simp; rfl)); intro b1 hg x2 hbox hb; replace b4 := ak (Kd.S_below (xS b4.out) hb); replace b2 := ak (Kd.Q_below (xQ b2.out) hb); replace b3 := ak (Kd.R_below (xR b3.out) hb); have a2 := ak (hbox); have i1 := ak ((by rw [hg]; exact (below_size zf_2) : w.heap.size ≤ b1)); have h3 := ak ((by rw [hg]; exact (below_size zf_2) : w.heap.size ≤ b1)); replace HB := ak (below_step zf_2 hb); clear hb hbox hg; obtain ⟨e1, e0, n5⟩ := Kd.S_slice b4.out; subst n5; have f9 := cz20 a2.out; have g0 := cz21 a2.out; have g1 := blk_frozen a2.out 0; have g2 := blk_frozen a2.out 1; obtain ⟨d6, d5, n6, _⟩ := Kd.Q_slice b2.out; subst n6; obtain ⟨g8, g5, n7⟩ := Kd.R_slice b3.out; subst n7) | ((with_reducible refine gate_callee (f := 49) rfl ?_); refine gl_ (some 20) Try.func49 #[.agg #[.slice e1 b5.length e0, .slice d6 b0.length d5], .slice g8 b7.length g5] ?_; (with_reducible refine (impl_Renamed.calls _ _ b5 _ _ b0 _ _ b7 a9 a6 _ (by refine (Kd.S_reads' (e := 25) (base := w.heap.size) (ok := fun k_ => (some k_ ≠ (.slice d6 b0.length d5 : Value).ownBlock ∧ some k_ ≠ (.slice g8 b7.length g5 : Value).ownBlock)) (n := b5.length) (c := e0) ?_).2.2; exact zf_11) (y2 b4.out) (by refine (Kd.Q_reads' (e := 3) (base := w.heap.size) (ok := fun k_ => some k_ ≠ (.slice g8 b7.length g5 : Value).ownBlock) (n := b0.length) (c := d5) ?_).2.2; exact zf_7) (y2 b2.out) (by refine (Kd.R_reads' (e := 3) (base := w.heap.size) (ok := fun k_ => some k_ ≠ (.slice d6 b0.length d5 : Value).ownBlock) (n := b7.length) (c := g5) ?_).2.2; exact zf_4) (y2 b3.out) A4.out).mono ?_); rintro e w' ⟨j0, j1, rfl, ho0, ho1, hb⟩; refine ⟨_, rfl, ?_⟩; have b8 := ak (Kd.S_lower (Kd.S_new' (Kd.S_new' (Kd.S_new' ho0 (Kd.S_lt zf_11)) (Kd.Q_lt zf_7)) (Kd.R_lt zf_4)) (below_size zf_1)); replace b4 := ak (Kd.S_mono (Kd.S_told (Kd.S_told (Kd.S_old zf_11 hb) (Kd.S_base ho0)) (Kd.R_base ho1)) (fun _ h_ => h_.1)); have b6 := ak (Kd.R_lower (Kd.R_new' (Kd.R_new' ho1 (Kd.Q_lt zf_7)) (Kd.R_lt zf_4)) (below_size zf_1)); replace b2 := ak (Kd.Q_elder' zf_7 (Kd.R_base ho1) hb); replace b3 := ak (Kd.R_elder' zf_4 (Kd.R_base ho1) hb); replace a2 := ak (blk_below (g := b1) (o := .cells #[.slice e1 b5.length e0, .slice d6 b0.length d5] 27 (0, 0)) (by (with_reducible repeat (first | refine blk_drewN ?_ _ | refine blk_drew ?_ | refine blk_alloc ?_ _)); refine blk_put (cs := #[.slice e1 b5.length e0, .slice none 0 0]) ?_ 1 _ rfl; (with_reducible repeat (first | refine blk_drewN ?_ _ | refine blk_drew ?_ | refine blk_alloc ?_ _)); refine blk_put (cs := #[.slice none 0 0, .slice none 0 0]) ?_ 0 _ rfl; (with_reducible repeat (first | refine blk_drewN ?_ _ | refine blk_drew ?_ | refine blk_alloc ?_ _)); exact a2.out) hb); replace HB := ak (below_step zf_1 hb); (try clear hb); (try clear hb2); (try clear hk); (try clear hi); (try clear ho0); (try clear ho1)) | ((with_reducible refine gate_dst (N := 5) rfl ?_); (try (refine gate_guard (by rfl) ?_; dsimp only)); refine box_event ?hg (N := 5) ?hd (cs := #[.slice none 0 0, .slice none 0 0]) (t := 27) ?hr ?_; (case hd => rfl); (case hg => rfl); (case hr => first | (go_simp; done) | (go_simp; rfl)); intro a3 hg i4 hbox hb; replace b4 := ak (Kd.S_below (xS b4.out) hb); replace b2 := ak (Kd.Q_below (xQ b2.out) hb); replace b3 := ak (Kd.R_below (xR b3.out) hb); replace b8 := ak (Kd.S_below (xS b8.out) hb); replace b6 := ak (Kd.R_below (xR b6.out) hb); have a1 := ak (hbox); have i2 := ak ((by rw [hg]; exact (below_size zf_1) : w.heap.size ≤ a3)); have h7 := ak ((by rw [hg]; exact (below_size zf_1) : w.heap.size ≤ a3)); replace HB := ak (below_step zf_1 hb); have b9 := ak ((by rw [hg]; exact Nat.ne_of_lt (blk_lt (g := b1) (o := .cells #[.slice e1 b5.length e0, .slice d6 b0.length d5] 27 (0, 0)) (xb a2.out)) : b1 ≠ a3)); have d7 := ak ((by rw [hg]; exact Nat.ne_of_gt (blk_lt (g := b1) (o := .cells #[.slice e1 b5.length e0, .slice d6 b0.length d5] 27 (0, 0)) (xb a2.out)) : a3 ≠ b1)); replace a2 := ak (blk_below (g := b1) (o := .cells #[.slice e1 b5.length e0, .slice d6 b0.length d5] 27 (0, 0)) (xb a2.out) hb); clear hb hbox hg; obtain ⟨d2, d3, n8⟩ := Kd.S_slice b8.out; subst n8; have q2 := d7.out; have q3 := b9.out; have f9 := cz20 a1.out; have g0 := cz21 a1.out; have g1 := blk_frozen a1.out 0; have g2 := blk_frozen a1.out 1; obtain ⟨d0, d1, n9⟩ := Kd.R_slice b6.out; subst n9))
  have n0_ : Aside0 (Kd.S (Kd.slice 3 (Kd.int .i64)) 25 ((i4.setCell ⟨a3, 0, none⟩ (.slice d2 a9.length d3)).setCell ⟨a3, 1, none⟩ (.slice d0 a6.length d1)) w.heap.size (fun k_ => some k_ ≠ (.slice d6 b0.length d5 : Value).ownBlock ∧ some k_ ≠ (.slice g8 b7.length g5 : Value).ownBlock ∧ some k_ ≠ (.slice d2 a9.length d3 : Value).ownBlock ∧ some k_ ≠ (.slice d0 a6.length d1 : Value).ownBlock) (.slice e1 b5.length e0) b5) := ⟨(by (with_reducible repeat (first | apply Kd.S_alloc | apply Kd.S_drewN | apply Kd.S_drew)); exact Kd.S_mono (Kd.S_far (p := ⟨a3, 1, none⟩) (Kd.S_far (p := ⟨a3, 0, none⟩) (Kd.S_types b4.out a1.out (by decide)) (fun _ hk => hk.2) (.slice d2 a9.length d3)) (fun _ hk => hk.2) (.slice d0 a6.length d1)) (fun _ hk => ⟨hk.1.1.1.1, ⟨hk.1.1.1.2, ⟨hk.1.1.2, hk.1.2⟩⟩⟩))⟩
  have n1_ : Aside0 (Kd.Q (Kd.int .i64) 3 ((i4.setCell ⟨a3, 0, none⟩ (.slice d2 a9.length d3)).setCell ⟨a3, 1, none⟩ (.slice d0 a6.length d1)) w.heap.size (fun k_ => some k_ ≠ (.slice g8 b7.length g5 : Value).ownBlock ∧ some k_ ≠ (.slice d0 a6.length d1 : Value).ownBlock) (.slice d6 b0.length d5) b0) := ⟨(by (with_reducible repeat (first | apply Kd.Q_alloc | apply Kd.Q_drewN | apply Kd.Q_drew)); exact Kd.Q_mono (Kd.Q_far (p := ⟨a3, 1, none⟩) (Kd.Q_far (p := ⟨a3, 0, none⟩) (Kd.Q_types b2.out a1.out (by decide)) (fun _ hk => hk.2) (.slice d2 a9.length d3)) (fun _ hk => hk.2) (.slice d0 a6.length d1)) (fun _ hk => ⟨hk.1.1, hk.1.2⟩))⟩
  have n2_ : Aside0 (Kd.R (Kd.int .i64) 3 ((i4.setCell ⟨a3, 0, none⟩ (.slice d2 a9.length d3)).setCell ⟨a3, 1, none⟩ (.slice d0 a6.length d1)) w.heap.size (fun k_ => some k_ ≠ (.slice d6 b0.length d5 : Value).ownBlock ∧ some k_ ≠ (.slice d0 a6.length d1 : Value).ownBlock) (.slice g8 b7.length g5) b7) := ⟨(by (with_reducible repeat (first | apply Kd.R_alloc | apply Kd.R_drewN | apply Kd.R_drew)); exact Kd.R_mono (Kd.R_far (p := ⟨a3, 1, none⟩) (Kd.R_far (p := ⟨a3, 0, none⟩) (Kd.R_types b3.out a1.out (by decide)) (fun _ hk => hk.2) (.slice d2 a9.length d3)) (fun _ hk => hk.2) (.slice d0 a6.length d1)) (fun _ hk => ⟨hk.1.1, hk.1.2⟩))⟩
  have n3_ : Aside0 (Kd.S (Kd.slice 3 (Kd.int .i64)) 25 ((i4.setCell ⟨a3, 0, none⟩ (.slice d2 a9.length d3)).setCell ⟨a3, 1, none⟩ (.slice d0 a6.length d1)) w.heap.size (fun k_ => some k_ ≠ (.slice e1 b5.length e0 : Value).ownBlock ∧ some k_ ≠ (.slice d6 b0.length d5 : Value).ownBlock ∧ some k_ ≠ (.slice g8 b7.length g5 : Value).ownBlock ∧ some k_ ≠ (.slice d0 a6.length d1 : Value).ownBlock) (.slice d2 a9.length d3) a9) := ⟨(by (with_reducible repeat (first | apply Kd.S_alloc | apply Kd.S_drewN | apply Kd.S_drew)); exact Kd.S_mono (Kd.S_far (p := ⟨a3, 1, none⟩) (Kd.S_far (p := ⟨a3, 0, none⟩) (Kd.S_types b8.out a1.out (by decide)) (fun _ hk => hk.2) (.slice d2 a9.length d3)) (fun _ hk => hk.2) (.slice d0 a6.length d1)) (fun _ hk => ⟨hk.1.1.1.2, ⟨hk.1.1.2, ⟨hk.1.2, hk.1.1.1.1⟩⟩⟩))⟩
  have n4_ : Aside0 (Kd.R (Kd.int .i64) 3 ((i4.setCell ⟨a3, 0, none⟩ (.slice d2 a9.length d3)).setCell ⟨a3, 1, none⟩ (.slice d0 a6.length d1)) w.heap.size (fun k_ => some k_ ≠ (.slice d6 b0.length d5 : Value).ownBlock ∧ some k_ ≠ (.slice g8 b7.length g5 : Value).ownBlock) (.slice d0 a6.length d1) a6) := ⟨(by (with_reducible repeat (first | apply Kd.R_alloc | apply Kd.R_drewN | apply Kd.R_drew)); exact Kd.R_mono (Kd.R_far (p := ⟨a3, 1, none⟩) (Kd.R_far (p := ⟨a3, 0, none⟩) (Kd.R_types b6.out a1.out (by decide)) (fun _ hk => hk.2) (.slice d2 a9.length d3)) (fun _ hk => hk.2) (.slice d0 a6.length d1)) (fun _ hk => ⟨hk.1.1.2, hk.1.2⟩))⟩
  have n5_ : Aside0 (((i4.setCell ⟨a3, 0, none⟩ (.slice d2 a9.length d3)).setCell ⟨a3, 1, none⟩ (.slice d0 a6.length d1)).heap[b1]? = some (.cells #[.slice e1 b5.length e0, .slice d6 b0.length d5] 27 (0, 0))) := ⟨zf_9⟩
  have n6_ : Aside0 (((i4.setCell ⟨a3, 0, none⟩ (.slice d2 a9.length d3)).setCell ⟨a3, 1, none⟩ (.slice d0 a6.length d1)).heap[a3]? = some (.cells #[.slice d2 a9.length d3, .slice d0 a6.length d1] 27 (0, 0))) := ⟨(by (with_reducible repeat (first | refine blk_drewN ?_ _ | refine blk_drew ?_ | refine blk_alloc ?_ _)); refine blk_put (cs := #[.slice d2 a9.length d3, .slice none 0 0]) ?_ 1 _ rfl; (with_reducible repeat (first | refine blk_drewN ?_ _ | refine blk_drew ?_ | refine blk_alloc ?_ _)); refine blk_put (cs := #[.slice none 0 0, .slice none 0 0]) ?_ 0 _ rfl; (with_reducible repeat (first | refine blk_drewN ?_ _ | refine blk_drew ?_ | refine blk_alloc ?_ _)); exact a1.out)⟩
  have n7_ : Aside0 (Below w.heap.size w ((i4.setCell ⟨a3, 0, none⟩ (.slice d2 a9.length d3)).setCell ⟨a3, 1, none⟩ (.slice d0 a6.length d1))) := ⟨zf_0⟩
  (try clear b4)
  (try clear b2)
  (try clear b3)
  (try clear b8)
  (try clear b6)
  (try clear a2)
  (try clear a1)
  (try clear HB)
  generalize ((i4.setCell ⟨a3, 0, none⟩ (.slice d2 a9.length d3)).setCell ⟨a3, 1, none⟩ (.slice d0 a6.length d1)) = u7 at n0_ n1_ n2_ n3_ n4_ n5_ n6_ n7_ ⊢
  have b4 := n0_
  have b2 := n1_
  have b3 := n2_
  have b8 := n3_
  have b6 := n4_
  have a2 := n5_
  have a1 := n6_
  have HB := n7_
  clear n0_ n1_ n2_ n3_ n4_ n5_ n6_ n7_
  replace b4 := ak (Kd.S_drew b4.out)
  replace b2 := ak (Kd.Q_drew b2.out)
  replace b3 := ak (Kd.R_drew b3.out)
  replace b8 := ak (Kd.S_drew b8.out)
  replace b6 := ak (Kd.R_drew b6.out)
  replace a2 := ak (blk_drew a2.out)
  replace a1 := ak (blk_drew a1.out)
  replace HB := ak (below_drew1 HB.out)
  refine start_ (n := 6) (S := fun w' => w'.cell? ⟨a3, 0, none⟩ = some (.slice d2 a9.length d3) ∧ w'.cell? ⟨a3, 1, none⟩ = some (.slice d0 a6.length d1) ∧ w'.cell? ⟨b1, 0, none⟩ = some (.slice e1 b5.length e0) ∧ w'.cell? ⟨b1, 1, none⟩ = some (.slice d6 b0.length d5)) (ds := []) (bA 6 0) zf_15 rfl rfl ⟨(blk_cell a1.out 0).trans rfl, (blk_cell a1.out 1).trans rfl, (blk_cell a2.out 0).trans rfl, (blk_cell a2.out 1).trans rfl⟩ (fun hHeld => ?_)
  generalize u7.drew = x3 at b4 b2 b3 b8 b6 a2 a1 HB hHeld ⊢
  refine pu_ (i := 2) (N := some 23) (bA 6 4) ?_
  refine tk_ (i := 0) (N := some 21) (bA 6 5) ?_
  refine tk_ (i := 1) (N := some 22) (bA 6 7) ?_
  refine one_ (i := 3) (N := some 24) (bA 6 15) rfl rfl zf_15 (by decide) (fun K hK => ?_)
  refine ge_ Try.func50 #[.agg #[.slice e1 b5.length e0, .slice d6 b0.length d5], .slice g8 b7.length g5] ?_
  with_reducible refine (spec_Renamed.calls k _ _ b5 _ _ b0 _ _ b7 g6 g7 _ ?side1 ?side2 ?side3 ?side4 ?side5 ?side6 A5.out).mono ?_
  (case side1 => repeat (first | exact (Kd.S_reads' b4.out).2.2 | (with_reducible refine Kd.C_alloc ?_ _) | (with_reducible refine Kd.C_drewN ?_ _) | (with_reducible refine Kd.C_drew ?_)))
  (case side2 => exact (Kd.S_reads' b4.out).2.1)
  (case side3 => repeat (first | exact (Kd.Q_reads' b2.out).2.2 | (with_reducible refine Kd.C_alloc ?_ _) | (with_reducible refine Kd.C_drewN ?_ _) | (with_reducible refine Kd.C_drew ?_)))
  (case side4 => exact (Kd.Q_reads' b2.out).2.1)
  (case side5 => repeat (first | exact (Kd.R_reads' b3.out).2.2 | (with_reducible refine Kd.C_alloc ?_ _) | (with_reducible refine Kd.C_drewN ?_ _) | (with_reducible refine Kd.C_drew ?_)))
  (case side6 => exact (Kd.R_reads' b3.out).2.1)
  rintro e w' ⟨j2, j3, rfl, ho0, ho1, hb⟩
  refine ⟨_, rfl, ?_⟩
  have d8 := ak (Kd.S_lower (Kd.S_new' (Kd.S_new' (Kd.S_new' (Kd.S_new' (Kd.S_new' ho0 (Kd.S_lt (xS b4.out))) (Kd.Q_lt (xQ b2.out))) (Kd.R_lt (xR b3.out))) (Kd.S_lt (xS b8.out))) (Kd.R_lt (xR b6.out))) (below_size zf_0))
  replace b4 := ak (Kd.S_mono (Kd.S_told (Kd.S_told (Kd.S_old (xS b4.out) hb) (Kd.S_base ho0)) (Kd.R_base ho1)) (fun _ h_ => h_.1))
  replace b8 := ak (Kd.S_mono (Kd.S_told (Kd.S_told (Kd.S_old (xS b8.out) hb) (Kd.S_base ho0)) (Kd.R_base ho1)) (fun _ h_ => h_.1))
  have d9 := ak (Kd.R_lower (Kd.R_new' (Kd.R_new' (Kd.R_new' ho1 (Kd.Q_lt (xQ b2.out))) (Kd.R_lt (xR b3.out))) (Kd.R_lt (xR b6.out))) (below_size zf_0))
  replace b2 := ak (Kd.Q_elder' (xQ b2.out) (Kd.R_base ho1) hb)
  replace b3 := ak (Kd.R_elder' (xR b3.out) (Kd.R_base ho1) hb)
  replace b6 := ak (Kd.R_elder' (xR b6.out) (Kd.R_base ho1) hb)
  replace a2 := ak (blk_below (g := b1) (o := .cells #[.slice e1 b5.length e0, .slice d6 b0.length d5] 27 (0, 0)) (xb a2.out) hb)
  replace a1 := ak (blk_below (g := a3) (o := .cells #[.slice d2 a9.length d3, .slice d0 a6.length d1] 27 (0, 0)) (xb a1.out) hb)
  replace HB := ak (below_step zf_0 hb)
  (try clear hb)
  (try clear hb2)
  (try clear hk)
  (try clear hi)
  (try clear ho0)
  (try clear ho1)
  obtain ⟨o0, o1, k4⟩ := Kd.S_slice d8.out
  (first | subst k4 | (injection k4 with f1_ f2_ f3_; have f4_ := f1_.symm; have f5_ := f3_.symm; clear f1_ f2_ f3_; subst f4_; subst f5_))
  obtain ⟨o2, o3, k5⟩ := Kd.R_slice d9.out
  (first | subst k5 | (injection k5 with f1_ f2_ f3_; have f4_ := f1_.symm; have f5_ := f3_.symm; clear f1_ f2_ f3_; subst f4_; subst f5_))
  refine hK.out _ _ ⟨(blk_cell a1.out 0).trans rfl, (blk_cell a1.out 1).trans rfl, (blk_cell a2.out 0).trans rfl, (blk_cell a2.out 1).trans rfl⟩ (fun hHeld => ?_)
  clear hK K
  refine no_ (N := some 24) ?_
  refine one_ (i := 4) (N := some 25) (bA 6 31) rfl rfl zf_15 (by decide) (fun K hK => ?_)
  refine ge_ Try.func17 #[.agg #[.slice d2 a9.length d3, .slice d0 a6.length d1], .agg #[.slice o0 g6.length o1, .slice o2 g7.length o3]] ?_
  with_reducible refine (laws_sameLogic.calls k _ _ a9 _ _ a6 _ _ g6 _ _ g7 true _ ?side1 ?side2 ?side3 ?side4 ?side5 ?side6 ?side7 ?side8 A6.out).mono ?_
  (case side1 => repeat (first | exact (Kd.S_reads' b8.out).2.2 | (with_reducible refine Kd.C_alloc ?_ _) | (with_reducible refine Kd.C_drewN ?_ _) | (with_reducible refine Kd.C_drew ?_)))
  (case side2 => exact (Kd.S_reads' b8.out).2.1)
  (case side3 => repeat (first | exact (Kd.R_reads' b6.out).2.2 | (with_reducible refine Kd.C_alloc ?_ _) | (with_reducible refine Kd.C_drewN ?_ _) | (with_reducible refine Kd.C_drew ?_)))
  (case side4 => exact (Kd.R_reads' b6.out).2.1)
  (case side5 => repeat (first | exact (Kd.S_reads' d8.out).2.2 | (with_reducible refine Kd.C_alloc ?_ _) | (with_reducible refine Kd.C_drewN ?_ _) | (with_reducible refine Kd.C_drew ?_)))
  (case side6 => exact (Kd.S_reads' d8.out).2.1)
  (case side7 => repeat (first | exact (Kd.R_reads' d9.out).2.2 | (with_reducible refine Kd.C_alloc ?_ _) | (with_reducible refine Kd.C_drewN ?_ _) | (with_reducible refine Kd.C_drew ?_)))
  (case side8 => exact (Kd.R_reads' d9.out).2.1)
  rintro e w' ⟨rfl, hb⟩
  refine ⟨_, rfl, ?_⟩
  replace b4 := ak (Kd.S_below (xS b4.out) hb)
  replace b2 := ak (Kd.Q_below (xQ b2.out) hb)
  replace b3 := ak (Kd.R_below (xR b3.out) hb)
  replace b8 := ak (Kd.S_below (xS b8.out) hb)
  replace b6 := ak (Kd.R_below (xR b6.out) hb)
  replace d8 := ak (Kd.S_below (xS d8.out) hb)
  replace d9 := ak (Kd.R_below (xR d9.out) hb)
  replace a2 := ak (blk_below (g := b1) (o := .cells #[.slice e1 b5.length e0, .slice d6 b0.length d5] 27 (0, 0)) (xb a2.out) hb)
  replace a1 := ak (blk_below (g := a3) (o := .cells #[.slice d2 a9.length d3, .slice d0 a6.length d1] 27 (0, 0)) (xb a1.out) hb)
  replace HB := ak (below_step zf_0 hb)
  (try clear hb)
  (try clear hb2)
  (try clear hk)
  (try clear hi)
  refine hK.out _ _ ⟨(blk_cell a1.out 0).trans rfl, (blk_cell a1.out 1).trans rfl, (blk_cell a2.out 0).trans rfl, (blk_cell a2.out 1).trans rfl⟩ (fun hHeld => ?_)
  clear hK K
  refine no_ (N := some 25) ?_
  refine pu_ (i := 5) (N := some 26) (bA 6 63) ?_
  refine done_ zf_15 ?_
  have f9 := cz20 a1.out
  have g0 := cz21 a1.out
  have g1 := blk_frozen a1.out 0
  have g2 := blk_frozen a1.out 1
  try go_wp2
  go_loopg [7] k (fun kq v7 w' => ∃ (e4 : Int), v7 = .int .i64 e4 ∧ Aside0 (laws_FnRenamed.l0 kq b7 (b7.length : Int) e4 b5 b0 a9 a6 = some r) ∧ Aside0 (kq ≤ k) ∧ Aside0 (Kd.R (Kd.int .i64) 3 w' w.heap.size (fun k_ => some k_ ≠ ((.slice d6 b0.length d5) : Value).ownBlock ∧ some k_ ≠ ((.slice d0 a6.length d1) : Value).ownBlock) (.slice g8 b7.length g5) b7) ∧ Aside0 (Kd.S (Kd.slice 3 (Kd.int .i64)) 25 w' w.heap.size (fun k_ => some k_ ≠ ((.slice g8 b7.length g5) : Value).ownBlock ∧ some k_ ≠ ((.slice d6 b0.length d5) : Value).ownBlock ∧ some k_ ≠ ((.slice d2 a9.length d3) : Value).ownBlock ∧ some k_ ≠ ((.slice d0 a6.length d1) : Value).ownBlock) (.slice e1 b5.length e0) b5) ∧ Aside0 (Kd.Q (Kd.int .i64) 3 w' w.heap.size (fun k_ => some k_ ≠ ((.slice g8 b7.length g5) : Value).ownBlock ∧ some k_ ≠ ((.slice d0 a6.length d1) : Value).ownBlock) (.slice d6 b0.length d5) b0) ∧ Aside0 (Kd.S (Kd.slice 3 (Kd.int .i64)) 25 w' w.heap.size (fun k_ => some k_ ≠ ((.slice g8 b7.length g5) : Value).ownBlock ∧ some k_ ≠ ((.slice e1 b5.length e0) : Value).ownBlock ∧ some k_ ≠ ((.slice d6 b0.length d5) : Value).ownBlock ∧ some k_ ≠ ((.slice d0 a6.length d1) : Value).ownBlock) (.slice d2 a9.length d3) a9) ∧ Aside0 (Kd.Q (Kd.int .i64) 3 w' w.heap.size (fun k_ => some k_ ≠ ((.slice g8 b7.length g5) : Value).ownBlock ∧ some k_ ≠ ((.slice d6 b0.length d5) : Value).ownBlock) (.slice d0 a6.length d1) a6) ∧ Aside0 (w'.heap[b1]? = some (.cells #[(.slice e1 b5.length e0), (.slice d6 b0.length d5)] 27 (0, 0))) ∧ Aside0 (w'.heap[a3]? = some (.cells #[(.slice d2 a9.length d3), (.slice d0 a6.length d1)] 27 (0, 0))) ∧ Aside0 (Below w.heap.size w w'))
  case atStart => exact ⟨(0), (by first | rfl | (simp; done) | (simp [*]; done)), H', ⟨Nat.le_refl _⟩, ⟨(by (with_reducible repeat (first | apply Kd.R_alloc | apply Kd.R_drewN | apply Kd.R_drew)); exact Kd.R_mono b3.out (fun _ hk => ⟨hk.1.1, hk.1.2⟩))⟩, ⟨(by (with_reducible repeat (first | apply Kd.S_alloc | apply Kd.S_drewN | apply Kd.S_drew)); exact Kd.S_mono b4.out (fun _ hk => ⟨hk.1.1.2.1, ⟨hk.1.1.1, ⟨hk.1.1.2.2.1, hk.1.1.2.2.2⟩⟩⟩))⟩, ⟨(by (with_reducible repeat (first | apply Kd.Q_alloc | apply Kd.Q_drewN | apply Kd.Q_drew)); exact Kd.Q_mono b2.out (fun _ hk => ⟨hk.1.1, hk.1.2⟩))⟩, ⟨(by (with_reducible repeat (first | apply Kd.S_alloc | apply Kd.S_drewN | apply Kd.S_drew)); exact Kd.S_mono b8.out (fun _ hk => ⟨hk.1.1.2.2.1, ⟨hk.1.1.1, ⟨hk.1.1.2.1, hk.1.1.2.2.2⟩⟩⟩))⟩, ⟨Kd.Q_of_R (by (with_reducible repeat (first | apply Kd.R_alloc | apply Kd.R_drewN | apply Kd.R_drew)); exact Kd.R_mono b6.out (fun _ hk => ⟨hk.1.2, hk.1.1⟩))⟩, ⟨(xb a2.out)⟩, ⟨(xb a1.out)⟩, ⟨zf_0⟩⟩
  case round =>
   clear H'
   try clear c2
   try clear j7
   try clear j8
   try clear c7
   try clear c8
   try clear j9
   try clear k0
   try clear n4
   try clear f9
   try clear g0
   try clear g1
   try clear g2
   obtain ⟨e4, rfl, HA, HK1, d4, a7, a8, a4, a5, a2, a1, HB⟩ := hrel
   cases gk with
   | zero => exact absurd HA.out (by simp [laws_FnRenamed.l0])
   | succ k1 =>
    have H := HA.out
    clear HA
    simp only [laws_FnRenamed.l0] at H
    replace H := os_ H
    rcases H with ⟨k6, H⟩ | ⟨k6, H⟩
    ·
     replace H := op_ H
     rcases H with ⟨m2, H⟩ | ⟨m2, H⟩
     ·
      exact absurd H (by simp)
     have q4 := bv_ m2
     have q5 := bw_ m2
     have q6 : ¬ (b7 = []) := fun h_ => m2 (by rw [h_]; rfl)
     replace H := bd_ H
     obtain ⟨g4, m3, H⟩ := H
     try dsimp only at H
     replace H := os_ H
     rcases H with ⟨k7, H⟩ | ⟨k7, H⟩
     ·
      obtain rfl := Option.some.inj H
      have q7 := d7.out
      have q8 := b9.out
      have f9 := cz20 a1.out
      have g0 := cz21 a1.out
      have g1 := blk_frozen a1.out 0
      have g2 := blk_frozen a1.out 1
      try go_wp2_with (first | ((with_reducible refine gate_callee (f := 51) rfl ?_); refine gl_ (some 47) Try.func51 #[.agg #[.slice d2 a9.length d3, .slice d0 a6.length d1], .int .i64 e4, .int .i64 (Int.tmod (wrap64 ((wrap64 (e4 * 5)) + 1)) (b7.length : Int))] ?_; (with_reducible refine (spec_AndOf.calls k1 _ _ a9 _ _ a6 e4 (Int.tmod (wrap64 ((wrap64 (e4 * 5)) + 1)) (b7.length : Int)) g4 _ (y1 a4.out) (y2 a4.out) (y1 a5.out) (y2 a5.out) m3.out).mono ?_); rintro e u9 ⟨rfl, hb⟩; refine ⟨_, rfl, ?_⟩; replace d4 := ak (Kd.R_below (xR d4.out) hb); replace a7 := ak (Kd.S_below (xS a7.out) hb); replace a8 := ak (Kd.Q_below (xQ a8.out) hb); replace a4 := ak (Kd.S_below (xS a4.out) hb); replace a5 := ak (Kd.Q_below (xQ a5.out) hb); replace a2 := ak (blk_below (g := b1) (o := .cells #[.slice e1 b5.length e0, .slice d6 b0.length d5] 27 (0, 0)) (xb a2.out) hb); replace a1 := ak (blk_below (g := a3) (o := .cells #[.slice d2 a9.length d3, .slice d0 a6.length d1] 27 (0, 0)) (xb a1.out) hb); replace HB := ak (below_step zf_0 hb); (try clear hb); (try clear hb2); (try clear hk); (try clear hi)))
      replace d4 := ak (Kd.R_drew d4.out)
      replace a7 := ak (Kd.S_drew a7.out)
      replace a8 := ak (Kd.Q_drew a8.out)
      replace a4 := ak (Kd.S_drew a4.out)
      replace a5 := ak (Kd.Q_drew a5.out)
      replace a2 := ak (blk_drew a2.out)
      replace a1 := ak (blk_drew a1.out)
      replace HB := ak (below_drew1 HB.out)
      refine start_ (n := 19) (S := fun w' => True) (ds := []) (bA 19 0) zf_15 rfl rfl trivial (fun hHeld => ?_); refine with_tabW laws_FnRenamed.tab15 laws_FnRenamed.bits15 (fun HT_ HW_ => ?_)
      generalize u9.drew = x4 at d4 a7 a8 a4 a5 a2 a1 HB hHeld ⊢
      refine pu_ (i := 0) (N := some 48) (bA 19 1) ?_
      refine pu_ (i := 1) (N := some 49) (bA 19 3) ?_
      refine pu_ (i := 2) (N := some 50) (bA 19 7) ?_
      refine of_ (i := 3) (N := some 51) (bA 19 15) ?_
      refine of_ (i := 4) (N := some 52) (bA 19 31) ?_
      refine of_ (i := 5) (N := some 53) (bA 19 63) ?_
      refine of_ (i := 6) (N := some 54) (bA 19 127) ?_
      refine of_ (i := 7) (N := some 55) (bA 19 255) ?_
      refine of_ (i := 8) (N := some 56) (bA 19 511) ?_
      refine of_ (i := 9) (N := some 57) (bA 19 1023) ?_
      refine of_ (i := 10) (N := some 58) (bA 19 2047) ?_
      refine of_ (i := 11) (N := some 59) (bA 19 4095) ?_
      refine of_ (i := 12) (N := some 60) (bA 19 8191) ?_
      refine of_ (i := 13) (N := some 61) (bA 19 16383) ?_
      refine of_ (i := 14) (N := some 62) (bA 19 32767) ?_
      refine of_ (i := 15) (N := some 63) (bA 19 65535) ?_
      refine of_ (i := 16) (N := some 64) (bA 19 131071) ?_
      refine of_ (i := 17) (N := some 65) (bA 19 262143) ?_
      refine pu_ (i := 18) (N := some 66) (bA 19 524287) ?_
      refine done_ (done_of HT_.out zf_15) ?_
      try go_wp2
      go_ret
      exact ⟨zf_14, zf_0⟩
     replace H := od4 H
     obtain ⟨q9, s0, s1, s2, H⟩ := H
     obtain ⟨ji61, hji61⟩ : ∃ j_ : Int, (Int.tmod (wrap64 ((wrap64 (e4 * 5)) + 1)) (b7.length : Int)) = j_ := ⟨_, rfl⟩
     replace H : (if 0 ≤ (ji61) then (if (ji61) < (b7.length : Int) then ((impl_AndOf.f b5 b0 (rd b7 e4) (rd b7 (ji61))).bind fun h8 => (if (rd b7 g4) = h8 then (laws_FnRenamed.l0 k1 b7 (b7.length : Int) (wrap64 (e4 + 1)) b5 b0 a9 a6) else (some false))) else (none)) else (none)) = some r := by first | (rw [hji61] at H; exact H) | (simp only [hji61] at H ⊢; exact H)
     (try rw [hji61] at m3)
     replace H := od2 H
     obtain ⟨s3, s4, H⟩ := H
     replace H := bd_ H
     obtain ⟨h8, s5, H⟩ := H
     try dsimp only at H
     replace H := oe2 H
     rcases H with ⟨⟨-, k8, k9⟩, H⟩ | ⟨⟨x5, k8, k9⟩, H⟩
     ·
      have H' := ak H
      clear H
      have s6 := d7.out
      have s7 := b9.out
      have f9 := cz20 a1.out
      have g0 := cz21 a1.out
      have g1 := blk_frozen a1.out 0
      have g2 := blk_frozen a1.out 1
      try go_wp2_with (first | ((with_reducible refine gate_callee (f := 51) rfl ?_); refine goesL_ (some 47) rfl rfl Try.func51 zf_15 rfl #[.agg #[.slice d2 a9.length d3, .slice d0 a6.length d1], .int .i64 e4, .int .i64 ji61] rfl zf_13 ?_; (with_reducible refine (spec_AndOf.calls k1 _ _ a9 _ _ a6 e4 ji61 g4 _ (y1 a4.out) (y2 a4.out) (y1 a5.out) (y2 a5.out) m3.out).mono ?_); rintro e v0 ⟨rfl, hb⟩; refine ⟨_, rfl, ?_⟩; replace d4 := ak (Kd.R_below (xR d4.out) hb); replace a7 := ak (Kd.S_below (xS a7.out) hb); replace a8 := ak (Kd.Q_below (xQ a8.out) hb); replace a4 := ak (Kd.S_below (xS a4.out) hb); replace a5 := ak (Kd.Q_below (xQ a5.out) hb); replace a2 := ak (blk_below (g := b1) (o := .cells #[.slice e1 b5.length e0, .slice d6 b0.length d5] 27 (0, 0)) (xb a2.out) hb); replace a1 := ak (blk_below (g := a3) (o := .cells #[.slice d2 a9.length d3, .slice d0 a6.length d1] 27 (0, 0)) (xb a1.out) hb); replace HB := ak (below_step zf_0 hb); (try clear hb); (try clear hb2); (try clear hk); (try clear hi)))
      replace d4 := ak (Kd.R_drew d4.out)
      replace a7 := ak (Kd.S_drew a7.out)
      replace a8 := ak (Kd.Q_drew a8.out)
      replace a4 := ak (Kd.S_drew a4.out)
      replace a5 := ak (Kd.Q_drew a5.out)
      replace a2 := ak (blk_drew a2.out)
      replace a1 := ak (blk_drew a1.out)
      replace HB := ak (below_drew1 HB.out)
      obtain ⟨ad1127, e1127, hx1127_0, l1, q1127⟩ := ai_ (Kd.R_reads' d4.out).2.2 g4
      cases e1127
      obtain ⟨ad1128, e1128, hx1128_0, l2, q1128⟩ := ai_ (Kd.R_reads' d4.out).2.2 e4
      obtain rfl := ij_ e1128
      obtain ⟨ad1129, e1129, hx1129_0, l3, q1129⟩ := ai_ (Kd.R_reads' d4.out).2.2 (ji61)
      obtain rfl := ij_ e1129
      refine start_ (n := 19) (S := fun w' => w'.cell? ⟨b1, 0, none⟩ = some (.slice e1 b5.length e0) ∧ w'.cell? ⟨b1, 1, none⟩ = some (.slice d6 b0.length d5) ∧ w'.cell? (ad1127.add (g4).toNat) = some (.int .i64 (rd b7 g4)) ∧ w'.cell? (ad1127.add (e4).toNat) = some (.int .i64 (rd b7 e4)) ∧ w'.cell? (ad1127.add ((ji61)).toNat) = some (.int .i64 (rd b7 (ji61)))) (ds := []) (bA 19 0) zf_15 rfl rfl ⟨(blk_cell a2.out 0).trans rfl, (blk_cell a2.out 1).trans rfl, hx1127_0, hx1128_0, hx1129_0⟩ (fun hHeld => ?_); refine with_tabW laws_FnRenamed.tab15 laws_FnRenamed.bits15 (fun HT_ HW_ => ?_)
      generalize v0.drew = x6 at d4 a7 a8 a4 a5 a2 a1 HB hx1127_0 hx1128_0 hx1129_0 hHeld ⊢
      refine pu_ (i := 0) (N := some 48) (bA 19 1) ?_
      refine pu_ (i := 1) (N := some 49) (bA 19 3) ?_
      refine pu_ (i := 2) (N := some 50) (bA 19 7) ?_
      refine pu_ (i := 3) (N := some 51) (bA 19 15) ?_
      refine pu_ (i := 4) (N := some 52) (bA 19 31) ?_
      refine pu_ (i := 5) (N := some 53) (bA 19 63) ?_
      refine pu_ (i := 8) (N := some 56) (bA 19 319) ?_
      refine pu_ (i := 9) (N := some 57) (bA 19 831) ?_
      refine pu_ (i := 10) (N := some 58) (bA 19 1855) ?_
      refine pu_ (i := 12) (N := some 60) (bA 19 5951) ?_
      refine pu_ (i := 13) (N := some 61) (bA 19 14143) ?_
      refine pu_ (i := 14) (N := some 62) (bA 19 30527) ?_
      refine tk_ (i := 6) (N := some 54) (bA 19 30591) ?_
      refine tk_ (i := 7) (N := some 55) (bA 19 30719) ?_
      refine tk_ (i := 11) (N := some 59) (bA 19 32767) ?_
      refine tk_ (i := 15) (N := some 63) (bA 19 65535) ?_
      refine one_ (i := 16) (N := some 64) (bA 19 131071) rfl rfl (one_of HT_.out zf_15) (by decide) (fun K hK => ?_)
      refine goes_ Try.func47 zf_15 rfl #[.agg #[.slice e1 b5.length e0, .slice d6 b0.length d5], .int .i64 (rd b7 e4), .int .i64 (rd b7 (ji61))] (by rfl) rfl rfl zf_13 ?_
      with_reducible refine (impl_AndOf.calls _ _ b5 _ _ b0 (rd b7 e4) (rd b7 (ji61)) h8 _ ?side1 ?side2 ?side3 ?side4 s5.out).mono ?_
      (case side1 => repeat (first | exact (Kd.S_reads' a7.out).2.2 | (with_reducible refine Kd.C_alloc ?_ _) | (with_reducible refine Kd.C_drewN ?_ _) | (with_reducible refine Kd.C_drew ?_)))
      (case side2 => exact (Kd.S_reads' a7.out).2.1)
      (case side3 => repeat (first | exact (Kd.Q_reads' a8.out).2.2 | (with_reducible refine Kd.C_alloc ?_ _) | (with_reducible refine Kd.C_drewN ?_ _) | (with_reducible refine Kd.C_drew ?_)))
      (case side4 => exact (Kd.Q_reads' a8.out).2.1)
      rintro e w' ⟨rfl, hb⟩
      have HS2_ := (hb.cell (World.block_lt_of_cell? _ _ (hHeld.2.2.1))).trans (hHeld.2.2.1)
      have HS3_ := (hb.cell (World.block_lt_of_cell? _ _ (hHeld.2.2.2.1))).trans (hHeld.2.2.2.1)
      have HS4_ := (hb.cell (World.block_lt_of_cell? _ _ (hHeld.2.2.2.2))).trans (hHeld.2.2.2.2)
      refine ⟨_, rfl, ?_⟩
      replace d4 := ak (Kd.R_below (xR d4.out) hb)
      replace a7 := ak (Kd.S_below (xS a7.out) hb)
      replace a8 := ak (Kd.Q_below (xQ a8.out) hb)
      replace a4 := ak (Kd.S_below (xS a4.out) hb)
      replace a5 := ak (Kd.Q_below (xQ a5.out) hb)
      replace a2 := ak (blk_below (g := b1) (o := .cells #[.slice e1 b5.length e0, .slice d6 b0.length d5] 27 (0, 0)) (xb a2.out) hb)
      replace a1 := ak (blk_below (g := a3) (o := .cells #[.slice d2 a9.length d3, .slice d0 a6.length d1] 27 (0, 0)) (xb a1.out) hb)
      replace HB := ak (below_step zf_0 hb)
      (try clear hb)
      (try clear hb2)
      (try clear hk)
      (try clear hi)
      refine hK.out _ _ ⟨(blk_cell a2.out 0).trans rfl, (blk_cell a2.out 1).trans rfl, HS2_, HS3_, HS4_⟩ (fun hHeld => ?_)
      clear hK K
      refine no_ (N := some 64) ?_
      refine pu_ (i := 17) (N := some 65) (bA 19 262143) ?_
      refine pu_ (i := 18) (N := some 66) (bA 19 524287) ?_
      refine done_ (done_of HT_.out zf_15) ?_
      try go_wp2
      go_roundg k1
      case measure => have := HK1.out; omega
      case rel => exact ⟨(wrap64 (e4 + 1)), (by first | rfl | (simp; done) | (simp [*]; done)), H', ⟨(by have := HK1.out; omega)⟩, ⟨(xR d4.out)⟩, ⟨(xS a7.out)⟩, ⟨(xQ a8.out)⟩, ⟨(xS a4.out)⟩, ⟨(xQ a5.out)⟩, ⟨(xb a2.out)⟩, ⟨(xb a1.out)⟩, ⟨zf_0⟩⟩
     obtain rfl := Option.some.inj H
     have s8 := d7.out
     have s9 := b9.out
     have f9 := cz20 a1.out
     have g0 := cz21 a1.out
     have g1 := blk_frozen a1.out 0
     have g2 := blk_frozen a1.out 1
     try go_wp2_with (first | ((with_reducible refine gate_callee (f := 51) rfl ?_); refine goesL_ (some 47) rfl rfl Try.func51 zf_15 rfl #[.agg #[.slice d2 a9.length d3, .slice d0 a6.length d1], .int .i64 e4, .int .i64 ji61] rfl zf_13 ?_; (with_reducible refine (spec_AndOf.calls k1 _ _ a9 _ _ a6 e4 ji61 g4 _ (y1 a4.out) (y2 a4.out) (y1 a5.out) (y2 a5.out) m3.out).mono ?_); rintro e v1 ⟨rfl, hb⟩; refine ⟨_, rfl, ?_⟩; replace d4 := ak (Kd.R_below (xR d4.out) hb); replace a7 := ak (Kd.S_below (xS a7.out) hb); replace a8 := ak (Kd.Q_below (xQ a8.out) hb); replace a4 := ak (Kd.S_below (xS a4.out) hb); replace a5 := ak (Kd.Q_below (xQ a5.out) hb); replace a2 := ak (blk_below (g := b1) (o := .cells #[.slice e1 b5.length e0, .slice d6 b0.length d5] 27 (0, 0)) (xb a2.out) hb); replace a1 := ak (blk_below (g := a3) (o := .cells #[.slice d2 a9.length d3, .slice d0 a6.length d1] 27 (0, 0)) (xb a1.out) hb); replace HB := ak (below_step zf_0 hb); (try clear hb); (try clear hb2); (try clear hk); (try clear hi)))
     replace d4 := ak (Kd.R_drew d4.out)
     replace a7 := ak (Kd.S_drew a7.out)
     replace a8 := ak (Kd.Q_drew a8.out)
     replace a4 := ak (Kd.S_drew a4.out)
     replace a5 := ak (Kd.Q_drew a5.out)
     replace a2 := ak (blk_drew a2.out)
     replace a1 := ak (blk_drew a1.out)
     replace HB := ak (below_drew1 HB.out)
     obtain ⟨ad1127, e1127, hx1127_0, l1, q1127⟩ := ai_ (Kd.R_reads' d4.out).2.2 g4
     cases e1127
     obtain ⟨ad1128, e1128, hx1128_0, l2, q1128⟩ := ai_ (Kd.R_reads' d4.out).2.2 e4
     obtain rfl := ij_ e1128
     obtain ⟨ad1129, e1129, hx1129_0, l3, q1129⟩ := ai_ (Kd.R_reads' d4.out).2.2 (ji61)
     obtain rfl := ij_ e1129
     refine start_ (n := 19) (S := fun w' => w'.cell? ⟨b1, 0, none⟩ = some (.slice e1 b5.length e0) ∧ w'.cell? ⟨b1, 1, none⟩ = some (.slice d6 b0.length d5) ∧ w'.cell? (ad1127.add (g4).toNat) = some (.int .i64 (rd b7 g4)) ∧ w'.cell? (ad1127.add (e4).toNat) = some (.int .i64 (rd b7 e4)) ∧ w'.cell? (ad1127.add ((ji61)).toNat) = some (.int .i64 (rd b7 (ji61)))) (ds := []) (bA 19 0) zf_15 rfl rfl ⟨(blk_cell a2.out 0).trans rfl, (blk_cell a2.out 1).trans rfl, hx1127_0, hx1128_0, hx1129_0⟩ (fun hHeld => ?_); refine with_tabW laws_FnRenamed.tab15 laws_FnRenamed.bits15 (fun HT_ HW_ => ?_)
     generalize v1.drew = x7 at d4 a7 a8 a4 a5 a2 a1 HB hx1127_0 hx1128_0 hx1129_0 hHeld ⊢
     refine pu_ (i := 0) (N := some 48) (bA 19 1) ?_
     refine pu_ (i := 1) (N := some 49) (bA 19 3) ?_
     refine pu_ (i := 2) (N := some 50) (bA 19 7) ?_
     refine pu_ (i := 3) (N := some 51) (bA 19 15) ?_
     refine pu_ (i := 4) (N := some 52) (bA 19 31) ?_
     refine pu_ (i := 5) (N := some 53) (bA 19 63) ?_
     refine pu_ (i := 8) (N := some 56) (bA 19 319) ?_
     refine pu_ (i := 9) (N := some 57) (bA 19 831) ?_
     refine pu_ (i := 10) (N := some 58) (bA 19 1855) ?_
     refine pu_ (i := 12) (N := some 60) (bA 19 5951) ?_
     refine pu_ (i := 13) (N := some 61) (bA 19 14143) ?_
     refine pu_ (i := 14) (N := some 62) (bA 19 30527) ?_
     refine tk_ (i := 6) (N := some 54) (bA 19 30591) ?_
     refine tk_ (i := 7) (N := some 55) (bA 19 30719) ?_
     refine tk_ (i := 11) (N := some 59) (bA 19 32767) ?_
     refine tk_ (i := 15) (N := some 63) (bA 19 65535) ?_
     refine one_ (i := 16) (N := some 64) (bA 19 131071) rfl rfl (one_of HT_.out zf_15) (by decide) (fun K hK => ?_)
     refine goes_ Try.func47 zf_15 rfl #[.agg #[.slice e1 b5.length e0, .slice d6 b0.length d5], .int .i64 (rd b7 e4), .int .i64 (rd b7 (ji61))] (by rfl) rfl rfl zf_13 ?_
     with_reducible refine (impl_AndOf.calls _ _ b5 _ _ b0 (rd b7 e4) (rd b7 (ji61)) h8 _ ?side1 ?side2 ?side3 ?side4 s5.out).mono ?_
     (case side1 => repeat (first | exact (Kd.S_reads' a7.out).2.2 | (with_reducible refine Kd.C_alloc ?_ _) | (with_reducible refine Kd.C_drewN ?_ _) | (with_reducible refine Kd.C_drew ?_)))
     (case side2 => exact (Kd.S_reads' a7.out).2.1)
     (case side3 => repeat (first | exact (Kd.Q_reads' a8.out).2.2 | (with_reducible refine Kd.C_alloc ?_ _) | (with_reducible refine Kd.C_drewN ?_ _) | (with_reducible refine Kd.C_drew ?_)))
     (case side4 => exact (Kd.Q_reads' a8.out).2.1)
     rintro e w' ⟨rfl, hb⟩
     have HS2_ := (hb.cell (World.block_lt_of_cell? _ _ (hHeld.2.2.1))).trans (hHeld.2.2.1)
     have HS3_ := (hb.cell (World.block_lt_of_cell? _ _ (hHeld.2.2.2.1))).trans (hHeld.2.2.2.1)
     have HS4_ := (hb.cell (World.block_lt_of_cell? _ _ (hHeld.2.2.2.2))).trans (hHeld.2.2.2.2)
     refine ⟨_, rfl, ?_⟩
     replace d4 := ak (Kd.R_below (xR d4.out) hb)
     replace a7 := ak (Kd.S_below (xS a7.out) hb)
     replace a8 := ak (Kd.Q_below (xQ a8.out) hb)
     replace a4 := ak (Kd.S_below (xS a4.out) hb)
     replace a5 := ak (Kd.Q_below (xQ a5.out) hb)
     replace a2 := ak (blk_below (g := b1) (o := .cells #[.slice e1 b5.length e0, .slice d6 b0.length d5] 27 (0, 0)) (xb a2.out) hb)
     replace a1 := ak (blk_below (g := a3) (o := .cells #[.slice d2 a9.length d3, .slice d0 a6.length d1] 27 (0, 0)) (xb a1.out) hb)
     replace HB := ak (below_step zf_0 hb)
     (try clear hb)
     (try clear hb2)
     (try clear hk)
     (try clear hi)
     refine hK.out _ _ ⟨(blk_cell a2.out 0).trans rfl, (blk_cell a2.out 1).trans rfl, HS2_, HS3_, HS4_⟩ (fun hHeld => ?_)
     clear hK K
     refine no_ (N := some 64) ?_
     refine pu_ (i := 17) (N := some 65) (bA 19 262143) ?_
     refine pu_ (i := 18) (N := some 66) (bA 19 524287) ?_
     refine done_ (done_of HT_.out zf_15) ?_
     try go_wp2
     go_ret
     exact ⟨(by first | rfl | (simp [errW_none, errW_some] <;> rfl) | (simp only [← hji61]; first | rfl | (simp [errW_none, errW_some] <;> rfl)) | (simp [*, errW_none, errW_some] <;> rfl)), zf_0⟩
    replace H := bd_ H
    obtain ⟨u0, u1, H⟩ := H
    try dsimp only at H
    replace H := ox_ H
    rcases H with ⟨rfl, H⟩ | ⟨rfl, H⟩
    ·
     replace H := bd_ H
     obtain ⟨l4, v2, H⟩ := H
     replace H := bd_ H
     obtain ⟨l5, v3, H⟩ := H
     try dsimp only at H
     obtain rfl := Option.some.inj H
     try go_wp2
     replace d4 := ak (Kd.R_drew d4.out)
     replace a7 := ak (Kd.S_drew a7.out)
     replace a8 := ak (Kd.Q_drew a8.out)
     replace a4 := ak (Kd.S_drew a4.out)
     replace a5 := ak (Kd.Q_drew a5.out)
     replace a2 := ak (blk_drew a2.out)
     replace a1 := ak (blk_drew a1.out)
     replace HB := ak (below_drew1 HB.out)
     refine start_ (n := 14) (S := fun w' => w'.cell? ⟨a3, 0, none⟩ = some (.slice d2 a9.length d3) ∧ w'.cell? ⟨a3, 1, none⟩ = some (.slice d0 a6.length d1) ∧ w'.cell? ⟨b1, 0, none⟩ = some (.slice e1 b5.length e0) ∧ w'.cell? ⟨b1, 1, none⟩ = some (.slice d6 b0.length d5)) (ds := []) (bA 14 0) zf_15 rfl rfl ⟨(blk_cell a1.out 0).trans rfl, (blk_cell a1.out 1).trans rfl, (blk_cell a2.out 0).trans rfl, (blk_cell a2.out 1).trans rfl⟩ (fun hHeld => ?_); refine with_tabW laws_FnRenamed.tab17 laws_FnRenamed.bits17 (fun HT_ HW_ => ?_)
     generalize wr.drew = x8 at d4 a7 a8 a4 a5 a2 a1 HB hHeld ⊢
     refine tk_ (i := 0) (N := some 67) (bA 14 1) ?_
     refine one_ (i := 1) (N := some 68) (bA 14 3) rfl rfl (one_of HT_.out zf_15) (by decide) (fun K hK => ?_)
     refine ge_ Try.func20 #[.agg #[.slice d2 a9.length d3, .slice d0 a6.length d1]] ?_
     with_reducible refine (impl_LogicOk.calls _ _ a9 _ _ a6 true _ ?side1 ?side2 ?side3 ?side4 u1.out).mono ?_
     (case side1 => repeat (first | exact (Kd.S_reads' a4.out).2.2 | (with_reducible refine Kd.C_alloc ?_ _) | (with_reducible refine Kd.C_drewN ?_ _) | (with_reducible refine Kd.C_drew ?_)))
     (case side2 => exact (Kd.S_reads' a4.out).2.1)
     (case side3 => repeat (first | exact (Kd.Q_reads' a5.out).2.2 | (with_reducible refine Kd.C_alloc ?_ _) | (with_reducible refine Kd.C_drewN ?_ _) | (with_reducible refine Kd.C_drew ?_)))
     (case side4 => exact (Kd.Q_reads' a5.out).2.1)
     rintro e w' ⟨rfl, hb⟩
     refine ⟨_, rfl, ?_⟩
     replace d4 := ak (Kd.R_below (xR d4.out) hb)
     replace a7 := ak (Kd.S_below (xS a7.out) hb)
     replace a8 := ak (Kd.Q_below (xQ a8.out) hb)
     replace a4 := ak (Kd.S_below (xS a4.out) hb)
     replace a5 := ak (Kd.Q_below (xQ a5.out) hb)
     replace a2 := ak (blk_below (g := b1) (o := .cells #[.slice e1 b5.length e0, .slice d6 b0.length d5] 27 (0, 0)) (xb a2.out) hb)
     replace a1 := ak (blk_below (g := a3) (o := .cells #[.slice d2 a9.length d3, .slice d0 a6.length d1] 27 (0, 0)) (xb a1.out) hb)
     replace HB := ak (below_step zf_0 hb)
     (try clear hb)
     (try clear hb2)
     (try clear hk)
     (try clear hi)
     refine hK.out _ _ ⟨(blk_cell a1.out 0).trans rfl, (blk_cell a1.out 1).trans rfl, (blk_cell a2.out 0).trans rfl, (blk_cell a2.out 1).trans rfl⟩ (fun hHeld => ?_)
     clear hK K
     refine no_ (N := some 68) ?_
     refine pu_ (i := 2) (N := some 69) (bA 14 7) ?_
     refine pu_ (i := 3) (N := some 70) (bA 14 15) ?_
     refine pu_ (i := 7) (N := some 74) (bA 14 143) ?_
     refine tk_ (i := 4) (N := some 71) (bA 14 159) ?_
     refine tk_ (i := 8) (N := some 75) (bA 14 415) ?_
     refine one_ (i := 5) (N := some 72) (bA 14 447) rfl rfl (one_of HT_.out zf_15) (by decide) (fun K hK => ?_)
     refine ge_ Try.func21 #[.slice d2 a9.length d3] ?_
     with_reducible refine (impl_AtomsOf.calls k1 _ _ a9 l4 _ ?side1 ?side2 v2.out).mono ?_
     (case side1 => repeat (first | exact (Kd.S_reads' a4.out).2.2 | (with_reducible refine Kd.C_alloc ?_ _) | (with_reducible refine Kd.C_drewN ?_ _) | (with_reducible refine Kd.C_drew ?_)))
     (case side2 => exact (Kd.S_reads' a4.out).2.1)
     rintro e w' ⟨u2, rfl, ho0, hb⟩
     refine ⟨_, rfl, ?_⟩
     replace a7 := ak (Kd.S_elder' (xS a7.out) (Kd.R_base ho0) hb)
     replace a4 := ak (Kd.S_elder' (xS a4.out) (Kd.R_base ho0) hb)
     have h5 := ak (Kd.R_lower (Kd.R_new' (Kd.R_new' (Kd.R_new' ho0 (Kd.R_lt (xR d4.out))) (Kd.Q_lt (xQ a8.out))) (Kd.Q_lt (xQ a5.out))) (below_size zf_0))
     replace d4 := ak (Kd.R_elder' (xR d4.out) (Kd.R_base ho0) hb)
     replace a8 := ak (Kd.Q_elder' (xQ a8.out) (Kd.R_base ho0) hb)
     replace a5 := ak (Kd.Q_elder' (xQ a5.out) (Kd.R_base ho0) hb)
     replace a2 := ak (blk_below (g := b1) (o := .cells #[.slice e1 b5.length e0, .slice d6 b0.length d5] 27 (0, 0)) (xb a2.out) hb)
     replace a1 := ak (blk_below (g := a3) (o := .cells #[.slice d2 a9.length d3, .slice d0 a6.length d1] 27 (0, 0)) (xb a1.out) hb)
     replace HB := ak (below_step zf_0 hb)
     (try clear hb)
     (try clear hb2)
     (try clear hk)
     (try clear hi)
     (try clear ho0)
     obtain ⟨v4, v5, l6⟩ := Kd.R_slice h5.out
     (first | subst l6 | (injection l6 with f1_ f2_ f3_; have f4_ := f1_.symm; have f5_ := f3_.symm; clear f1_ f2_ f3_; subst f4_; subst f5_))
     refine hK.out _ _ ⟨(blk_cell a1.out 0).trans rfl, (blk_cell a1.out 1).trans rfl, (blk_cell a2.out 0).trans rfl, (blk_cell a2.out 1).trans rfl⟩ (fun hHeld => ?_)
     clear hK K
     refine no_ (N := some 72) ?_
     refine pu_ (i := 6) (N := some 73) (bA 14 511) ?_
     refine one_ (i := 9) (N := some 76) (bA 14 1023) rfl rfl (one_of HT_.out zf_15) (by decide) (fun K hK => ?_)
     refine ge_ Try.func21 #[.slice e1 b5.length e0] ?_
     with_reducible refine (impl_AtomsOf.calls k1 _ _ b5 l5 _ ?side1 ?side2 v3.out).mono ?_
     (case side1 => repeat (first | exact (Kd.S_reads' a7.out).2.2 | (with_reducible refine Kd.C_alloc ?_ _) | (with_reducible refine Kd.C_drewN ?_ _) | (with_reducible refine Kd.C_drew ?_)))
     (case side2 => exact (Kd.S_reads' a7.out).2.1)
     rintro e w' ⟨u3, rfl, ho0, hb⟩
     refine ⟨_, rfl, ?_⟩
     replace a7 := ak (Kd.S_elder' (xS a7.out) (Kd.R_base ho0) hb)
     replace a4 := ak (Kd.S_elder' (xS a4.out) (Kd.R_base ho0) hb)
     have j6 := ak (Kd.R_lower (Kd.R_new' (Kd.R_new' (Kd.R_new' (Kd.R_new' ho0 (Kd.R_lt (xR d4.out))) (Kd.Q_lt (xQ a8.out))) (Kd.Q_lt (xQ a5.out))) (Kd.R_lt (xR h5.out))) (below_size zf_0))
     replace d4 := ak (Kd.R_elder' (xR d4.out) (Kd.R_base ho0) hb)
     replace a8 := ak (Kd.Q_elder' (xQ a8.out) (Kd.R_base ho0) hb)
     replace a5 := ak (Kd.Q_elder' (xQ a5.out) (Kd.R_base ho0) hb)
     replace h5 := ak (Kd.R_elder' (xR h5.out) (Kd.R_base ho0) hb)
     replace a2 := ak (blk_below (g := b1) (o := .cells #[.slice e1 b5.length e0, .slice d6 b0.length d5] 27 (0, 0)) (xb a2.out) hb)
     replace a1 := ak (blk_below (g := a3) (o := .cells #[.slice d2 a9.length d3, .slice d0 a6.length d1] 27 (0, 0)) (xb a1.out) hb)
     replace HB := ak (below_step zf_0 hb)
     (try clear hb)
     (try clear hb2)
     (try clear hk)
     (try clear hi)
     (try clear ho0)
     obtain ⟨v6, v8, l7⟩ := Kd.R_slice j6.out
     (first | subst l7 | (injection l7 with f1_ f2_ f3_; have f4_ := f1_.symm; have f5_ := f3_.symm; clear f1_ f2_ f3_; subst f4_; subst f5_))
     refine hK.out _ _ ⟨(blk_cell a1.out 0).trans rfl, (blk_cell a1.out 1).trans rfl, (blk_cell a2.out 0).trans rfl, (blk_cell a2.out 1).trans rfl⟩ (fun hHeld => ?_)
     clear hK K
     refine no_ (N := some 76) ?_
     refine pu_ (i := 10) (N := some 77) (bA 14 2047) ?_
     refine pu_ (i := 11) (N := some 78) (bA 14 4095) ?_
     refine pu_ (i := 12) (N := some 79) (bA 14 8191) ?_
     refine pu_ (i := 13) (N := some 2) (bA 14 16383) ?_
     refine done_ (done_of HT_.out zf_15) ?_
     try go_wp2
     go_ret
     exact ⟨zf_14, zf_0⟩
    obtain rfl := Option.some.inj H
    try go_wp2
    replace d4 := ak (Kd.R_drew d4.out)
    replace a7 := ak (Kd.S_drew a7.out)
    replace a8 := ak (Kd.Q_drew a8.out)
    replace a4 := ak (Kd.S_drew a4.out)
    replace a5 := ak (Kd.Q_drew a5.out)
    replace a2 := ak (blk_drew a2.out)
    replace a1 := ak (blk_drew a1.out)
    replace HB := ak (below_drew1 HB.out)
    refine start_ (n := 14) (S := fun w' => w'.cell? ⟨a3, 0, none⟩ = some (.slice d2 a9.length d3) ∧ w'.cell? ⟨a3, 1, none⟩ = some (.slice d0 a6.length d1)) (ds := []) (bA 14 0) zf_15 rfl rfl ⟨(blk_cell a1.out 0).trans rfl, (blk_cell a1.out 1).trans rfl⟩ (fun hHeld => ?_); refine with_tabW laws_FnRenamed.tab17 laws_FnRenamed.bits17 (fun HT_ HW_ => ?_)
    generalize wr.drew = x9 at d4 a7 a8 a4 a5 a2 a1 HB hHeld ⊢
    refine tk_ (i := 0) (N := some 67) (bA 14 1) ?_
    refine one_ (i := 1) (N := some 68) (bA 14 3) rfl rfl (one_of HT_.out zf_15) (by decide) (fun K hK => ?_)
    refine ge_ Try.func20 #[.agg #[.slice d2 a9.length d3, .slice d0 a6.length d1]] ?_
    with_reducible refine (impl_LogicOk.calls _ _ a9 _ _ a6 false _ ?side1 ?side2 ?side3 ?side4 u1.out).mono ?_
    (case side1 => repeat (first | exact (Kd.S_reads' a4.out).2.2 | (with_reducible refine Kd.C_alloc ?_ _) | (with_reducible refine Kd.C_drewN ?_ _) | (with_reducible refine Kd.C_drew ?_)))
    (case side2 => exact (Kd.S_reads' a4.out).2.1)
    (case side3 => repeat (first | exact (Kd.Q_reads' a5.out).2.2 | (with_reducible refine Kd.C_alloc ?_ _) | (with_reducible refine Kd.C_drewN ?_ _) | (with_reducible refine Kd.C_drew ?_)))
    (case side4 => exact (Kd.Q_reads' a5.out).2.1)
    rintro e w' ⟨rfl, hb⟩
    refine ⟨_, rfl, ?_⟩
    replace d4 := ak (Kd.R_below (xR d4.out) hb)
    replace a7 := ak (Kd.S_below (xS a7.out) hb)
    replace a8 := ak (Kd.Q_below (xQ a8.out) hb)
    replace a4 := ak (Kd.S_below (xS a4.out) hb)
    replace a5 := ak (Kd.Q_below (xQ a5.out) hb)
    replace a2 := ak (blk_below (g := b1) (o := .cells #[.slice e1 b5.length e0, .slice d6 b0.length d5] 27 (0, 0)) (xb a2.out) hb)
    replace a1 := ak (blk_below (g := a3) (o := .cells #[.slice d2 a9.length d3, .slice d0 a6.length d1] 27 (0, 0)) (xb a1.out) hb)
    replace HB := ak (below_step zf_0 hb)
    (try clear hb)
    (try clear hb2)
    (try clear hk)
    (try clear hi)
    refine hK.out _ _ ⟨(blk_cell a1.out 0).trans rfl, (blk_cell a1.out 1).trans rfl⟩ (fun hHeld => ?_)
    clear hK K
    refine no_ (N := some 68) ?_
    refine pu_ (i := 2) (N := some 69) (bA 14 7) ?_
    refine of_ (i := 3) (N := some 70) (bA 14 15) ?_
    refine of_ (i := 4) (N := some 71) (bA 14 31) ?_
    refine of_ (i := 5) (N := some 72) (bA 14 63) ?_
    refine of_ (i := 6) (N := some 73) (bA 14 127) ?_
    refine of_ (i := 7) (N := some 74) (bA 14 255) ?_
    refine of_ (i := 8) (N := some 75) (bA 14 511) ?_
    refine of_ (i := 9) (N := some 76) (bA 14 1023) ?_
    refine of_ (i := 10) (N := some 77) (bA 14 2047) ?_
    refine of_ (i := 11) (N := some 78) (bA 14 4095) ?_
    refine pu_ (i := 12) (N := some 79) (bA 14 8191) ?_
    refine pu_ (i := 13) (N := some 2) (bA 14 16383) ?_
    refine done_ (done_of HT_.out zf_15) ?_
    try go_wp2
    go_ret
    exact ⟨zf_14, zf_0⟩
 obtain rfl := Option.some.inj H
 go_enter Try.func11, Try.ntmps11
 try go_wp2_with (first | ((with_reducible refine gate_callee (f := 48) rfl ?_); refine gl_ (some 15) Try.func48 #[.slice A0 l0.length c0] ?_; (with_reducible refine (spec_DrawRenamed.calls k _ _ l0 b5 b0 b7 _ (y4 HR0.out) m4.out A3.out).mono ?_); rintro e w' ⟨i7, i8, i9, rfl, ho0, ho1, ho2, hb⟩; refine ⟨_, rfl, ?_⟩; have b4 := ak (Kd.S_lower ho0 (below_size zf_2)); have b2 := ak (Kd.Q_lower ho1 (below_size zf_2)); have b3 := ak (Kd.R_lower ho2 (below_size zf_2)); replace HB := ak (below_step zf_2 hb); (try clear hb); (try clear hb2); (try clear hk); (try clear hi); (try clear ho0); (try clear ho1); (try clear ho2)) | ((with_reducible refine gate_dst (N := 3) rfl ?_); (try (refine gate_guard (by rfl) ?_; dsimp only)); refine box_event ?hg (N := 3) ?hd (cs := #[.slice none 0 0, .slice none 0 0]) (t := 27) ?hr ?_; (case hd => rfl); (case hg => rfl); (case hr => first | (go_simp; done) | (go_simp; rfl)); intro b1 hg y3 hbox hb; replace b4 := ak (Kd.S_below (xS b4.out) hb); replace b2 := ak (Kd.Q_below (xQ b2.out) hb); replace b3 := ak (Kd.R_below (xR b3.out) hb); have a2 := ak (hbox); have i1 := ak ((by rw [hg]; exact (below_size zf_2) : w.heap.size ≤ b1)); have h3 := ak ((by rw [hg]; exact (below_size zf_2) : w.heap.size ≤ b1)); replace HB := ak (below_step zf_2 hb); clear hb hbox hg; obtain ⟨g3, f8, o4⟩ := Kd.S_slice b4.out; subst o4; have f9 := cz20 a2.out; have g0 := cz21 a2.out; have g1 := blk_frozen a2.out 0; have g2 := blk_frozen a2.out 1; obtain ⟨f5, f3, o5, _⟩ := Kd.Q_slice b2.out; subst o5; obtain ⟨h6, h2, o6⟩ := Kd.R_slice b3.out; subst o6) | ((with_reducible refine gate_callee (f := 49) rfl ?_); refine gl_ (some 20) Try.func49 #[.agg #[.slice g3 b5.length f8, .slice f5 b0.length f3], .slice h6 b7.length h2] ?_; (with_reducible refine (impl_Renamed.calls _ _ b5 _ _ b0 _ _ b7 a9 a6 _ (by refine (Kd.S_reads' (e := 25) (base := w.heap.size) (ok := fun k_ => (some k_ ≠ (.slice f5 b0.length f3 : Value).ownBlock ∧ some k_ ≠ (.slice h6 b7.length h2 : Value).ownBlock)) (n := b5.length) (c := f8) ?_).2.2; exact zf_10) (y2 b4.out) (by refine (Kd.Q_reads' (e := 3) (base := w.heap.size) (ok := fun k_ => some k_ ≠ (.slice h6 b7.length h2 : Value).ownBlock) (n := b0.length) (c := f3) ?_).2.2; exact zf_6) (y2 b2.out) (by refine (Kd.R_reads' (e := 3) (base := w.heap.size) (ok := fun k_ => some k_ ≠ (.slice f5 b0.length f3 : Value).ownBlock) (n := b7.length) (c := h2) ?_).2.2; exact zf_3) (y2 b3.out) A4.out).mono ?_); rintro e w' ⟨j0, j1, rfl, ho0, ho1, hb⟩; refine ⟨_, rfl, ?_⟩; have b8 := ak (Kd.S_lower (Kd.S_new' (Kd.S_new' (Kd.S_new' ho0 (Kd.S_lt zf_10)) (Kd.Q_lt zf_6)) (Kd.R_lt zf_3)) (below_size zf_1)); replace b4 := ak (Kd.S_mono (Kd.S_told (Kd.S_told (Kd.S_old zf_10 hb) (Kd.S_base ho0)) (Kd.R_base ho1)) (fun _ h_ => h_.1)); have b6 := ak (Kd.R_lower (Kd.R_new' (Kd.R_new' ho1 (Kd.Q_lt zf_6)) (Kd.R_lt zf_3)) (below_size zf_1)); replace b2 := ak (Kd.Q_elder' zf_6 (Kd.R_base ho1) hb); replace b3 := ak (Kd.R_elder' zf_3 (Kd.R_base ho1) hb); replace a2 := ak (blk_below (g := b1) (o := .cells #[.slice g3 b5.length f8, .slice f5 b0.length f3] 27 (0, 0)) (by (with_reducible repeat (first | refine blk_drewN ?_ _ | refine blk_drew ?_ | refine blk_alloc ?_ _)); refine blk_put (cs := #[.slice g3 b5.length f8, .slice none 0 0]) ?_ 1 _ rfl; (with_reducible repeat (first | refine blk_drewN ?_ _ | refine blk_drew ?_ | refine blk_alloc ?_ _)); refine blk_put (cs := #[.slice none 0 0, .slice none 0 0]) ?_ 0 _ rfl; (with_reducible repeat (first | refine blk_drewN ?_ _ | refine blk_drew ?_ | refine blk_alloc ?_ _)); exact a2.out) hb); replace HB := ak (below_step zf_1 hb); (try clear hb); (try clear hb2); (try clear hk); (try clear hi); (try clear ho0); (try clear ho1)) | ((with_reducible refine gate_dst (N := 5) rfl ?_); (try (refine gate_guard (by rfl) ?_; dsimp only)); refine box_event ?hg (N := 5) ?hd (cs := #[.slice none 0 0, .slice none 0 0]) (t := 27) ?hr ?_; (case hd => rfl); (case hg => rfl); (case hr => first | (go_simp; done) | (go_simp; rfl)); intro a3 hg i5 hbox hb; replace b4 := ak (Kd.S_below (xS b4.out) hb); replace b2 := ak (Kd.Q_below (xQ b2.out) hb); replace b3 := ak (Kd.R_below (xR b3.out) hb); replace b8 := ak (Kd.S_below (xS b8.out) hb); replace b6 := ak (Kd.R_below (xR b6.out) hb); have a1 := ak (hbox); have i2 := ak ((by rw [hg]; exact (below_size zf_1) : w.heap.size ≤ a3)); have h7 := ak ((by rw [hg]; exact (below_size zf_1) : w.heap.size ≤ a3)); replace HB := ak (below_step zf_1 hb); have b9 := ak ((by rw [hg]; exact Nat.ne_of_lt (blk_lt (g := b1) (o := .cells #[.slice g3 b5.length f8, .slice f5 b0.length f3] 27 (0, 0)) (xb a2.out)) : b1 ≠ a3)); have d7 := ak ((by rw [hg]; exact Nat.ne_of_gt (blk_lt (g := b1) (o := .cells #[.slice g3 b5.length f8, .slice f5 b0.length f3] 27 (0, 0)) (xb a2.out)) : a3 ≠ b1)); replace a2 := ak (blk_below (g := b1) (o := .cells #[.slice g3 b5.length f8, .slice f5 b0.length f3] 27 (0, 0)) (xb a2.out) hb); clear hb hbox hg; obtain ⟨f0, f1, o7⟩ := Kd.S_slice b8.out; subst o7; have u4 := d7.out; have u5 := b9.out; have f9 := cz20 a1.out; have g0 := cz21 a1.out; have g1 := blk_frozen a1.out 0; have g2 := blk_frozen a1.out 1; obtain ⟨e5, e6, o8⟩ := Kd.R_slice b6.out; subst o8))
 have n0_ : Aside0 (Kd.S (Kd.slice 3 (Kd.int .i64)) 25 ((i5.setCell ⟨a3, 0, none⟩ (.slice f0 a9.length f1)).setCell ⟨a3, 1, none⟩ (.slice e5 a6.length e6)) w.heap.size (fun k_ => some k_ ≠ (.slice f5 b0.length f3 : Value).ownBlock ∧ some k_ ≠ (.slice h6 b7.length h2 : Value).ownBlock ∧ some k_ ≠ (.slice f0 a9.length f1 : Value).ownBlock ∧ some k_ ≠ (.slice e5 a6.length e6 : Value).ownBlock) (.slice g3 b5.length f8) b5) := ⟨(by (with_reducible repeat (first | apply Kd.S_alloc | apply Kd.S_drewN | apply Kd.S_drew)); exact Kd.S_mono (Kd.S_far (p := ⟨a3, 1, none⟩) (Kd.S_far (p := ⟨a3, 0, none⟩) (Kd.S_types b4.out a1.out (by decide)) (fun _ hk => hk.2) (.slice f0 a9.length f1)) (fun _ hk => hk.2) (.slice e5 a6.length e6)) (fun _ hk => ⟨hk.1.1.1.1, ⟨hk.1.1.1.2, ⟨hk.1.1.2, hk.1.2⟩⟩⟩))⟩
 have n1_ : Aside0 (Kd.Q (Kd.int .i64) 3 ((i5.setCell ⟨a3, 0, none⟩ (.slice f0 a9.length f1)).setCell ⟨a3, 1, none⟩ (.slice e5 a6.length e6)) w.heap.size (fun k_ => some k_ ≠ (.slice h6 b7.length h2 : Value).ownBlock ∧ some k_ ≠ (.slice e5 a6.length e6 : Value).ownBlock) (.slice f5 b0.length f3) b0) := ⟨(by (with_reducible repeat (first | apply Kd.Q_alloc | apply Kd.Q_drewN | apply Kd.Q_drew)); exact Kd.Q_mono (Kd.Q_far (p := ⟨a3, 1, none⟩) (Kd.Q_far (p := ⟨a3, 0, none⟩) (Kd.Q_types b2.out a1.out (by decide)) (fun _ hk => hk.2) (.slice f0 a9.length f1)) (fun _ hk => hk.2) (.slice e5 a6.length e6)) (fun _ hk => ⟨hk.1.1, hk.1.2⟩))⟩
 have n2_ : Aside0 (Kd.R (Kd.int .i64) 3 ((i5.setCell ⟨a3, 0, none⟩ (.slice f0 a9.length f1)).setCell ⟨a3, 1, none⟩ (.slice e5 a6.length e6)) w.heap.size (fun k_ => some k_ ≠ (.slice f5 b0.length f3 : Value).ownBlock ∧ some k_ ≠ (.slice e5 a6.length e6 : Value).ownBlock) (.slice h6 b7.length h2) b7) := ⟨(by (with_reducible repeat (first | apply Kd.R_alloc | apply Kd.R_drewN | apply Kd.R_drew)); exact Kd.R_mono (Kd.R_far (p := ⟨a3, 1, none⟩) (Kd.R_far (p := ⟨a3, 0, none⟩) (Kd.R_types b3.out a1.out (by decide)) (fun _ hk => hk.2) (.slice f0 a9.length f1)) (fun _ hk => hk.2) (.slice e5 a6.length e6)) (fun _ hk => ⟨hk.1.1, hk.1.2⟩))⟩
 have n3_ : Aside0 (Kd.S (Kd.slice 3 (Kd.int .i64)) 25 ((i5.setCell ⟨a3, 0, none⟩ (.slice f0 a9.length f1)).setCell ⟨a3, 1, none⟩ (.slice e5 a6.length e6)) w.heap.size (fun k_ => some k_ ≠ (.slice g3 b5.length f8 : Value).ownBlock ∧ some k_ ≠ (.slice f5 b0.length f3 : Value).ownBlock ∧ some k_ ≠ (.slice h6 b7.length h2 : Value).ownBlock ∧ some k_ ≠ (.slice e5 a6.length e6 : Value).ownBlock) (.slice f0 a9.length f1) a9) := ⟨(by (with_reducible repeat (first | apply Kd.S_alloc | apply Kd.S_drewN | apply Kd.S_drew)); exact Kd.S_mono (Kd.S_far (p := ⟨a3, 1, none⟩) (Kd.S_far (p := ⟨a3, 0, none⟩) (Kd.S_types b8.out a1.out (by decide)) (fun _ hk => hk.2) (.slice f0 a9.length f1)) (fun _ hk => hk.2) (.slice e5 a6.length e6)) (fun _ hk => ⟨hk.1.1.1.2, ⟨hk.1.1.2, ⟨hk.1.2, hk.1.1.1.1⟩⟩⟩))⟩
 have n4_ : Aside0 (Kd.R (Kd.int .i64) 3 ((i5.setCell ⟨a3, 0, none⟩ (.slice f0 a9.length f1)).setCell ⟨a3, 1, none⟩ (.slice e5 a6.length e6)) w.heap.size (fun k_ => some k_ ≠ (.slice f5 b0.length f3 : Value).ownBlock ∧ some k_ ≠ (.slice h6 b7.length h2 : Value).ownBlock) (.slice e5 a6.length e6) a6) := ⟨(by (with_reducible repeat (first | apply Kd.R_alloc | apply Kd.R_drewN | apply Kd.R_drew)); exact Kd.R_mono (Kd.R_far (p := ⟨a3, 1, none⟩) (Kd.R_far (p := ⟨a3, 0, none⟩) (Kd.R_types b6.out a1.out (by decide)) (fun _ hk => hk.2) (.slice f0 a9.length f1)) (fun _ hk => hk.2) (.slice e5 a6.length e6)) (fun _ hk => ⟨hk.1.1.2, hk.1.2⟩))⟩
 have n5_ : Aside0 (((i5.setCell ⟨a3, 0, none⟩ (.slice f0 a9.length f1)).setCell ⟨a3, 1, none⟩ (.slice e5 a6.length e6)).heap[b1]? = some (.cells #[.slice g3 b5.length f8, .slice f5 b0.length f3] 27 (0, 0))) := ⟨zf_9⟩
 have n6_ : Aside0 (((i5.setCell ⟨a3, 0, none⟩ (.slice f0 a9.length f1)).setCell ⟨a3, 1, none⟩ (.slice e5 a6.length e6)).heap[a3]? = some (.cells #[.slice f0 a9.length f1, .slice e5 a6.length e6] 27 (0, 0))) := ⟨(by (with_reducible repeat (first | refine blk_drewN ?_ _ | refine blk_drew ?_ | refine blk_alloc ?_ _)); refine blk_put (cs := #[.slice f0 a9.length f1, .slice none 0 0]) ?_ 1 _ rfl; (with_reducible repeat (first | refine blk_drewN ?_ _ | refine blk_drew ?_ | refine blk_alloc ?_ _)); refine blk_put (cs := #[.slice none 0 0, .slice none 0 0]) ?_ 0 _ rfl; (with_reducible repeat (first | refine blk_drewN ?_ _ | refine blk_drew ?_ | refine blk_alloc ?_ _)); exact a1.out)⟩
 have n7_ : Aside0 (Below w.heap.size w ((i5.setCell ⟨a3, 0, none⟩ (.slice f0 a9.length f1)).setCell ⟨a3, 1, none⟩ (.slice e5 a6.length e6))) := ⟨zf_0⟩
 (try clear b4)
 (try clear b2)
 (try clear b3)
 (try clear b8)
 (try clear b6)
 (try clear a2)
 (try clear a1)
 (try clear HB)
 generalize ((i5.setCell ⟨a3, 0, none⟩ (.slice f0 a9.length f1)).setCell ⟨a3, 1, none⟩ (.slice e5 a6.length e6)) = o9 at n0_ n1_ n2_ n3_ n4_ n5_ n6_ n7_ ⊢
 have b4 := n0_
 have b2 := n1_
 have b3 := n2_
 have b8 := n3_
 have b6 := n4_
 have a2 := n5_
 have a1 := n6_
 have HB := n7_
 clear n0_ n1_ n2_ n3_ n4_ n5_ n6_ n7_
 replace b4 := ak (Kd.S_drew b4.out)
 replace b2 := ak (Kd.Q_drew b2.out)
 replace b3 := ak (Kd.R_drew b3.out)
 replace b8 := ak (Kd.S_drew b8.out)
 replace b6 := ak (Kd.R_drew b6.out)
 replace a2 := ak (blk_drew a2.out)
 replace a1 := ak (blk_drew a1.out)
 replace HB := ak (below_drew1 HB.out)
 refine start_ (n := 6) (S := fun w' => w'.cell? ⟨a3, 0, none⟩ = some (.slice f0 a9.length f1) ∧ w'.cell? ⟨a3, 1, none⟩ = some (.slice e5 a6.length e6) ∧ w'.cell? ⟨b1, 0, none⟩ = some (.slice g3 b5.length f8) ∧ w'.cell? ⟨b1, 1, none⟩ = some (.slice f5 b0.length f3)) (ds := []) (bA 6 0) zf_15 rfl rfl ⟨(blk_cell a1.out 0).trans rfl, (blk_cell a1.out 1).trans rfl, (blk_cell a2.out 0).trans rfl, (blk_cell a2.out 1).trans rfl⟩ (fun hHeld => ?_)
 generalize o9.drew = v9 at b4 b2 b3 b8 b6 a2 a1 HB hHeld ⊢
 refine pu_ (i := 2) (N := some 23) (bA 6 4) ?_
 refine tk_ (i := 0) (N := some 21) (bA 6 5) ?_
 refine tk_ (i := 1) (N := some 22) (bA 6 7) ?_
 refine one_ (i := 3) (N := some 24) (bA 6 15) rfl rfl zf_15 (by decide) (fun K hK => ?_)
 refine ge_ Try.func50 #[.agg #[.slice g3 b5.length f8, .slice f5 b0.length f3], .slice h6 b7.length h2] ?_
 with_reducible refine (spec_Renamed.calls k _ _ b5 _ _ b0 _ _ b7 g6 g7 _ ?side1 ?side2 ?side3 ?side4 ?side5 ?side6 A5.out).mono ?_
 (case side1 => repeat (first | exact (Kd.S_reads' b4.out).2.2 | (with_reducible refine Kd.C_alloc ?_ _) | (with_reducible refine Kd.C_drewN ?_ _) | (with_reducible refine Kd.C_drew ?_)))
 (case side2 => exact (Kd.S_reads' b4.out).2.1)
 (case side3 => repeat (first | exact (Kd.Q_reads' b2.out).2.2 | (with_reducible refine Kd.C_alloc ?_ _) | (with_reducible refine Kd.C_drewN ?_ _) | (with_reducible refine Kd.C_drew ?_)))
 (case side4 => exact (Kd.Q_reads' b2.out).2.1)
 (case side5 => repeat (first | exact (Kd.R_reads' b3.out).2.2 | (with_reducible refine Kd.C_alloc ?_ _) | (with_reducible refine Kd.C_drewN ?_ _) | (with_reducible refine Kd.C_drew ?_)))
 (case side6 => exact (Kd.R_reads' b3.out).2.1)
 rintro e w' ⟨j2, j3, rfl, ho0, ho1, hb⟩
 refine ⟨_, rfl, ?_⟩
 have d8 := ak (Kd.S_lower (Kd.S_new' (Kd.S_new' (Kd.S_new' (Kd.S_new' (Kd.S_new' ho0 (Kd.S_lt (xS b4.out))) (Kd.Q_lt (xQ b2.out))) (Kd.R_lt (xR b3.out))) (Kd.S_lt (xS b8.out))) (Kd.R_lt (xR b6.out))) (below_size zf_0))
 replace b4 := ak (Kd.S_mono (Kd.S_told (Kd.S_told (Kd.S_old (xS b4.out) hb) (Kd.S_base ho0)) (Kd.R_base ho1)) (fun _ h_ => h_.1))
 replace b8 := ak (Kd.S_mono (Kd.S_told (Kd.S_told (Kd.S_old (xS b8.out) hb) (Kd.S_base ho0)) (Kd.R_base ho1)) (fun _ h_ => h_.1))
 have d9 := ak (Kd.R_lower (Kd.R_new' (Kd.R_new' (Kd.R_new' ho1 (Kd.Q_lt (xQ b2.out))) (Kd.R_lt (xR b3.out))) (Kd.R_lt (xR b6.out))) (below_size zf_0))
 replace b2 := ak (Kd.Q_elder' (xQ b2.out) (Kd.R_base ho1) hb)
 replace b3 := ak (Kd.R_elder' (xR b3.out) (Kd.R_base ho1) hb)
 replace b6 := ak (Kd.R_elder' (xR b6.out) (Kd.R_base ho1) hb)
 replace a2 := ak (blk_below (g := b1) (o := .cells #[.slice g3 b5.length f8, .slice f5 b0.length f3] 27 (0, 0)) (xb a2.out) hb)
 replace a1 := ak (blk_below (g := a3) (o := .cells #[.slice f0 a9.length f1, .slice e5 a6.length e6] 27 (0, 0)) (xb a1.out) hb)
 replace HB := ak (below_step zf_0 hb)
 (try clear hb)
 (try clear hb2)
 (try clear hk)
 (try clear hi)
 (try clear ho0)
 (try clear ho1)
 obtain ⟨l8, l9, j4⟩ := Kd.S_slice d8.out
 (first | subst j4 | (injection j4 with f1_ f2_ f3_; have f4_ := f1_.symm; have f5_ := f3_.symm; clear f1_ f2_ f3_; subst f4_; subst f5_))
 obtain ⟨m0, m1, j5⟩ := Kd.R_slice d9.out
 (first | subst j5 | (injection j5 with f1_ f2_ f3_; have f4_ := f1_.symm; have f5_ := f3_.symm; clear f1_ f2_ f3_; subst f4_; subst f5_))
 refine hK.out _ _ ⟨(blk_cell a1.out 0).trans rfl, (blk_cell a1.out 1).trans rfl, (blk_cell a2.out 0).trans rfl, (blk_cell a2.out 1).trans rfl⟩ (fun hHeld => ?_)
 clear hK K
 refine no_ (N := some 24) ?_
 refine one_ (i := 4) (N := some 25) (bA 6 31) rfl rfl zf_15 (by decide) (fun K hK => ?_)
 refine ge_ Try.func17 #[.agg #[.slice f0 a9.length f1, .slice e5 a6.length e6], .agg #[.slice l8 g6.length l9, .slice m0 g7.length m1]] ?_
 with_reducible refine (laws_sameLogic.calls k _ _ a9 _ _ a6 _ _ g6 _ _ g7 false _ ?side1 ?side2 ?side3 ?side4 ?side5 ?side6 ?side7 ?side8 A6.out).mono ?_
 (case side1 => repeat (first | exact (Kd.S_reads' b8.out).2.2 | (with_reducible refine Kd.C_alloc ?_ _) | (with_reducible refine Kd.C_drewN ?_ _) | (with_reducible refine Kd.C_drew ?_)))
 (case side2 => exact (Kd.S_reads' b8.out).2.1)
 (case side3 => repeat (first | exact (Kd.R_reads' b6.out).2.2 | (with_reducible refine Kd.C_alloc ?_ _) | (with_reducible refine Kd.C_drewN ?_ _) | (with_reducible refine Kd.C_drew ?_)))
 (case side4 => exact (Kd.R_reads' b6.out).2.1)
 (case side5 => repeat (first | exact (Kd.S_reads' d8.out).2.2 | (with_reducible refine Kd.C_alloc ?_ _) | (with_reducible refine Kd.C_drewN ?_ _) | (with_reducible refine Kd.C_drew ?_)))
 (case side6 => exact (Kd.S_reads' d8.out).2.1)
 (case side7 => repeat (first | exact (Kd.R_reads' d9.out).2.2 | (with_reducible refine Kd.C_alloc ?_ _) | (with_reducible refine Kd.C_drewN ?_ _) | (with_reducible refine Kd.C_drew ?_)))
 (case side8 => exact (Kd.R_reads' d9.out).2.1)
 rintro e w' ⟨rfl, hb⟩
 refine ⟨_, rfl, ?_⟩
 replace b4 := ak (Kd.S_below (xS b4.out) hb)
 replace b2 := ak (Kd.Q_below (xQ b2.out) hb)
 replace b3 := ak (Kd.R_below (xR b3.out) hb)
 replace b8 := ak (Kd.S_below (xS b8.out) hb)
 replace b6 := ak (Kd.R_below (xR b6.out) hb)
 replace d8 := ak (Kd.S_below (xS d8.out) hb)
 replace d9 := ak (Kd.R_below (xR d9.out) hb)
 replace a2 := ak (blk_below (g := b1) (o := .cells #[.slice g3 b5.length f8, .slice f5 b0.length f3] 27 (0, 0)) (xb a2.out) hb)
 replace a1 := ak (blk_below (g := a3) (o := .cells #[.slice f0 a9.length f1, .slice e5 a6.length e6] 27 (0, 0)) (xb a1.out) hb)
 replace HB := ak (below_step zf_0 hb)
 (try clear hb)
 (try clear hb2)
 (try clear hk)
 (try clear hi)
 refine hK.out _ _ ⟨(blk_cell a1.out 0).trans rfl, (blk_cell a1.out 1).trans rfl, (blk_cell a2.out 0).trans rfl, (blk_cell a2.out 1).trans rfl⟩ (fun hHeld => ?_)
 clear hK K
 refine no_ (N := some 25) ?_
 refine pu_ (i := 5) (N := some 26) (bA 6 63) ?_
 refine done_ zf_15 ?_
 try go_wp2
 go_ret
 exact ⟨zf_14, zf_0⟩

theorem laws_FnRenamed.walk (P : laws_FnRenamed.Pure) (a0 : Option Addr) (len0 cap0 : Nat) (z0 : List Int) (w : World) (w0 : (a0 = none ∧ len0 = 0 ∧ cap0 = 0 ∧ z0 = []) ∨ ∃ x, a0 = some x ∧ len0 ≤ cap0 ∧ cap0 ≤ maxLen ∧ z0.length = cap0 ∧ (∀ i, i < z0.length → w.cell? (x.add i) = some (.int .u8 (z0.getD i 0))) ∧ ∀ n ∈ z0, (Lit.int .u8 n).wf = true) (y0 : len0 * 1 ≤ 140737488351232) :
 Calls Try.prog 11 #[.slice a0 len0 cap0] w fun e w' => e = .returned (.bool true) ∧ Below w.heap.size w w' := by
 obtain ⟨l0, rfl, hr0, hm0, hw0, hc0⟩ := ReadsInt.ofRowC w0
 obtain ⟨k, h⟩ := P l0 hm0 y0 hw0
 refine (laws_FnRenamed.calls k _ _ l0 true w (Kd.C_of_reads (d := (0 : Int)) (h1 := fun _ => rfl) hr0) hc0 h).mono ?_
 rintro e w' ⟨rfl, hd⟩
 exact ⟨rfl, hd⟩

end Go.Proofs.Ytacifhahfamipaa.P
