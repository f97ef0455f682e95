-- written by gen.py (a program of this session) out of the kit's print of this seat's translation
import Derived.Test.YtacifhahfamipaaPk2
import Derived.Test.YtacifhahfamipaaFSpecDrawSetsOf
import Derived.Test.YtacifhahfamipaaFSpecSetsOf
import Derived.Test.YtacifhahfamipaaPk4
import Derived.Test.YtacifhahfamipaaV15
namespace Go.Proofs.Ytacifhahfamipaa.P
open Go.RowKit Go.Proofs.YtacifhahfamipaaW.PrintWords Go.Proofs.YtacifhahfamipaaW.PrintLast Go.Proofs.YtacifhahfamipaaW.PrintMore
attribute [local go_sem] max2_int min2_int max_two min_two max_three min_three max_four min_four
set_option linter.unusedVariables false
set_option linter.unusedSimpArgs false
def laws_FnSetsOf.T10 : Bool × List (List Nat × List Nat) := (true, [([], []), ([0], [0]), ([1, 1], [1]), ([2], [2]), ([3, 2], [2, 3]), ([4, 2, 2], [2, 4]), ([5, 2], [2, 5]), ([2], [2]), ([6, 7, 2], [2, 6, 7]), ([2, 8], [2, 8]), ([9, 5], [9]), ([10], [10]), ([11, 10], [10, 11]), ([12, 10], [10, 12]), ([10], [10]), ([14, 10], [10, 14]), ([13, 15, 10], [10, 13, 15]), ([10, 16], [10, 16]), ([17, 10, 0, 1, 2, 3, 4, 5, 6, 7, 8, 9, 10, 11, 12, 13, 14, 15, 16, 17], [17])])
def laws_FnSetsOf.B10 : List Nat := [0, 1, 3, 7, 15, 31, 63, 7, 255, 511, 1023, 2047, 4095, 8191, 2047, 18431, 65535, 131071, 262143]
theorem laws_FnSetsOf.tab10 : rtab .any (opsOf Try.f4 10) = laws_FnSetsOf.T10 := by kernel_rfl
theorem laws_FnSetsOf.bits10 : waitsOk laws_FnSetsOf.T10.2 laws_FnSetsOf.B10 = true := by kernel_rfl
theorem zh_19 {p : Prop} (h : p := by (with_reducible repeat (first | apply Kd.R_alloc | apply Kd.R_drewN | apply Kd.R_drew)); exact Kd.R_mono d2.out (fun _ hk => hk.2)) : p := h
theorem zh_18 {p : Prop} (h : p := by (with_reducible repeat (first | apply Kd.R_alloc | apply Kd.R_drewN | apply Kd.R_drew)); exact Kd.R_mono d6.out (fun _ hk => hk.2)) : p := h
theorem zh_17 {p : Prop} (h : p := by (with_reducible repeat (first | apply Kd.S_alloc | apply Kd.S_drewN | apply Kd.S_drew)); exact Kd.S_mono d3.out (fun _ hk => ⟨hk.1.1, ⟨hk.1.2, hk.2⟩⟩)) : p := h
theorem zh_16 {p : Prop} (h : p := by (with_reducible repeat (first | apply Kd.S_alloc | apply Kd.S_drewN | apply Kd.S_drew)); exact Kd.S_mono d7.out (fun _ hk => ⟨hk.1.2, ⟨hk.2, hk.1.1⟩⟩)) : p := h
theorem zh_15 {p : Prop} (h : p := by refine (Kd.R_reads' (e := 3) (base := w.heap.size) (ok := fun k_ => (True ∧ some k_ ≠ (.slice b2 a7.length b0 : Value).ownBlock)) (n := b5.length) (c := b8) ?_).2.2; exact zh_3) : p := h
theorem zh_14 {p : Prop} (h : p := by refine (Kd.R_reads' (e := 3) (base := w.heap.size) (ok := fun k_ => (True ∧ some k_ ≠ (.slice b9 b5.length b8 : Value).ownBlock)) (n := a7.length) (c := b0) ?_).2.2; exact zh_4) : p := h
theorem zh_13 {p : Prop} (h : p := by refine (Kd.S_reads' (e := 25) (base := w.heap.size) (ok := fun k_ => ((some k_ ≠ (.slice b2 a7.length b0 : Value).ownBlock ∧ some k_ ≠ (.slice d4 b7.length d1 : Value).ownBlock) ∧ some k_ ≠ (.slice b9 b5.length b8 : Value).ownBlock)) (n := a8.length) (c := b3) ?_).2.2; exact zh_2) : p := h
theorem zh_12 {p : Prop} (h : p := by refine (Kd.S_reads' (e := 25) (base := w.heap.size) (ok := fun k_ => ((some k_ ≠ (.slice b9 b5.length b8 : Value).ownBlock ∧ some k_ ≠ (.slice b4 a8.length b3 : Value).ownBlock) ∧ some k_ ≠ (.slice b2 a7.length b0 : Value).ownBlock)) (n := b7.length) (c := d1) ?_).2.2; exact zh_1) : p := h
theorem zh_11 {p : Prop} (h : p := by (with_reducible repeat (first | apply Kd.S_alloc | apply Kd.S_drewN | apply Kd.S_drew)); exact (Kd.S_mono (Kd.S_far (p := ⟨a9, 1, none⟩) (Kd.S_far (p := ⟨a9, 0, none⟩) (Kd.S_types d3.out a3.out (by decide)) (fun _ hk => hk.2) (.slice b4 a8.length b3)) (fun _ hk => hk.2) (.slice b2 a7.length b0)) (fun _ h_ => h_.1))) : p := h
theorem zh_10 {p : Prop} (h : p := by (with_reducible repeat (first | refine blk_drewN ?_ _ | refine blk_drew ?_ | refine blk_alloc ?_ _)); refine blk_far ?_ b6.out _; (with_reducible repeat (first | refine blk_drewN ?_ _ | refine blk_drew ?_ | refine blk_alloc ?_ _)); refine blk_far ?_ b6.out _; (with_reducible repeat (first | refine blk_drewN ?_ _ | refine blk_drew ?_ | refine blk_alloc ?_ _)); exact a3.out) : p := h
theorem zh_9 {p : Prop} (h : p := by first | rfl | (simp [errW_none, errW_some] <;> rfl) | (simp [*, errW_none, errW_some] <;> rfl)) : p := h
theorem zh_8 {p : Prop} (h : p := by (with_reducible repeat (first | refine blk_drewN ?_ _ | refine blk_drew ?_ | refine blk_alloc ?_ _)); refine blk_put (cs := #[.slice d4 b7.length d1, .slice none 0 0]) ?_ 1 _ rfl; (with_reducible repeat (first | refine blk_drewN ?_ _ | refine blk_drew ?_ | refine blk_alloc ?_ _)); refine blk_put (cs := #[.slice none 0 0, .slice none 0 0]) ?_ 0 _ rfl; (with_reducible repeat (first | refine blk_drewN ?_ _ | refine blk_drew ?_ | refine blk_alloc ?_ _)); exact a6.out) : p := h
theorem zh_7 {p : Prop} (h : p := by (with_reducible repeat (first | apply Kd.R_alloc | apply Kd.R_drewN | apply Kd.R_drew)); exact (Kd.R_mono (Kd.R_far (p := ⟨a9, 1, none⟩) (Kd.R_far (p := ⟨a9, 0, none⟩) (Kd.R_types d2.out a3.out (by decide)) (fun _ hk => hk.2) (.slice b4 a8.length b3)) (fun _ hk => hk.2) (.slice b2 a7.length b0)) (fun _ h_ => h_.1))) : p := h
theorem zh_6 {p : Prop} (h : p := by repeat (first | (with_reducible first | exact HB.out | apply below_alloc | apply pw_below_drewN | apply below_drew1 | refine below_set ?_ e6.out) | exact HB.out)) : p := h
theorem zh_5 {p : Prop} (h : p := by repeat (first | (with_reducible first | exact HB.out | apply below_alloc | apply pw_below_drewN | apply below_drew1) | exact HB.out)) : p := h
theorem zh_4 {p : Prop} (h : p := by (with_reducible repeat (first | apply Kd.R_alloc | apply Kd.R_drewN | apply Kd.R_drew)); exact (Kd.R_mono (Kd.R_far (p := ⟨b1, 1, none⟩) (Kd.R_far (p := ⟨b1, 0, none⟩) (Kd.R_types d2.out a6.out (by decide)) (fun _ hk => hk.2) (.slice d4 b7.length d1)) (fun _ hk => hk.2) (.slice b9 b5.length b8)) (fun _ h_ => h_.1))) : p := h
theorem zh_3 {p : Prop} (h : p := by (with_reducible repeat (first | apply Kd.R_alloc | apply Kd.R_drewN | apply Kd.R_drew)); exact (Kd.R_mono (Kd.R_far (p := ⟨b1, 1, none⟩) (Kd.R_far (p := ⟨b1, 0, none⟩) (Kd.R_types d6.out a6.out (by decide)) (fun _ hk => hk.2) (.slice d4 b7.length d1)) (fun _ hk => hk.2) (.slice b9 b5.length b8)) (fun _ h_ => h_.1))) : p := h
theorem zh_2 {p : Prop} (h : p := by (with_reducible repeat (first | apply Kd.S_alloc | apply Kd.S_drewN | apply Kd.S_drew)); exact (Kd.S_mono (Kd.S_far (p := ⟨b1, 1, none⟩) (Kd.S_far (p := ⟨b1, 0, none⟩) (Kd.S_types d3.out a6.out (by decide)) (fun _ hk => hk.2) (.slice d4 b7.length d1)) (fun _ hk => hk.2) (.slice b9 b5.length b8)) (fun _ h_ => h_.1))) : p := h
theorem zh_1 {p : Prop} (h : p := by (with_reducible repeat (first | apply Kd.S_alloc | apply Kd.S_drewN | apply Kd.S_drew)); exact (Kd.S_mono (Kd.S_far (p := ⟨b1, 1, none⟩) (Kd.S_far (p := ⟨b1, 0, none⟩) (Kd.S_types d7.out a6.out (by decide)) (fun _ hk => hk.2) (.slice d4 b7.length d1)) (fun _ hk => hk.2) (.slice b9 b5.length b8)) (fun _ h_ => h_.1))) : p := h
theorem zh_0 {p : Prop} (h : p := by repeat (first | (with_reducible first | exact HB.out | apply below_alloc | apply pw_below_drewN | apply below_drew1 | refine below_set ?_ e6.out | refine below_set ?_ e8.out) | exact HB.out)) : p := h
set_option maxHeartbeats 8000000 in
set_option maxRecDepth 100000 in
theorem laws_FnSetsOf.calls (k : Nat) (A0 : Option Addr) (c0 : Nat) (l0 : List Int) (r : Bool) (w : World) (hr0 : Kd.C (Kd.int .u8) w A0 l0.length l0) (hc0 : l0.length ≤ c0) (h : laws_FnSetsOf.f k l0 = some r) :
 Calls Try.prog 4 #[.slice A0 l0.length c0] w fun e w' => e = .returned (.bool r) ∧ Below w.heap.size w w' := by
 have hu27 := Try.underlying27
 have HR0 := ak hr0
 have i7 := ak hc0
 clear hr0 hc0
 have HB := ak (Below.refl w.heap.size w)
 have H : (if (l0.length : Int) > 1048576 then (some true) else ((spec_DrawSetsOf.f k l0).bind fun d0 => ((impl_SetsOf.f d0).bind fun d8 => ((spec_SetsOf.f k d0).bind fun e3 => ((laws_sameLogic.f k d8.1 d8.2.1 e3.1 e3.2.1).bind fun e9 => (if e9 = true then (laws_FnSetsOf.j0 k d0 d8.2.2 (d8.2.2 != e3.2.2) d8.1 d8.2.1) else (laws_FnSetsOf.j0 k d0 d8.2.2 true d8.1 d8.2.1))))))) = some r := h
 clear h
 replace H := op_ H
 rcases H with ⟨c2, H⟩ | ⟨c2, H⟩
 ·
  have f0 : decide (1048576 < (l0.length : Int)) = true := dT_ c2
  have f1 : decide (1048576 < l0.length) = true := dT_ (by omega)
  clear c2
  obtain rfl := Option.some.inj H
  go_enter Try.func4, Try.ntmps4
  go_wp2
  go_ret
  exact ⟨zh_9, zh_5⟩
 have f0 : decide (1048576 < (l0.length : Int)) = false := dF_ c2
 have f1 : decide (1048576 < l0.length) = false := dF_ (by omega)
 clear c2
 replace H := bd_ H
 obtain ⟨d0, A3, H⟩ := H
 replace H := bd_ H
 obtain ⟨⟨a8, a7, e7⟩, A4, H⟩ := H
 try dsimp only at H
 replace H := bd_ H
 obtain ⟨⟨b7, b5, f2⟩, A5, H⟩ := H
 try dsimp only at H
 have g1 := ak H
 clear H
 go_enter Try.func4, Try.ntmps4
 go_upto_region 6 with (first | ((with_reducible refine gate_callee (f := 22) rfl ?_); refine gl_ (some 12) Try.func22 #[.slice A0 l0.length c0] ?_; (with_reducible refine (spec_DrawSetsOf.calls k _ _ l0 d0 _ (y4 HR0.out) i7.out A3.out).mono ?_); rintro e w' ⟨rfl, hb⟩; refine ⟨_, rfl, ?_⟩; replace HB := ak (below_step zh_5 hb); (try clear hb); (try clear hb2); (try clear hk); (try clear hi)) | ((with_reducible refine gate_callee (f := 23) rfl ?_); refine gl_ (some 15) Try.func23 #[.int .i64 d0] ?_; (with_reducible refine (impl_SetsOf.calls d0 a8 a7 e7 _ A4.out).mono ?_); rintro e w' ⟨i8, i9, rfl, ho0, ho1, hb⟩; refine ⟨_, rfl, ?_⟩; have d3 := ak (Kd.S_lower ho0 (below_size zh_5)); have d2 := ak (Kd.R_lower ho1 (below_size zh_5)); replace HB := ak (below_step zh_5 hb); (try clear hb); (try clear hb2); (try clear hk); (try clear hi); (try clear ho0); (try clear ho1)) | ((with_reducible refine gate_dst (N := 4) rfl ?_); (try (refine gate_guard (by rfl) ?_; dsimp only)); refine box_event ?hg (N := 4) ?hd (cs := #[.slice none 0 0, .slice none 0 0]) (t := 27) ?hr ?_; (case hd => rfl); (case hg => rfl); (case hr => first | (go_simp; done) | (go_simp; rfl)); intro a9 hg w9 hbox hb; replace d3 := ak (Kd.S_below (xS d3.out) hb); replace d2 := ak (Kd.R_below (xR d2.out) hb); have a3 := ak (hbox); have h0 := ak ((by rw [hg]; exact (below_size zh_5) : w.heap.size ≤ a9)); have e6 := ak ((by rw [hg]; exact (below_size zh_5) : w.heap.size ≤ a9)); replace HB := ak (below_step zh_5 hb); clear hb hbox hg; obtain ⟨b4, b3, g2⟩ := Kd.S_slice d3.out; subst g2; have d9 := cz20 a3.out; have e0 := cz21 a3.out; have e1 := blk_frozen a3.out 0; have e2 := blk_frozen a3.out 1; obtain ⟨b2, b0, g3⟩ := Kd.R_slice d2.out; subst g3) | ((with_reducible refine gate_callee (f := 24) rfl ?_); refine gl_ (some 20) Try.func24 #[.int .i64 d0] ?_; (with_reducible refine (spec_SetsOf.calls k d0 b7 b5 f2 _ A5.out).mono ?_); rintro e w' ⟨j1, j2, rfl, ho0, ho1, hb⟩; refine ⟨_, rfl, ?_⟩; have d7 := ak (Kd.S_lower (Kd.S_new' (Kd.S_new' ho0 (Kd.S_lt zh_11)) (Kd.R_lt zh_7)) (below_size zh_6)); replace d3 := ak (Kd.S_mono (Kd.S_told (Kd.S_told (Kd.S_old zh_11 hb) (Kd.S_base ho0)) (Kd.R_base ho1)) (fun _ h_ => h_.1)); have d6 := ak (Kd.R_lower (Kd.R_new' ho1 (Kd.R_lt zh_7)) (below_size zh_6)); replace d2 := ak (Kd.R_elder' zh_7 (Kd.R_base ho1) hb); replace a3 := ak (blk_below (g := a9) (o := .cells #[.slice b4 a8.length b3, .slice b2 a7.length b0] 27 (0, 0)) (by (with_reducible repeat (first | refine blk_drewN ?_ _ | refine blk_drew ?_ | refine blk_alloc ?_ _)); refine blk_put (cs := #[.slice b4 a8.length b3, .slice none 0 0]) ?_ 1 _ rfl; (with_reducible repeat (first | refine blk_drewN ?_ _ | refine blk_drew ?_ | refine blk_alloc ?_ _)); refine blk_put (cs := #[.slice none 0 0, .slice none 0 0]) ?_ 0 _ rfl; (with_reducible repeat (first | refine blk_drewN ?_ _ | refine blk_drew ?_ | refine blk_alloc ?_ _)); exact a3.out) hb); replace HB := ak (below_step zh_6 hb); (try clear hb); (try clear hb2); (try clear hk); (try clear hi); (try clear ho0); (try clear ho1)) | ((with_reducible refine gate_dst (N := 6) rfl ?_); (try (refine gate_guard (by rfl) ?_; dsimp only)); refine box_event ?hg (N := 6) ?hd (cs := #[.slice none 0 0, .slice none 0 0]) (t := 27) ?hr ?_; (case hd => rfl); (case hg => rfl); (case hr => first | (go_simp; done) | (go_simp; rfl)); intro b1 hg k1 hbox hb; replace d3 := ak (Kd.S_below (xS d3.out) hb); replace d2 := ak (Kd.R_below (xR d2.out) hb); replace d7 := ak (Kd.S_below (xS d7.out) hb); replace d6 := ak (Kd.R_below (xR d6.out) hb); have a6 := ak (hbox); have h2 := ak ((by rw [hg]; exact (below_size zh_6) : w.heap.size ≤ b1)); have e8 := ak ((by rw [hg]; exact (below_size zh_6) : w.heap.size ≤ b1)); replace HB := ak (below_step zh_6 hb); have b6 := ak ((by rw [hg]; exact Nat.ne_of_lt (blk_lt (g := a9) (o := .cells #[.slice b4 a8.length b3, .slice b2 a7.length b0] 27 (0, 0)) (xb a3.out)) : a9 ≠ b1)); have d5 := ak ((by rw [hg]; exact Nat.ne_of_gt (blk_lt (g := a9) (o := .cells #[.slice b4 a8.length b3, .slice b2 a7.length b0] 27 (0, 0)) (xb a3.out)) : b1 ≠ a9)); replace a3 := ak (blk_below (g := a9) (o := .cells #[.slice b4 a8.length b3, .slice b2 a7.length b0] 27 (0, 0)) (xb a3.out) hb); clear hb hbox hg; obtain ⟨d4, d1, g4⟩ := Kd.S_slice d7.out; subst g4; have h3 := d5.out; have h4 := b6.out; have d9 := cz20 a6.out; have e0 := cz21 a6.out; have e1 := blk_frozen a6.out 0; have e2 := blk_frozen a6.out 1; obtain ⟨b9, b8, g5⟩ := Kd.R_slice d6.out; subst g5))
 (try simp only [Act.put, List.setIfInBounds_toArray, List.set_cons_zero, List.set_cons_succ])
 go_cut [31] (fun j3 wc => ∃ (kq : Nat) (e4 : Bool), j3 = .bool e4 ∧ Aside0 (laws_FnSetsOf.j0 kq d0 e7 e4 a8 a7 = some r) ∧ Aside0 (kq ≤ k) ∧ Aside0 (Kd.S (Kd.slice 3 (Kd.int .i64)) 25 wc w.heap.size (fun k_ => some k_ ≠ ((.slice b2 a7.length b0) : Value).ownBlock ∧ some k_ ≠ ((.slice d4 b7.length d1) : Value).ownBlock ∧ some k_ ≠ ((.slice b9 b5.length b8) : Value).ownBlock) (.slice b4 a8.length b3) a8) ∧ Aside0 (Kd.R (Kd.int .i64) 3 wc w.heap.size (fun k_ => some k_ ≠ ((.slice b9 b5.length b8) : Value).ownBlock) (.slice b2 a7.length b0) a7) ∧ Aside0 (Kd.S (Kd.slice 3 (Kd.int .i64)) 25 wc w.heap.size (fun k_ => some k_ ≠ ((.slice b4 a8.length b3) : Value).ownBlock ∧ some k_ ≠ ((.slice b2 a7.length b0) : Value).ownBlock ∧ some k_ ≠ ((.slice b9 b5.length b8) : Value).ownBlock) (.slice d4 b7.length d1) b7) ∧ Aside0 (Kd.R (Kd.int .i64) 3 wc w.heap.size (fun k_ => some k_ ≠ ((.slice b2 a7.length b0) : Value).ownBlock) (.slice b9 b5.length b8) b5) ∧ Aside0 (wc.heap[a9]? = some (.cells #[(.slice b4 a8.length b3), (.slice b2 a7.length b0)] 27 (0, 0))) ∧ Aside0 (wc.heap[b1]? = some (.cells #[(.slice d4 b7.length d1), (.slice b9 b5.length b8)] 27 (0, 0))) ∧ Aside0 (Below w.heap.size w wc))
 case first =>
  have H := g1.out
  clear g1
  replace H := bd_ H
  obtain ⟨e9, h5, H⟩ := H
  try dsimp only at H
  replace H := ox_ H
  rcases H with ⟨rfl, H⟩ | ⟨rfl, H⟩
  ·
   have H' := ak H
   clear H
   have h6 := b6.out
   have h7 := d5.out
   have d9 := cz20 a3.out
   have e0 := cz21 a3.out
   have e1 := blk_frozen a3.out 0
   have e2 := blk_frozen a3.out 1
   have d9 := cz20 a6.out
   have e0 := cz21 a6.out
   have e1 := blk_frozen a6.out 0
   have e2 := blk_frozen a6.out 1
   go_wp2_with (first | ((with_reducible refine gate_callee (f := 17) rfl ?_); refine gl_ (some 25) Try.func17 #[.agg #[.slice b4 a8.length b3, .slice b2 a7.length b0], .agg #[.slice d4 b7.length d1, .slice b9 b5.length b8]] ?_; (with_reducible refine (laws_sameLogic.calls k _ _ a8 _ _ a7 _ _ b7 _ _ b5 true _ zh_13 (y2 d3.out) zh_14 (y2 d2.out) zh_12 (y2 d7.out) zh_15 (y2 d6.out) h5.out).mono ?_); rintro e w' ⟨rfl, hb⟩; refine ⟨_, rfl, ?_⟩; replace d3 := ak (Kd.S_below zh_2 hb); replace d2 := ak (Kd.R_below zh_4 hb); replace d7 := ak (Kd.S_below zh_1 hb); replace d6 := ak (Kd.R_below zh_3 hb); replace a3 := ak (blk_below (g := a9) (o := .cells #[.slice b4 a8.length b3, .slice b2 a7.length b0] 27 (0, 0)) zh_10 hb); replace a6 := ak (blk_below (g := b1) (o := .cells #[.slice d4 b7.length d1, .slice b9 b5.length b8] 27 (0, 0)) zh_8 hb); replace HB := ak (below_step zh_0 hb); (try clear hb); (try clear hb2); (try clear hk); (try clear hi)))
   go_meet
   case rel => exact ⟨_, ((e7 != f2)), (by first | rfl | (simp; done) | (simp [*]; done)), H', ⟨(by first | omega | exact Nat.le_refl _)⟩, ⟨zh_17⟩, ⟨zh_19⟩, ⟨zh_16⟩, ⟨zh_18⟩, ⟨(xb a3.out)⟩, ⟨(xb a6.out)⟩, ⟨zh_0⟩⟩
  have H' := ak H
  clear H
  have h8 := b6.out
  have h9 := d5.out
  have d9 := cz20 a3.out
  have e0 := cz21 a3.out
  have e1 := blk_frozen a3.out 0
  have e2 := blk_frozen a3.out 1
  have d9 := cz20 a6.out
  have e0 := cz21 a6.out
  have e1 := blk_frozen a6.out 0
  have e2 := blk_frozen a6.out 1
  go_wp2_with (first | ((with_reducible refine gate_callee (f := 17) rfl ?_); refine gl_ (some 25) Try.func17 #[.agg #[.slice b4 a8.length b3, .slice b2 a7.length b0], .agg #[.slice d4 b7.length d1, .slice b9 b5.length b8]] ?_; (with_reducible refine (laws_sameLogic.calls k _ _ a8 _ _ a7 _ _ b7 _ _ b5 false _ zh_13 (y2 d3.out) zh_14 (y2 d2.out) zh_12 (y2 d7.out) zh_15 (y2 d6.out) h5.out).mono ?_); rintro e w' ⟨rfl, hb⟩; refine ⟨_, rfl, ?_⟩; replace d3 := ak (Kd.S_below zh_2 hb); replace d2 := ak (Kd.R_below zh_4 hb); replace d7 := ak (Kd.S_below zh_1 hb); replace d6 := ak (Kd.R_below zh_3 hb); replace a3 := ak (blk_below (g := a9) (o := .cells #[.slice b4 a8.length b3, .slice b2 a7.length b0] 27 (0, 0)) zh_10 hb); replace a6 := ak (blk_below (g := b1) (o := .cells #[.slice d4 b7.length d1, .slice b9 b5.length b8] 27 (0, 0)) zh_8 hb); replace HB := ak (below_step zh_0 hb); (try clear hb); (try clear hb2); (try clear hk); (try clear hi)))
  go_meet
  case rel => exact ⟨_, (true), (by first | rfl | (simp; done) | (simp [*]; done)), H', ⟨(by first | omega | exact Nat.le_refl _)⟩, ⟨zh_17⟩, ⟨zh_19⟩, ⟨zh_16⟩, ⟨zh_18⟩, ⟨(xb a3.out)⟩, ⟨(xb a6.out)⟩, ⟨zh_0⟩⟩
 case rest =>
  clear g1
  try clear c2
  try clear f0
  try clear f1
  try clear d9
  try clear e0
  try clear e1
  try clear e2
  obtain ⟨kq, e4, rfl, HA, k2, a1, a2, a5, a4, a3, a6, HB⟩ := hcut
  cases kq with
  | zero => exact absurd HA.out (by simp [laws_FnSetsOf.j0])
  | succ f3 =>
   have H := HA.out
   clear HA
   simp only [laws_FnSetsOf.j0] at H
   replace H := ox_ H
   rcases H with ⟨rfl, H⟩ | ⟨rfl, H⟩
   ·
    obtain rfl := Option.some.inj H
    go_wp2
    go_ret
    exact ⟨zh_9, zh_0⟩
   replace H := ox_ H
   rcases H with ⟨rfl, H⟩ | ⟨rfl, H⟩
   ·
    replace H := bd_ H
    obtain ⟨j4, g0, H⟩ := H
    try dsimp only at H
    replace H := ox_ H
    rcases H with ⟨rfl, H⟩ | ⟨rfl, H⟩
    ·
     replace H := bd_ H
     obtain ⟨f5, g6, H⟩ := H
     try dsimp only at H
     replace H := oe2 H
     rcases H with ⟨⟨-, f6, f7⟩, H⟩ | ⟨⟨k3, f6, f7⟩, H⟩
     ·
      replace H := ok_ H
      obtain ⟨g7, H⟩ := H
      have i0 := eq_true g7
      have i1 : decide (0 ≤ d0) = true := dT_ g7
      clear g7
      obtain ⟨ji36, hji36⟩ : ∃ j_ : Int, (shl .i64 1 d0) = j_ := ⟨_, rfl⟩
      replace H : (some ((a7.length : Int) == (ji36))) = some r := by first | (rw [hji36] at H; exact H) | (simp only [hji36] at H ⊢; exact H)
      (try rw [hji36] at g0)
      (try rw [hji36] at g6)
      have hji36_ : (IntKind.i64.wrap (1 * 2 ^ min d0.toNat 64)) = ji36 := hji36
      have hji36z : d0 ≤ 64 → (IntKind.i64.wrap (1 * 2 ^ d0.toNat)) = ji36 := shl_small hji36
      have hji36u : (IntKind.i64.wrap (2 ^ min d0.toNat 64)) = ji36 := by have h_ := hji36_; rw [Int.one_mul] at h_; exact h_
      have hji36v : d0 ≤ 64 → (IntKind.i64.wrap (2 ^ d0.toNat)) = ji36 := fun hle_ => by have h_ := hji36z hle_; rw [Int.one_mul] at h_; exact h_
      have hji36y : (wrap64 (1 * 2 ^ min d0.toNat 64)) = ji36 := (i64_w _).symm.trans hji36_
      have hji36x : d0 ≤ 64 → (wrap64 (1 * 2 ^ d0.toNat)) = ji36 := fun h_ => (i64_w _).symm.trans (hji36z h_)
      obtain rfl := Option.some.inj H
      try go_wp2
      replace a1 := ak (Kd.S_drew a1.out)
      replace a2 := ak (Kd.R_drew a2.out)
      replace a5 := ak (Kd.S_drew a5.out)
      replace a4 := ak (Kd.R_drew a4.out)
      replace a3 := ak (blk_drew a3.out)
      replace a6 := ak (blk_drew a6.out)
      replace HB := ak (below_drew1 HB.out)
      refine start_ (n := 19) (S := fun w' => w'.cell? ⟨a9, 0, none⟩ = some (.slice b4 a8.length b3) ∧ w'.cell? ⟨a9, 1, none⟩ = some (.slice b2 a7.length b0)) (ds := []) (bA 19 0) (by kernel_rfl) rfl rfl ⟨(blk_cell a3.out 0).trans rfl, (blk_cell a3.out 1).trans rfl⟩ (fun hHeld => ?_); refine with_tabW laws_FnSetsOf.tab10 laws_FnSetsOf.bits10 (fun HT_ HW_ => ?_)
      generalize wc.drew = k4 at a1 a2 a5 a4 a3 a6 HB hHeld ⊢
      refine tk_ (i := 0) (N := some 39) (bA 19 1) ?_
      refine one_ (i := 1) (N := some 40) (bA 19 3) rfl rfl (one_of HT_.out (by kernel_rfl)) (by decide) (fun K hK => ?_)
      refine ge_ Try.func20 #[.agg #[.slice b4 a8.length b3, .slice b2 a7.length b0]] ?_
      with_reducible refine (impl_LogicOk.calls _ _ a8 _ _ a7 true _ ?side1 ?side2 ?side3 ?side4 g0.out).mono ?_
      (case side1 => repeat (first | exact (Kd.S_reads' a1.out).2.2 | (with_reducible refine Kd.C_alloc ?_ _) | (with_reducible refine Kd.C_drewN ?_ _) | (with_reducible refine Kd.C_drew ?_)))
      (case side2 => exact (Kd.S_reads' a1.out).2.1)
      (case side3 => repeat (first | exact (Kd.R_reads' a2.out).2.2 | (with_reducible refine Kd.C_alloc ?_ _) | (with_reducible refine Kd.C_drewN ?_ _) | (with_reducible refine Kd.C_drew ?_)))
      (case side4 => exact (Kd.R_reads' a2.out).2.1)
      rintro e w' ⟨rfl, hb⟩
      refine ⟨_, rfl, ?_⟩
      replace a1 := ak (Kd.S_below (xS a1.out) hb)
      replace a2 := ak (Kd.R_below (xR a2.out) hb)
      replace a5 := ak (Kd.S_below (xS a5.out) hb)
      replace a4 := ak (Kd.R_below (xR a4.out) hb)
      replace a3 := ak (blk_below (g := a9) (o := .cells #[.slice b4 a8.length b3, .slice b2 a7.length b0] 27 (0, 0)) (xb a3.out) hb)
      replace a6 := ak (blk_below (g := b1) (o := .cells #[.slice d4 b7.length d1, .slice b9 b5.length b8] 27 (0, 0)) (xb a6.out) hb)
      replace HB := ak (below_step zh_0 hb)
      (try clear hb)
      (try clear hb2)
      (try clear hk)
      (try clear hi)
      refine hK.out _ _ ⟨(blk_cell a3.out 0).trans rfl, (blk_cell a3.out 1).trans rfl⟩ (fun hHeld => ?_)
      clear hK K
      refine no_ (N := some 40) ?_
      refine pu_ (i := 2) (N := some 41) (bA 19 7) ?_
      refine pu_ (i := 3) (N := some 42) (bA 19 15) ?_
      refine pu_ (i := 7) (N := some 46) (bA 19 143) ?_
      refine tk_ (i := 4) (N := some 43) (bA 19 159) ?_
      refine one_ (i := 5) (N := some 44) (bA 19 191) rfl rfl (one_of HT_.out (by kernel_rfl)) (by decide) (fun K hK => ?_)
      refine ge_ Try.func21 #[.slice b4 a8.length b3] ?_
      with_reducible refine (impl_AtomsOf.calls f3 _ _ a8 f5 _ ?side1 ?side2 g6.out).mono ?_
      (case side1 => repeat (first | exact (Kd.S_reads' a1.out).2.2 | (with_reducible refine Kd.C_alloc ?_ _) | (with_reducible refine Kd.C_drewN ?_ _) | (with_reducible refine Kd.C_drew ?_)))
      (case side2 => exact (Kd.S_reads' a1.out).2.1)
      rintro e w' ⟨g8, rfl, ho0, hb⟩
      refine ⟨_, rfl, ?_⟩
      replace a1 := ak (Kd.S_elder' (xS a1.out) (Kd.R_base ho0) hb)
      replace a5 := ak (Kd.S_elder' (xS a5.out) (Kd.R_base ho0) hb)
      have e5 := ak (Kd.R_lower (Kd.R_new' (Kd.R_new' ho0 (Kd.R_lt (xR a2.out))) (Kd.R_lt (xR a4.out))) (below_size zh_0))
      replace a2 := ak (Kd.R_elder' (xR a2.out) (Kd.R_base ho0) hb)
      replace a4 := ak (Kd.R_elder' (xR a4.out) (Kd.R_base ho0) hb)
      replace a3 := ak (blk_below (g := a9) (o := .cells #[.slice b4 a8.length b3, .slice b2 a7.length b0] 27 (0, 0)) (xb a3.out) hb)
      replace a6 := ak (blk_below (g := b1) (o := .cells #[.slice d4 b7.length d1, .slice b9 b5.length b8] 27 (0, 0)) (xb a6.out) hb)
      replace HB := ak (below_step zh_0 hb)
      (try clear hb)
      (try clear hb2)
      (try clear hk)
      (try clear hi)
      (try clear ho0)
      obtain ⟨j5, j6, f8⟩ := Kd.R_slice e5.out
      (first | subst f8 | (injection f8 with f1_ f2_ f3_; have f4_ := f1_.symm; have f5_ := f3_.symm; clear f1_ f2_ f3_; subst f4_; subst f5_))
      refine hK.out _ _ ⟨(blk_cell a3.out 0).trans rfl, (blk_cell a3.out 1).trans rfl⟩ (fun hHeld => ?_)
      clear hK K
      refine no_ (N := some 44) ?_
      refine pu_ (i := 6) (N := some 45) (bA 19 255) ?_
      refine pu_ (i := 8) (N := some 47) (bA 19 511) ?_
      refine pu_ (i := 9) (N := some 48) (bA 19 1023) ?_
      refine pu_ (i := 10) (N := some 49) (bA 19 2047) ?_
      refine pu_ (i := 11) (N := some 50) (bA 19 4095) ?_
      refine pu_ (i := 14) (N := some 53) (bA 19 20479) ?_
      refine pu_ (i := 15) (N := some 54) (bA 19 53247) ?_
      refine tk_ (i := 12) (N := some 51) (bA 19 57343) ?_
      refine pu_ (i := 13) (N := some 52) (bA 19 65535) ?_
      refine pu_ (i := 16) (N := some 55) (bA 19 131071) ?_
      refine pu_ (i := 17) (N := some 56) (bA 19 262143) ?_
      refine pu_ (i := 18) (N := some 2) (bA 19 524287) ?_
      refine done_ (done_of HT_.out (by kernel_rfl)) ?_
      try go_wp2
      go_ret
      exact ⟨(by first | rfl | (simp [errW_none, errW_some] <;> rfl) | (simp only [← hji36]; first | rfl | (simp [errW_none, errW_some] <;> rfl)) | (simp [*, errW_none, errW_some] <;> rfl)), zh_0⟩
     obtain rfl := Option.some.inj H
     try go_wp2
     replace a1 := ak (Kd.S_drew a1.out)
     replace a2 := ak (Kd.R_drew a2.out)
     replace a5 := ak (Kd.S_drew a5.out)
     replace a4 := ak (Kd.R_drew a4.out)
     replace a3 := ak (blk_drew a3.out)
     replace a6 := ak (blk_drew a6.out)
     replace HB := ak (below_drew1 HB.out)
     refine start_ (n := 19) (S := fun w' => w'.cell? ⟨a9, 0, none⟩ = some (.slice b4 a8.length b3) ∧ w'.cell? ⟨a9, 1, none⟩ = some (.slice b2 a7.length b0)) (ds := []) (bA 19 0) (by kernel_rfl) rfl rfl ⟨(blk_cell a3.out 0).trans rfl, (blk_cell a3.out 1).trans rfl⟩ (fun hHeld => ?_); refine with_tabW laws_FnSetsOf.tab10 laws_FnSetsOf.bits10 (fun HT_ HW_ => ?_)
     generalize wc.drew = k5 at a1 a2 a5 a4 a3 a6 HB hHeld ⊢
     refine tk_ (i := 0) (N := some 39) (bA 19 1) ?_
     refine one_ (i := 1) (N := some 40) (bA 19 3) rfl rfl (one_of HT_.out (by kernel_rfl)) (by decide) (fun K hK => ?_)
     refine ge_ Try.func20 #[.agg #[.slice b4 a8.length b3, .slice b2 a7.length b0]] ?_
     with_reducible refine (impl_LogicOk.calls _ _ a8 _ _ a7 true _ ?side1 ?side2 ?side3 ?side4 g0.out).mono ?_
     (case side1 => repeat (first | exact (Kd.S_reads' a1.out).2.2 | (with_reducible refine Kd.C_alloc ?_ _) | (with_reducible refine Kd.C_drewN ?_ _) | (with_reducible refine Kd.C_drew ?_)))
     (case side2 => exact (Kd.S_reads' a1.out).2.1)
     (case side3 => repeat (first | exact (Kd.R_reads' a2.out).2.2 | (with_reducible refine Kd.C_alloc ?_ _) | (with_reducible refine Kd.C_drewN ?_ _) | (with_reducible refine Kd.C_drew ?_)))
     (case side4 => exact (Kd.R_reads' a2.out).2.1)
     rintro e w' ⟨rfl, hb⟩
     refine ⟨_, rfl, ?_⟩
     replace a1 := ak (Kd.S_below (xS a1.out) hb)
     replace a2 := ak (Kd.R_below (xR a2.out) hb)
     replace a5 := ak (Kd.S_below (xS a5.out) hb)
     replace a4 := ak (Kd.R_below (xR a4.out) hb)
     replace a3 := ak (blk_below (g := a9) (o := .cells #[.slice b4 a8.length b3, .slice b2 a7.length b0] 27 (0, 0)) (xb a3.out) hb)
     replace a6 := ak (blk_below (g := b1) (o := .cells #[.slice d4 b7.length d1, .slice b9 b5.length b8] 27 (0, 0)) (xb a6.out) hb)
     replace HB := ak (below_step zh_0 hb)
     (try clear hb)
     (try clear hb2)
     (try clear hk)
     (try clear hi)
     refine hK.out _ _ ⟨(blk_cell a3.out 0).trans rfl, (blk_cell a3.out 1).trans rfl⟩ (fun hHeld => ?_)
     clear hK K
     refine no_ (N := some 40) ?_
     refine pu_ (i := 2) (N := some 41) (bA 19 7) ?_
     refine pu_ (i := 3) (N := some 42) (bA 19 15) ?_
     refine pu_ (i := 7) (N := some 46) (bA 19 143) ?_
     refine tk_ (i := 4) (N := some 43) (bA 19 159) ?_
     refine one_ (i := 5) (N := some 44) (bA 19 191) rfl rfl (one_of HT_.out (by kernel_rfl)) (by decide) (fun K hK => ?_)
     refine ge_ Try.func21 #[.slice b4 a8.length b3] ?_
     with_reducible refine (impl_AtomsOf.calls f3 _ _ a8 f5 _ ?side1 ?side2 g6.out).mono ?_
     (case side1 => repeat (first | exact (Kd.S_reads' a1.out).2.2 | (with_reducible refine Kd.C_alloc ?_ _) | (with_reducible refine Kd.C_drewN ?_ _) | (with_reducible refine Kd.C_drew ?_)))
     (case side2 => exact (Kd.S_reads' a1.out).2.1)
     rintro e w' ⟨g8, rfl, ho0, hb⟩
     refine ⟨_, rfl, ?_⟩
     replace a1 := ak (Kd.S_elder' (xS a1.out) (Kd.R_base ho0) hb)
     replace a5 := ak (Kd.S_elder' (xS a5.out) (Kd.R_base ho0) hb)
     have e5 := ak (Kd.R_lower (Kd.R_new' (Kd.R_new' ho0 (Kd.R_lt (xR a2.out))) (Kd.R_lt (xR a4.out))) (below_size zh_0))
     replace a2 := ak (Kd.R_elder' (xR a2.out) (Kd.R_base ho0) hb)
     replace a4 := ak (Kd.R_elder' (xR a4.out) (Kd.R_base ho0) hb)
     replace a3 := ak (blk_below (g := a9) (o := .cells #[.slice b4 a8.length b3, .slice b2 a7.length b0] 27 (0, 0)) (xb a3.out) hb)
     replace a6 := ak (blk_below (g := b1) (o := .cells #[.slice d4 b7.length d1, .slice b9 b5.length b8] 27 (0, 0)) (xb a6.out) hb)
     replace HB := ak (below_step zh_0 hb)
     (try clear hb)
     (try clear hb2)
     (try clear hk)
     (try clear hi)
     (try clear ho0)
     obtain ⟨j7, j8, f9⟩ := Kd.R_slice e5.out
     (first | subst f9 | (injection f9 with f1_ f2_ f3_; have f4_ := f1_.symm; have f5_ := f3_.symm; clear f1_ f2_ f3_; subst f4_; subst f5_))
     refine hK.out _ _ ⟨(blk_cell a3.out 0).trans rfl, (blk_cell a3.out 1).trans rfl⟩ (fun hHeld => ?_)
     clear hK K
     refine no_ (N := some 44) ?_
     refine pu_ (i := 6) (N := some 45) (bA 19 255) ?_
     refine pu_ (i := 8) (N := some 47) (bA 19 511) ?_
     refine pu_ (i := 9) (N := some 48) (bA 19 1023) ?_
     refine pu_ (i := 10) (N := some 49) (bA 19 2047) ?_
     refine of_ (i := 11) (N := some 50) (bA 19 4095) ?_
     refine of_ (i := 12) (N := some 51) (bA 19 8191) ?_
     refine of_ (i := 13) (N := some 52) (bA 19 16383) ?_
     refine of_ (i := 14) (N := some 53) (bA 19 32767) ?_
     refine of_ (i := 15) (N := some 54) (bA 19 65535) ?_
     refine of_ (i := 16) (N := some 55) (bA 19 131071) ?_
     refine pu_ (i := 17) (N := some 56) (bA 19 262143) ?_
     refine pu_ (i := 18) (N := some 2) (bA 19 524287) ?_
     refine done_ (done_of HT_.out (by kernel_rfl)) ?_
     try go_wp2
     go_ret
     exact ⟨zh_9, zh_0⟩
    obtain rfl := Option.some.inj H
    try go_wp2
    replace a1 := ak (Kd.S_drew a1.out)
    replace a2 := ak (Kd.R_drew a2.out)
    replace a5 := ak (Kd.S_drew a5.out)
    replace a4 := ak (Kd.R_drew a4.out)
    replace a3 := ak (blk_drew a3.out)
    replace a6 := ak (blk_drew a6.out)
    replace HB := ak (below_drew1 HB.out)
    refine start_ (n := 19) (S := fun w' => w'.cell? ⟨a9, 0, none⟩ = some (.slice b4 a8.length b3) ∧ w'.cell? ⟨a9, 1, none⟩ = some (.slice b2 a7.length b0)) (ds := []) (bA 19 0) (by kernel_rfl) rfl rfl ⟨(blk_cell a3.out 0).trans rfl, (blk_cell a3.out 1).trans rfl⟩ (fun hHeld => ?_); refine with_tabW laws_FnSetsOf.tab10 laws_FnSetsOf.bits10 (fun HT_ HW_ => ?_)
    generalize wc.drew = k6 at a1 a2 a5 a4 a3 a6 HB hHeld ⊢
    refine tk_ (i := 0) (N := some 39) (bA 19 1) ?_
    refine one_ (i := 1) (N := some 40) (bA 19 3) rfl rfl (one_of HT_.out (by kernel_rfl)) (by decide) (fun K hK => ?_)
    refine ge_ Try.func20 #[.agg #[.slice b4 a8.length b3, .slice b2 a7.length b0]] ?_
    with_reducible refine (impl_LogicOk.calls _ _ a8 _ _ a7 false _ ?side1 ?side2 ?side3 ?side4 g0.out).mono ?_
    (case side1 => repeat (first | exact (Kd.S_reads' a1.out).2.2 | (with_reducible refine Kd.C_alloc ?_ _) | (with_reducible refine Kd.C_drewN ?_ _) | (with_reducible refine Kd.C_drew ?_)))
    (case side2 => exact (Kd.S_reads' a1.out).2.1)
    (case side3 => repeat (first | exact (Kd.R_reads' a2.out).2.2 | (with_reducible refine Kd.C_alloc ?_ _) | (with_reducible refine Kd.C_drewN ?_ _) | (with_reducible refine Kd.C_drew ?_)))
    (case side4 => exact (Kd.R_reads' a2.out).2.1)
    rintro e w' ⟨rfl, hb⟩
    refine ⟨_, rfl, ?_⟩
    replace a1 := ak (Kd.S_below (xS a1.out) hb)
    replace a2 := ak (Kd.R_below (xR a2.out) hb)
    replace a5 := ak (Kd.S_below (xS a5.out) hb)
    replace a4 := ak (Kd.R_below (xR a4.out) hb)
    replace a3 := ak (blk_below (g := a9) (o := .cells #[.slice b4 a8.length b3, .slice b2 a7.length b0] 27 (0, 0)) (xb a3.out) hb)
    replace a6 := ak (blk_below (g := b1) (o := .cells #[.slice d4 b7.length d1, .slice b9 b5.length b8] 27 (0, 0)) (xb a6.out) hb)
    replace HB := ak (below_step zh_0 hb)
    (try clear hb)
    (try clear hb2)
    (try clear hk)
    (try clear hi)
    refine hK.out _ _ ⟨(blk_cell a3.out 0).trans rfl, (blk_cell a3.out 1).trans rfl⟩ (fun hHeld => ?_)
    clear hK K
    refine no_ (N := some 40) ?_
    refine pu_ (i := 2) (N := some 41) (bA 19 7) ?_
    refine of_ (i := 3) (N := some 42) (bA 19 15) ?_
    refine of_ (i := 4) (N := some 43) (bA 19 31) ?_
    refine of_ (i := 5) (N := some 44) (bA 19 63) ?_
    refine of_ (i := 6) (N := some 45) (bA 19 127) ?_
    refine of_ (i := 7) (N := some 46) (bA 19 255) ?_
    refine of_ (i := 8) (N := some 47) (bA 19 511) ?_
    refine pu_ (i := 9) (N := some 48) (bA 19 1023) ?_
    refine pu_ (i := 10) (N := some 49) (bA 19 2047) ?_
    refine of_ (i := 11) (N := some 50) (bA 19 4095) ?_
    refine of_ (i := 12) (N := some 51) (bA 19 8191) ?_
    refine of_ (i := 13) (N := some 52) (bA 19 16383) ?_
    refine of_ (i := 14) (N := some 53) (bA 19 32767) ?_
    refine of_ (i := 15) (N := some 54) (bA 19 65535) ?_
    refine of_ (i := 16) (N := some 55) (bA 19 131071) ?_
    refine pu_ (i := 17) (N := some 56) (bA 19 262143) ?_
    refine pu_ (i := 18) (N := some 2) (bA 19 524287) ?_
    refine done_ (done_of HT_.out (by kernel_rfl)) ?_
    try go_wp2
    go_ret
    exact ⟨zh_9, zh_0⟩
   replace H := bd_ H
   obtain ⟨j9, i2, H⟩ := H
   try dsimp only at H
   replace H := ox_ H
   rcases H with ⟨rfl, H⟩ | ⟨rfl, H⟩
   ·
    replace H := bd_ H
    obtain ⟨g9, k0, H⟩ := H
    try dsimp only at H
    obtain rfl := Option.some.inj H
    have i3 := b6.out
    have i4 := d5.out
    have d9 := cz20 a3.out
    have e0 := cz21 a3.out
    have e1 := blk_frozen a3.out 0
    have e2 := blk_frozen a3.out 1
    go_wp2_with (first | ((first | ((with_reducible refine gate_callee (f := 18) rfl ?_); refine gl_ (some 35) Try.func18 #[.agg #[.slice b4 a8.length b3, .slice b2 a7.length b0]] ?_; (with_reducible refine (laws_noLogic.calls f3 _ _ a8 _ _ a7 true _ (y1 a1.out) (y2 a1.out) (y1 a2.out) (y2 a2.out) i2.out).mono ?_); rintro e w' ⟨rfl, hb⟩; refine ⟨_, rfl, ?_⟩) | (go_at_call 19; (with_reducible refine (laws_alive.calls f3  g9 _ k0.out).mono ?_); rintro e w' ⟨rfl, hb⟩)); replace a1 := ak (Kd.S_below (xS a1.out) hb); replace a2 := ak (Kd.R_below (xR a2.out) hb); replace a5 := ak (Kd.S_below (xS a5.out) hb); replace a4 := ak (Kd.R_below (xR a4.out) hb); replace a3 := ak (blk_below (g := a9) (o := .cells #[.slice b4 a8.length b3, .slice b2 a7.length b0] 27 (0, 0)) (xb a3.out) hb); replace a6 := ak (blk_below (g := b1) (o := .cells #[.slice d4 b7.length d1, .slice b9 b5.length b8] 27 (0, 0)) (xb a6.out) hb); replace HB := ak (below_step zh_0 hb); (try clear hb); (try clear hb2); (try clear hk); (try clear hi)))
    go_ret
    exact ⟨zh_9, zh_0⟩
   obtain rfl := Option.some.inj H
   have i5 := b6.out
   have i6 := d5.out
   have d9 := cz20 a3.out
   have e0 := cz21 a3.out
   have e1 := blk_frozen a3.out 0
   have e2 := blk_frozen a3.out 1
   go_wp2_with (first | ((with_reducible refine gate_callee (f := 18) rfl ?_); refine gl_ (some 35) Try.func18 #[.agg #[.slice b4 a8.length b3, .slice b2 a7.length b0]] ?_; (with_reducible refine (laws_noLogic.calls f3 _ _ a8 _ _ a7 false _ (y1 a1.out) (y2 a1.out) (y1 a2.out) (y2 a2.out) i2.out).mono ?_); rintro e w' ⟨rfl, hb⟩; refine ⟨_, rfl, ?_⟩; replace a1 := ak (Kd.S_below (xS a1.out) hb); replace a2 := ak (Kd.R_below (xR a2.out) hb); replace a5 := ak (Kd.S_below (xS a5.out) hb); replace a4 := ak (Kd.R_below (xR a4.out) hb); replace a3 := ak (blk_below (g := a9) (o := .cells #[.slice b4 a8.length b3, .slice b2 a7.length b0] 27 (0, 0)) (xb a3.out) hb); replace a6 := ak (blk_below (g := b1) (o := .cells #[.slice d4 b7.length d1, .slice b9 b5.length b8] 27 (0, 0)) (xb a6.out) hb); replace HB := ak (below_step zh_0 hb); (try clear hb); (try clear hb2); (try clear hk); (try clear hi)))
   go_ret
   exact ⟨zh_9, zh_0⟩

theorem laws_FnSetsOf.walk (P : laws_FnSetsOf.Pure) (a0 : Option Addr) (len0 cap0 : Nat) (z0 : List Int) (w : World) (w0 : (a0 = none ∧ len0 = 0 ∧ cap0 = 0 ∧ z0 = []) ∨ ∃ x, a0 = some x ∧ len0 ≤ cap0 ∧ cap0 ≤ maxLen ∧ z0.length = cap0 ∧ (∀ i, i < z0.length → w.cell? (x.add i) = some (.int .u8 (z0.getD i 0))) ∧ ∀ n ∈ z0, (Lit.int .u8 n).wf = true) (y0 : len0 * 1 ≤ 140737488351232) :
 Calls Try.prog 4 #[.slice a0 len0 cap0] w fun e w' => e = .returned (.bool true) ∧ Below w.heap.size w w' := by
 obtain ⟨l0, rfl, hr0, hm0, hw0, hc0⟩ := ReadsInt.ofRowC w0
 obtain ⟨k, h⟩ := P l0 hm0 y0 hw0
 refine (laws_FnSetsOf.calls k _ _ l0 true w (Kd.C_of_reads (d := (0 : Int)) (h1 := fun _ => rfl) hr0) hc0 h).mono ?_
 rintro e w' ⟨rfl, hd⟩
 exact ⟨rfl, hd⟩

end Go.Proofs.Ytacifhahfamipaa.P
