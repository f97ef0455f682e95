-- written by gen.py (a program of this session) out of the kit's print of this seat's translation
import Derived.Test.YtacifhahfamipaaPk2
import Derived.Test.YtacifhahfamipaaFSpecDrawRingOf
import Derived.Test.YtacifhahfamipaaFSpecRingOf
import Derived.Test.YtacifhahfamipaaPk4
import Derived.Test.YtacifhahfamipaaV7
namespace Go.Proofs.Ytacifhahfamipaa.P
open Go.RowKit Go.Proofs.YtacifhahfamipaaW.PrintWords Go.Proofs.YtacifhahfamipaaW.PrintLast Go.Proofs.YtacifhahfamipaaW.PrintMore
attribute [local go_sem] max2_int min2_int max_two min_two max_three min_three max_four min_four
set_option linter.unusedVariables false
set_option linter.unusedSimpArgs false
theorem zg_20 {p : Prop} (h : p := by (with_reducible repeat (first | apply Kd.R_alloc | apply Kd.R_drewN | apply Kd.R_drew)); exact Kd.R_mono d6.out (fun _ hk => hk.2)) : p := h
theorem zg_19 {p : Prop} (h : p := by (with_reducible repeat (first | apply Kd.R_alloc | apply Kd.R_drewN | apply Kd.R_drew)); exact Kd.R_mono d9.out (fun _ hk => hk.2)) : p := h
theorem zg_18 {p : Prop} (h : p := by (with_reducible repeat (first | apply Kd.N_alloc | apply Kd.N_drewN | apply Kd.N_drew)); exact Kd.N_mono d7.out (fun _ hk => ⟨hk.1.1.1.1, ⟨hk.1.1.2, ⟨hk.1.2, ⟨hk.1.1.1.2, hk.2⟩⟩⟩⟩)) : p := h
theorem zg_17 {p : Prop} (h : p := by (with_reducible repeat (first | apply Kd.N_alloc | apply Kd.N_drewN | apply Kd.N_drew)); exact Kd.N_mono e0.out (fun _ hk => ⟨hk.1.2.1, ⟨hk.1.2.2.1, ⟨hk.1.1, ⟨hk.1.2.2.2, hk.2⟩⟩⟩⟩)) : p := h
theorem zg_16 {p : Prop} (h : p := by refine (Kd.R_reads' (e := 3) (base := w.heap.size) (ok := fun k_ => (True ∧ some k_ ≠ (.slice b3 a9.length b2 : Value).ownBlock)) (n := b7.length) (c := b9) ?_).2.2; exact zg_3) : p := h
theorem zg_15 {p : Prop} (h : p := by refine (Kd.R_reads' (e := 3) (base := w.heap.size) (ok := fun k_ => (True ∧ some k_ ≠ (.slice d0 b7.length b9 : Value).ownBlock)) (n := a9.length) (c := b2) ?_).2.2; exact zg_4) : p := h
theorem zg_14 {p : Prop} (h : p := by refine (Kd.N_reads' (e := 25) (base := w.heap.size) (ok := fun k_ => ((((some k_ ≠ (.slice b3 a9.length b2 : Value).ownBlock ∧ k_ ≠ a7) ∧ some k_ ≠ (.slice d8 b8.length d5 : Value).ownBlock) ∧ some k_ ≠ (.slice d0 b7.length b9 : Value).ownBlock) ∧ k_ ≠ a8)) (n := b0.length) (c := b5) ?_).2.2; exact zg_2) : p := h
theorem zg_13 {p : Prop} (h : p := by refine (Kd.N_reads' (e := 25) (base := w.heap.size) (ok := fun k_ => ((some k_ ≠ (.slice d0 b7.length b9 : Value).ownBlock ∧ (some k_ ≠ (.slice b6 b0.length b5 : Value).ownBlock ∧ (some k_ ≠ (.slice b3 a9.length b2 : Value).ownBlock ∧ k_ ≠ a7))) ∧ k_ ≠ a8)) (n := b8.length) (c := d5) ?_).2.2; exact zg_1) : p := h
theorem zg_12 {p : Prop} (h : p := by (with_reducible repeat (first | apply Kd.N_alloc | apply Kd.N_drewN | apply Kd.N_drew)); exact (Kd.N_mono (Kd.N_far (p := ⟨a7, 1, none⟩) (Kd.N_far (p := ⟨a7, 0, none⟩) (Kd.N_mono d7.out (fun k_ hk => (⟨hk, hk.2⟩ : _ ∧ k_ ≠ a7))) (fun _ hk => hk.2) (.slice b6 b0.length b5)) (fun _ hk => hk.2) (.slice b3 a9.length b2)) (fun _ h_ => h_.1))) : p := h
theorem zg_11 {p : Prop} (h : p := by (with_reducible repeat (first | refine blk_drewN ?_ _ | refine blk_drew ?_ | refine blk_alloc ?_ _)); refine blk_far ?_ b1.out _; (with_reducible repeat (first | refine blk_drewN ?_ _ | refine blk_drew ?_ | refine blk_alloc ?_ _)); refine blk_far ?_ b1.out _; (with_reducible repeat (first | refine blk_drewN ?_ _ | refine blk_drew ?_ | refine blk_alloc ?_ _)); exact a1.out) : p := h
theorem zg_10 {p : Prop} (h : p := by (with_reducible repeat (first | refine blk_drewN ?_ _ | refine blk_drew ?_ | refine blk_alloc ?_ _)); refine blk_put (cs := #[.slice b6 b0.length b5, .slice none 0 0]) ?_ 1 _ rfl; (with_reducible repeat (first | refine blk_drewN ?_ _ | refine blk_drew ?_ | refine blk_alloc ?_ _)); refine blk_put (cs := #[.slice none 0 0, .slice none 0 0]) ?_ 0 _ rfl; (with_reducible repeat (first | refine blk_drewN ?_ _ | refine blk_drew ?_ | refine blk_alloc ?_ _)); exact a1.out) : p := h
theorem zg_9 {p : Prop} (h : p := by (with_reducible repeat (first | refine blk_drewN ?_ _ | refine blk_drew ?_ | refine blk_alloc ?_ _)); refine blk_put (cs := #[.slice d8 b8.length d5, .slice none 0 0]) ?_ 1 _ rfl; (with_reducible repeat (first | refine blk_drewN ?_ _ | refine blk_drew ?_ | refine blk_alloc ?_ _)); refine blk_put (cs := #[.slice none 0 0, .slice none 0 0]) ?_ 0 _ rfl; (with_reducible repeat (first | refine blk_drewN ?_ _ | refine blk_drew ?_ | refine blk_alloc ?_ _)); exact a5.out) : p := h
theorem zg_8 {p : Prop} (h : p := by first | rfl | (simp [errW_none, errW_some] <;> rfl) | (simp [*, errW_none, errW_some] <;> rfl)) : p := h
theorem zg_7 {p : Prop} (h : p := by (with_reducible repeat (first | apply Kd.R_alloc | apply Kd.R_drewN | apply Kd.R_drew)); exact (Kd.R_mono (Kd.R_far (p := ⟨a7, 1, none⟩) (Kd.R_far (p := ⟨a7, 0, none⟩) (Kd.R_types d6.out a1.out (by decide)) (fun _ hk => hk.2) (.slice b6 b0.length b5)) (fun _ hk => hk.2) (.slice b3 a9.length b2)) (fun _ h_ => h_.1))) : p := h
theorem zg_6 {p : Prop} (h : p := by repeat (first | (with_reducible first | exact HB.out | apply below_alloc | apply pw_below_drewN | apply below_drew1 | refine below_set ?_ e6.out) | exact HB.out)) : p := h
theorem zg_5 {p : Prop} (h : p := by repeat (first | (with_reducible first | exact HB.out | apply below_alloc | apply pw_below_drewN | apply below_drew1) | exact HB.out)) : p := h
theorem zg_4 {p : Prop} (h : p := by (with_reducible repeat (first | apply Kd.R_alloc | apply Kd.R_drewN | apply Kd.R_drew)); exact (Kd.R_mono (Kd.R_far (p := ⟨a8, 1, none⟩) (Kd.R_far (p := ⟨a8, 0, none⟩) (Kd.R_types d6.out a5.out (by decide)) (fun _ hk => hk.2) (.slice d8 b8.length d5)) (fun _ hk => hk.2) (.slice d0 b7.length b9)) (fun _ h_ => h_.1))) : p := h
theorem zg_3 {p : Prop} (h : p := by (with_reducible repeat (first | apply Kd.R_alloc | apply Kd.R_drewN | apply Kd.R_drew)); exact (Kd.R_mono (Kd.R_far (p := ⟨a8, 1, none⟩) (Kd.R_far (p := ⟨a8, 0, none⟩) (Kd.R_types d9.out a5.out (by decide)) (fun _ hk => hk.2) (.slice d8 b8.length d5)) (fun _ hk => hk.2) (.slice d0 b7.length b9)) (fun _ h_ => h_.1))) : p := h
theorem zg_2 {p : Prop} (h : p := by (with_reducible repeat (first | apply Kd.N_alloc | apply Kd.N_drewN | apply Kd.N_drew)); exact (Kd.N_mono (Kd.N_far (p := ⟨a8, 1, none⟩) (Kd.N_far (p := ⟨a8, 0, none⟩) (Kd.N_mono d7.out (fun k_ hk => (⟨hk, hk.2⟩ : _ ∧ k_ ≠ a8))) (fun _ hk => hk.2) (.slice d8 b8.length d5)) (fun _ hk => hk.2) (.slice d0 b7.length b9)) (fun _ h_ => h_.1))) : p := h
theorem zg_1 {p : Prop} (h : p := by (with_reducible repeat (first | apply Kd.N_alloc | apply Kd.N_drewN | apply Kd.N_drew)); exact (Kd.N_mono (Kd.N_far (p := ⟨a8, 1, none⟩) (Kd.N_far (p := ⟨a8, 0, none⟩) (Kd.N_mono e0.out (fun k_ hk => (⟨hk, hk.2⟩ : _ ∧ k_ ≠ a8))) (fun _ hk => hk.2) (.slice d8 b8.length d5)) (fun _ hk => hk.2) (.slice d0 b7.length b9)) (fun _ h_ => h_.1))) : p := h
theorem zg_0 {p : Prop} (h : p := by repeat (first | (with_reducible first | exact HB.out | apply below_alloc | apply pw_below_drewN | apply below_drew1 | refine below_set ?_ e6.out | refine below_set ?_ e8.out) | exact HB.out)) : p := h
set_option maxHeartbeats 8000000 in
set_option maxRecDepth 100000 in
theorem laws_FnRingOf.calls (k : Nat) (A0 : Option Addr) (c0 : Nat) (l0 : List Int) (r : Bool) (w : World) (hr0 : Kd.C (Kd.int .u8) w A0 l0.length l0) (hc0 : l0.length ≤ c0) (h : laws_FnRingOf.f k l0 = some r) :
 Calls Try.prog 3 #[.slice A0 l0.length c0] w fun e w' => e = .returned (.bool r) ∧ Below w.heap.size w w' := by
 have hu27 := Try.underlying27
 have HR0 := ak hr0
 have j2 := ak hc0
 clear hr0 hc0
 have HB := ak (Below.refl w.heap.size w)
 have H : (if (l0.length : Int) > 1048576 then (some true) else ((spec_DrawRingOf.f k l0).bind fun e2 => ((impl_RingOf.f e2).bind fun e1 => ((spec_RingOf.f e2).bind fun e3 => ((laws_sameLogic.f k e1.1 e1.2.1 e3.1 e3.2.1).bind fun e9 => (if e9 = true then (laws_FnRingOf.j0 k e1.2.2 (e1.2.2 != e3.2.2) e1.1 e1.2.1) else (laws_FnRingOf.j0 k e1.2.2 true e1.1 e1.2.1))))))) = some r := h
 clear h
 replace H := op_ H
 rcases H with ⟨c2, H⟩ | ⟨c2, H⟩
 ·
  have f0 : decide (1048576 < (l0.length : Int)) = true := dT_ c2
  have f1 : decide (1048576 < l0.length) = true := dT_ (by omega)
  clear c2
  obtain rfl := Option.some.inj H
  go_enter Try.func3, Try.ntmps3
  go_wp2
  go_ret
  exact ⟨zg_8, zg_5⟩
 have f0 : decide (1048576 < (l0.length : Int)) = false := dF_ c2
 have f1 : decide (1048576 < l0.length) = false := dF_ (by omega)
 clear c2
 replace H := bd_ H
 obtain ⟨e2, A3, H⟩ := H
 replace H := bd_ H
 obtain ⟨⟨b0, a9, e7⟩, A4, H⟩ := H
 try dsimp only at H
 replace H := bd_ H
 obtain ⟨⟨b8, b7, f2⟩, A5, H⟩ := H
 try dsimp only at H
 have f7 := ak H
 clear H
 go_enter Try.func3, Try.ntmps3
 go_upto_region 6 with (first | ((with_reducible refine gate_callee (f := 14) rfl ?_); refine gl_ (some 12) Try.func14 #[.slice A0 l0.length c0] ?_; (with_reducible refine (spec_DrawRingOf.calls k _ _ l0 e2 _ (y4 HR0.out) j2.out A3.out).mono ?_); rintro e w' ⟨rfl, hb⟩; refine ⟨_, rfl, ?_⟩; replace HB := ak (below_step zg_5 hb); (try clear hb); (try clear hb2); (try clear hk); (try clear hi)) | ((with_reducible refine gate_callee (f := 15) rfl ?_); refine gl_ (some 15) Try.func15 #[.int .i64 e2] ?_; (with_reducible refine (impl_RingOf.calls e2 b0 a9 e7 _ A4.out).mono ?_); rintro e w' ⟨j3, f8, rfl, ho0, ho1, hb⟩; refine ⟨_, rfl, ?_⟩; have d7 := ak (Kd.N_lower (Kd.N_mono (ok' := fun k_ => some k_ ≠ (f8 : Value).ownBlock) (Kd.S_N (Kd.S_bound ho0)) (fun k_ hk_ => hk_.1)) (below_size zg_5)); have d6 := ak (Kd.R_lower ho1 (below_size zg_5)); replace HB := ak (below_step zg_5 hb); (try clear hb); (try clear hb2); (try clear hk); (try clear hi); (try clear ho0); (try clear ho1)) | ((with_reducible refine gate_dst (N := 4) rfl ?_); (try (refine gate_guard (by rfl) ?_; dsimp only)); refine box_event ?hg (N := 4) ?hd (cs := #[.slice none 0 0, .slice none 0 0]) (t := 27) ?hr ?_; (case hd => rfl); (case hg => rfl); (case hr => first | (go_simp; done) | (go_simp; rfl)); intro a7 hg w9 hbox hb; replace d7 := ak (Kd.N_below (Kd.N_elderB (xN d7.out) a7 (Nat.le_of_eq hg.symm)) hb); replace d6 := ak (Kd.R_below (xR d6.out) hb); have a1 := ak (hbox); have g9 := ak ((by rw [hg]; exact (below_size zg_5) : w.heap.size ≤ a7)); have e6 := ak ((by rw [hg]; exact (below_size zg_5) : w.heap.size ≤ a7)); replace HB := ak (below_step zg_5 hb); clear hb hbox hg; obtain ⟨b6, b5, f9⟩ := Kd.N_slice d7.out; subst f9; have d1 := cz20 a1.out; have d2 := cz21 a1.out; have d3 := blk_frozen a1.out 0; have d4 := blk_frozen a1.out 1; obtain ⟨b3, b2, g0⟩ := Kd.R_slice d6.out; subst g0) | ((with_reducible refine gate_callee (f := 16) rfl ?_); refine gl_ (some 20) Try.func16 #[.int .i64 e2] ?_; (with_reducible refine (spec_RingOf.calls e2 b8 b7 f2 _ A5.out).mono ?_); rintro e w' ⟨j4, g1, rfl, ho0, ho1, hb⟩; refine ⟨_, rfl, ?_⟩; have e0 := ak (Kd.N_lower (Kd.N_mono (ok' := fun k_ => some k_ ≠ (g1 : Value).ownBlock ∧ some k_ ≠ (.slice b6 b0.length b5 : Value).ownBlock ∧ some k_ ≠ (.slice b3 a9.length b2 : Value).ownBlock ∧ k_ ≠ a7) ho0 (fun k_ hk_ => ⟨hk_.2, (Kd.fresh' (Kd.N_lt zg_12) k_ hk_.1), (Kd.fresh' (Kd.R_lt zg_7) k_ hk_.1), (Kd.freshB (g := a7) (o := .cells #[.slice b6 b0.length b5, .slice b3 a9.length b2] 27 (0, 0)) zg_10 k_ hk_.1)⟩)) (below_size zg_6)); replace d7 := ak (Kd.N_mono (Kd.N_told (Kd.N_told (Kd.N_old zg_12 hb) (Kd.N_base ho0)) (Kd.R_base ho1)) (fun _ h_ => h_.1)); have d9 := ak (Kd.R_lower (Kd.R_new' (Kd.R_mono (ok' := fun k_ => True) ho1 (fun _ hk_ => trivial)) (Kd.R_lt zg_7)) (below_size zg_6)); replace d6 := ak (Kd.R_elder' zg_7 (Kd.R_base ho1) hb); replace a1 := ak (blk_below (g := a7) (o := .cells #[.slice b6 b0.length b5, .slice b3 a9.length b2] 27 (0, 0)) zg_10 hb); replace HB := ak (below_step zg_6 hb); (try clear hb); (try clear hb2); (try clear hk); (try clear hi); (try clear ho0); (try clear ho1)) | ((with_reducible refine gate_dst (N := 6) rfl ?_); (try (refine gate_guard (by rfl) ?_; dsimp only)); refine box_event ?hg (N := 6) ?hd (cs := #[.slice none 0 0, .slice none 0 0]) (t := 27) ?hr ?_; (case hd => rfl); (case hg => rfl); (case hr => first | (go_simp; done) | (go_simp; rfl)); intro a8 hg k3 hbox hb; replace d7 := ak (Kd.N_below (Kd.N_elderB (xN d7.out) a8 (Nat.le_of_eq hg.symm)) hb); replace d6 := ak (Kd.R_below (xR d6.out) hb); replace e0 := ak (Kd.N_below (Kd.N_elderB (xN e0.out) a8 (Nat.le_of_eq hg.symm)) hb); replace d9 := ak (Kd.R_below (xR d9.out) hb); have a5 := ak (hbox); have h0 := ak ((by rw [hg]; exact (below_size zg_6) : w.heap.size ≤ a8)); have e8 := ak ((by rw [hg]; exact (below_size zg_6) : w.heap.size ≤ a8)); replace HB := ak (below_step zg_6 hb); have b1 := ak ((by rw [hg]; exact Nat.ne_of_lt (blk_lt (g := a7) (o := .cells #[.slice b6 b0.length b5, .slice b3 a9.length b2] 27 (0, 0)) (xb a1.out)) : a7 ≠ a8)); have b4 := ak ((by rw [hg]; exact Nat.ne_of_gt (blk_lt (g := a7) (o := .cells #[.slice b6 b0.length b5, .slice b3 a9.length b2] 27 (0, 0)) (xb a1.out)) : a8 ≠ a7)); replace a1 := ak (blk_below (g := a7) (o := .cells #[.slice b6 b0.length b5, .slice b3 a9.length b2] 27 (0, 0)) (xb a1.out) hb); clear hb hbox hg; obtain ⟨d8, d5, g2⟩ := Kd.N_slice e0.out; subst g2; have h2 := b4.out; have h3 := b1.out; have d1 := cz20 a5.out; have d2 := cz21 a5.out; have d3 := blk_frozen a5.out 0; have d4 := blk_frozen a5.out 1; obtain ⟨d0, b9, g3⟩ := Kd.R_slice d9.out; subst g3))
 (try simp only [Act.put, List.setIfInBounds_toArray, List.set_cons_zero, List.set_cons_succ])
 go_cut [31] (fun j5 wc => ∃ (kq : Nat) (e4 : Bool), j5 = .bool e4 ∧ Aside0 (laws_FnRingOf.j0 kq e7 e4 b0 a9 = some r) ∧ Aside0 (kq ≤ k) ∧ Aside0 (Kd.N (Kd.slice 3 (Kd.int .i64)) 25 wc w.heap.size (fun k_ => some k_ ≠ ((.slice b3 a9.length b2) : Value).ownBlock ∧ some k_ ≠ ((.slice d8 b8.length d5) : Value).ownBlock ∧ some k_ ≠ ((.slice d0 b7.length b9) : Value).ownBlock ∧ k_ ≠ a7 ∧ k_ ≠ a8) (.slice b6 b0.length b5) b0) ∧ Aside0 (Kd.R (Kd.int .i64) 3 wc w.heap.size (fun k_ => some k_ ≠ ((.slice d0 b7.length b9) : Value).ownBlock) (.slice b3 a9.length b2) a9) ∧ Aside0 (Kd.N (Kd.slice 3 (Kd.int .i64)) 25 wc w.heap.size (fun k_ => some k_ ≠ ((.slice b6 b0.length b5) : Value).ownBlock ∧ some k_ ≠ ((.slice b3 a9.length b2) : Value).ownBlock ∧ some k_ ≠ ((.slice d0 b7.length b9) : Value).ownBlock ∧ k_ ≠ a7 ∧ k_ ≠ a8) (.slice d8 b8.length d5) b8) ∧ Aside0 (Kd.R (Kd.int .i64) 3 wc w.heap.size (fun k_ => some k_ ≠ ((.slice b3 a9.length b2) : Value).ownBlock) (.slice d0 b7.length b9) b7) ∧ Aside0 (wc.heap[a7]? = some (.cells #[(.slice b6 b0.length b5), (.slice b3 a9.length b2)] 27 (0, 0))) ∧ Aside0 (wc.heap[a8]? = some (.cells #[(.slice d8 b8.length d5), (.slice d0 b7.length b9)] 27 (0, 0))) ∧ Aside0 (Below w.heap.size w wc))
 case first =>
  have H := f7.out
  clear f7
  replace H := bd_ H
  obtain ⟨e9, h4, H⟩ := H
  try dsimp only at H
  replace H := ox_ H
  rcases H with ⟨rfl, H⟩ | ⟨rfl, H⟩
  ·
   have H' := ak H
   clear H
   have h5 := b1.out
   have h6 := b4.out
   have d1 := cz20 a1.out
   have d2 := cz21 a1.out
   have d3 := blk_frozen a1.out 0
   have d4 := blk_frozen a1.out 1
   have d1 := cz20 a5.out
   have d2 := cz21 a5.out
   have d3 := blk_frozen a5.out 0
   have d4 := blk_frozen a5.out 1
   go_wp2_with (first | ((with_reducible refine gate_callee (f := 17) rfl ?_); refine gl_ (some 25) Try.func17 #[.agg #[.slice b6 b0.length b5, .slice b3 a9.length b2], .agg #[.slice d8 b8.length d5, .slice d0 b7.length b9]] ?_; (with_reducible refine (laws_sameLogic.calls k _ _ b0 _ _ a9 _ _ b8 _ _ b7 true _ zg_14 (y2 d7.out) zg_15 (y2 d6.out) zg_13 (y2 e0.out) zg_16 (y2 d9.out) h4.out).mono ?_); rintro e w' ⟨rfl, hb⟩; refine ⟨_, rfl, ?_⟩; replace d7 := ak (Kd.N_below zg_2 hb); replace d6 := ak (Kd.R_below zg_4 hb); replace e0 := ak (Kd.N_below zg_1 hb); replace d9 := ak (Kd.R_below zg_3 hb); replace a1 := ak (blk_below (g := a7) (o := .cells #[.slice b6 b0.length b5, .slice b3 a9.length b2] 27 (0, 0)) zg_11 hb); replace a5 := ak (blk_below (g := a8) (o := .cells #[.slice d8 b8.length d5, .slice d0 b7.length b9] 27 (0, 0)) zg_9 hb); replace HB := ak (below_step zg_0 hb); (try clear hb); (try clear hb2); (try clear hk); (try clear hi)))
   go_meet
   case rel => exact ⟨_, ((e7 != f2)), (by first | rfl | (simp; done) | (simp [*]; done)), H', ⟨(by first | omega | exact Nat.le_refl _)⟩, ⟨zg_18⟩, ⟨zg_20⟩, ⟨zg_17⟩, ⟨zg_19⟩, ⟨(xb a1.out)⟩, ⟨(xb a5.out)⟩, ⟨zg_0⟩⟩
  have H' := ak H
  clear H
  have h7 := b1.out
  have h8 := b4.out
  have d1 := cz20 a1.out
  have d2 := cz21 a1.out
  have d3 := blk_frozen a1.out 0
  have d4 := blk_frozen a1.out 1
  have d1 := cz20 a5.out
  have d2 := cz21 a5.out
  have d3 := blk_frozen a5.out 0
  have d4 := blk_frozen a5.out 1
  go_wp2_with (first | ((with_reducible refine gate_callee (f := 17) rfl ?_); refine gl_ (some 25) Try.func17 #[.agg #[.slice b6 b0.length b5, .slice b3 a9.length b2], .agg #[.slice d8 b8.length d5, .slice d0 b7.length b9]] ?_; (with_reducible refine (laws_sameLogic.calls k _ _ b0 _ _ a9 _ _ b8 _ _ b7 false _ zg_14 (y2 d7.out) zg_15 (y2 d6.out) zg_13 (y2 e0.out) zg_16 (y2 d9.out) h4.out).mono ?_); rintro e w' ⟨rfl, hb⟩; refine ⟨_, rfl, ?_⟩; replace d7 := ak (Kd.N_below zg_2 hb); replace d6 := ak (Kd.R_below zg_4 hb); replace e0 := ak (Kd.N_below zg_1 hb); replace d9 := ak (Kd.R_below zg_3 hb); replace a1 := ak (blk_below (g := a7) (o := .cells #[.slice b6 b0.length b5, .slice b3 a9.length b2] 27 (0, 0)) zg_11 hb); replace a5 := ak (blk_below (g := a8) (o := .cells #[.slice d8 b8.length d5, .slice d0 b7.length b9] 27 (0, 0)) zg_9 hb); replace HB := ak (below_step zg_0 hb); (try clear hb); (try clear hb2); (try clear hk); (try clear hi)))
  go_meet
  case rel => exact ⟨_, (true), (by first | rfl | (simp; done) | (simp [*]; done)), H', ⟨(by first | omega | exact Nat.le_refl _)⟩, ⟨zg_18⟩, ⟨zg_20⟩, ⟨zg_17⟩, ⟨zg_19⟩, ⟨(xb a1.out)⟩, ⟨(xb a5.out)⟩, ⟨zg_0⟩⟩
 case rest =>
  clear f7
  try clear c2
  try clear f0
  try clear f1
  try clear d1
  try clear d2
  try clear d3
  try clear d4
  obtain ⟨kq, e4, rfl, HA, k4, a2, a3, a6, a4, a1, a5, HB⟩ := hcut
  cases kq with
  | zero => exact absurd HA.out (by simp [laws_FnRingOf.j0])
  | succ f3 =>
   have H := HA.out
   clear HA
   simp only [laws_FnRingOf.j0] at H
   replace H := ox_ H
   rcases H with ⟨rfl, H⟩ | ⟨rfl, H⟩
   ·
    obtain rfl := Option.some.inj H
    go_wp2
    go_ret
    exact ⟨zg_8, zg_0⟩
   replace H := ox_ H
   rcases H with ⟨rfl, H⟩ | ⟨rfl, H⟩
   ·
    replace H := bd_ H
    obtain ⟨j6, g4, H⟩ := H
    try dsimp only at H
    replace H := ox_ H
    rcases H with ⟨rfl, H⟩ | ⟨rfl, H⟩
    ·
     replace H := bd_ H
     obtain ⟨f4, h9, H⟩ := H
     try dsimp only at H
     replace H := oe2 H
     rcases H with ⟨⟨-, f5, f6⟩, H⟩ | ⟨⟨k5, f5, f6⟩, H⟩
     ·
      obtain rfl := Option.some.inj H
      have i0 := b1.out
      have i1 := b4.out
      have d1 := cz20 a1.out
      have d2 := cz21 a1.out
      have d3 := blk_frozen a1.out 0
      have d4 := blk_frozen a1.out 1
      go_wp2_with (first | ((with_reducible refine gate_callee (f := 20) rfl ?_); refine gl_ (some 40) Try.func20 #[.agg #[.slice b6 b0.length b5, .slice b3 a9.length b2]] ?_; (with_reducible refine (impl_LogicOk.calls _ _ b0 _ _ a9 true _ (y1 a2.out) (y2 a2.out) (y1 a3.out) (y2 a3.out) g4.out).mono ?_); rintro e w' ⟨rfl, hb⟩; refine ⟨_, rfl, ?_⟩; replace a2 := ak (Kd.N_below (xN a2.out) hb); replace a3 := ak (Kd.R_below (xR a3.out) hb); replace a6 := ak (Kd.N_below (xN a6.out) hb); replace a4 := ak (Kd.R_below (xR a4.out) hb); replace a1 := ak (blk_below (g := a7) (o := .cells #[.slice b6 b0.length b5, .slice b3 a9.length b2] 27 (0, 0)) (xb a1.out) hb); replace a5 := ak (blk_below (g := a8) (o := .cells #[.slice d8 b8.length d5, .slice d0 b7.length b9] 27 (0, 0)) (xb a5.out) hb); replace HB := ak (below_step zg_0 hb); (try clear hb); (try clear hb2); (try clear hk); (try clear hi); have d1 := cz20 a1.out; have d2 := cz21 a1.out; have d3 := blk_frozen a1.out 0; have d4 := blk_frozen a1.out 1) | (go_at_call 21; (with_reducible refine (impl_AtomsOf.calls f3 _ _ b0 f4 _ (y1 a2.out) (y2 a2.out) h9.out).mono ?_); rintro e w' ⟨g5, rfl, ho0, hb⟩; replace a2 := ak (Kd.N_elder' (xN a2.out) (Kd.R_base ho0) hb); replace a6 := ak (Kd.N_elder' (xN a6.out) (Kd.R_base ho0) hb); have e5 := ak (Kd.R_lower (Kd.R_new' (Kd.R_new' ho0 (Kd.R_lt (xR a3.out))) (Kd.R_lt (xR a4.out))) (below_size zg_0)); replace a3 := ak (Kd.R_elder' (xR a3.out) (Kd.R_base ho0) hb); replace a4 := ak (Kd.R_elder' (xR a4.out) (Kd.R_base ho0) hb); replace a1 := ak (blk_below (g := a7) (o := .cells #[.slice b6 b0.length b5, .slice b3 a9.length b2] 27 (0, 0)) (xb a1.out) hb); replace a5 := ak (blk_below (g := a8) (o := .cells #[.slice d8 b8.length d5, .slice d0 b7.length b9] 27 (0, 0)) (xb a5.out) hb); replace HB := ak (below_step zg_0 hb); (try clear hb); (try clear hb2); (try clear hk); (try clear hi); (try clear ho0); obtain ⟨j7, j8, g6⟩ := Kd.R_slice e5.out; subst g6; have d1 := cz20 a1.out; have d2 := cz21 a1.out; have d3 := blk_frozen a1.out 0; have d4 := blk_frozen a1.out 1))
      go_ret
      exact ⟨zg_8, zg_0⟩
     obtain rfl := Option.some.inj H
     have i2 := b1.out
     have i3 := b4.out
     have d1 := cz20 a1.out
     have d2 := cz21 a1.out
     have d3 := blk_frozen a1.out 0
     have d4 := blk_frozen a1.out 1
     go_wp2_with (first | ((with_reducible refine gate_callee (f := 20) rfl ?_); refine gl_ (some 40) Try.func20 #[.agg #[.slice b6 b0.length b5, .slice b3 a9.length b2]] ?_; (with_reducible refine (impl_LogicOk.calls _ _ b0 _ _ a9 true _ (y1 a2.out) (y2 a2.out) (y1 a3.out) (y2 a3.out) g4.out).mono ?_); rintro e w' ⟨rfl, hb⟩; refine ⟨_, rfl, ?_⟩; replace a2 := ak (Kd.N_below (xN a2.out) hb); replace a3 := ak (Kd.R_below (xR a3.out) hb); replace a6 := ak (Kd.N_below (xN a6.out) hb); replace a4 := ak (Kd.R_below (xR a4.out) hb); replace a1 := ak (blk_below (g := a7) (o := .cells #[.slice b6 b0.length b5, .slice b3 a9.length b2] 27 (0, 0)) (xb a1.out) hb); replace a5 := ak (blk_below (g := a8) (o := .cells #[.slice d8 b8.length d5, .slice d0 b7.length b9] 27 (0, 0)) (xb a5.out) hb); replace HB := ak (below_step zg_0 hb); (try clear hb); (try clear hb2); (try clear hk); (try clear hi); have d1 := cz20 a1.out; have d2 := cz21 a1.out; have d3 := blk_frozen a1.out 0; have d4 := blk_frozen a1.out 1) | (go_at_call 21; (with_reducible refine (impl_AtomsOf.calls f3 _ _ b0 f4 _ (y1 a2.out) (y2 a2.out) h9.out).mono ?_); rintro e w' ⟨g5, rfl, ho0, hb⟩; replace a2 := ak (Kd.N_elder' (xN a2.out) (Kd.R_base ho0) hb); replace a6 := ak (Kd.N_elder' (xN a6.out) (Kd.R_base ho0) hb); have e5 := ak (Kd.R_lower (Kd.R_new' (Kd.R_new' ho0 (Kd.R_lt (xR a3.out))) (Kd.R_lt (xR a4.out))) (below_size zg_0)); replace a3 := ak (Kd.R_elder' (xR a3.out) (Kd.R_base ho0) hb); replace a4 := ak (Kd.R_elder' (xR a4.out) (Kd.R_base ho0) hb); replace a1 := ak (blk_below (g := a7) (o := .cells #[.slice b6 b0.length b5, .slice b3 a9.length b2] 27 (0, 0)) (xb a1.out) hb); replace a5 := ak (blk_below (g := a8) (o := .cells #[.slice d8 b8.length d5, .slice d0 b7.length b9] 27 (0, 0)) (xb a5.out) hb); replace HB := ak (below_step zg_0 hb); (try clear hb); (try clear hb2); (try clear hk); (try clear hi); (try clear ho0); obtain ⟨j9, k0, g7⟩ := Kd.R_slice e5.out; subst g7))
     go_ret
     exact ⟨zg_8, zg_0⟩
    obtain rfl := Option.some.inj H
    have i4 := b1.out
    have i5 := b4.out
    have d1 := cz20 a1.out
    have d2 := cz21 a1.out
    have d3 := blk_frozen a1.out 0
    have d4 := blk_frozen a1.out 1
    go_wp2_with (first | ((with_reducible refine gate_callee (f := 20) rfl ?_); refine gl_ (some 40) Try.func20 #[.agg #[.slice b6 b0.length b5, .slice b3 a9.length b2]] ?_; (with_reducible refine (impl_LogicOk.calls _ _ b0 _ _ a9 false _ (y1 a2.out) (y2 a2.out) (y1 a3.out) (y2 a3.out) g4.out).mono ?_); rintro e w' ⟨rfl, hb⟩; refine ⟨_, rfl, ?_⟩; replace a2 := ak (Kd.N_below (xN a2.out) hb); replace a3 := ak (Kd.R_below (xR a3.out) hb); replace a6 := ak (Kd.N_below (xN a6.out) hb); replace a4 := ak (Kd.R_below (xR a4.out) hb); replace a1 := ak (blk_below (g := a7) (o := .cells #[.slice b6 b0.length b5, .slice b3 a9.length b2] 27 (0, 0)) (xb a1.out) hb); replace a5 := ak (blk_below (g := a8) (o := .cells #[.slice d8 b8.length d5, .slice d0 b7.length b9] 27 (0, 0)) (xb a5.out) hb); replace HB := ak (below_step zg_0 hb); (try clear hb); (try clear hb2); (try clear hk); (try clear hi)))
    go_ret
    exact ⟨zg_8, zg_0⟩
   replace H := bd_ H
   obtain ⟨k1, i6, H⟩ := H
   try dsimp only at H
   replace H := ox_ H
   rcases H with ⟨rfl, H⟩ | ⟨rfl, H⟩
   ·
    replace H := bd_ H
    obtain ⟨g8, k2, H⟩ := H
    try dsimp only at H
    obtain rfl := Option.some.inj H
    have i7 := b1.out
    have i8 := b4.out
    have d1 := cz20 a1.out
    have d2 := cz21 a1.out
    have d3 := blk_frozen a1.out 0
    have d4 := blk_frozen a1.out 1
    go_wp2_with (first | ((first | ((with_reducible refine gate_callee (f := 18) rfl ?_); refine gl_ (some 35) Try.func18 #[.agg #[.slice b6 b0.length b5, .slice b3 a9.length b2]] ?_; (with_reducible refine (laws_noLogic.calls f3 _ _ b0 _ _ a9 true _ (y1 a2.out) (y2 a2.out) (y1 a3.out) (y2 a3.out) i6.out).mono ?_); rintro e w' ⟨rfl, hb⟩; refine ⟨_, rfl, ?_⟩) | (go_at_call 19; (with_reducible refine (laws_alive.calls f3  g8 _ k2.out).mono ?_); rintro e w' ⟨rfl, hb⟩)); replace a2 := ak (Kd.N_below (xN a2.out) hb); replace a3 := ak (Kd.R_below (xR a3.out) hb); replace a6 := ak (Kd.N_below (xN a6.out) hb); replace a4 := ak (Kd.R_below (xR a4.out) hb); replace a1 := ak (blk_below (g := a7) (o := .cells #[.slice b6 b0.length b5, .slice b3 a9.length b2] 27 (0, 0)) (xb a1.out) hb); replace a5 := ak (blk_below (g := a8) (o := .cells #[.slice d8 b8.length d5, .slice d0 b7.length b9] 27 (0, 0)) (xb a5.out) hb); replace HB := ak (below_step zg_0 hb); (try clear hb); (try clear hb2); (try clear hk); (try clear hi)))
    go_ret
    exact ⟨zg_8, zg_0⟩
   obtain rfl := Option.some.inj H
   have i9 := b1.out
   have j1 := b4.out
   have d1 := cz20 a1.out
   have d2 := cz21 a1.out
   have d3 := blk_frozen a1.out 0
   have d4 := blk_frozen a1.out 1
   go_wp2_with (first | ((with_reducible refine gate_callee (f := 18) rfl ?_); refine gl_ (some 35) Try.func18 #[.agg #[.slice b6 b0.length b5, .slice b3 a9.length b2]] ?_; (with_reducible refine (laws_noLogic.calls f3 _ _ b0 _ _ a9 false _ (y1 a2.out) (y2 a2.out) (y1 a3.out) (y2 a3.out) i6.out).mono ?_); rintro e w' ⟨rfl, hb⟩; refine ⟨_, rfl, ?_⟩; replace a2 := ak (Kd.N_below (xN a2.out) hb); replace a3 := ak (Kd.R_below (xR a3.out) hb); replace a6 := ak (Kd.N_below (xN a6.out) hb); replace a4 := ak (Kd.R_below (xR a4.out) hb); replace a1 := ak (blk_below (g := a7) (o := .cells #[.slice b6 b0.length b5, .slice b3 a9.length b2] 27 (0, 0)) (xb a1.out) hb); replace a5 := ak (blk_below (g := a8) (o := .cells #[.slice d8 b8.length d5, .slice d0 b7.length b9] 27 (0, 0)) (xb a5.out) hb); replace HB := ak (below_step zg_0 hb); (try clear hb); (try clear hb2); (try clear hk); (try clear hi)))
   go_ret
   exact ⟨zg_8, zg_0⟩

theorem laws_FnRingOf.walk (P : laws_FnRingOf.Pure) (a0 : Option Addr) (len0 cap0 : Nat) (z0 : List Int) (w : World) (w0 : (a0 = none ∧ len0 = 0 ∧ cap0 = 0 ∧ z0 = []) ∨ ∃ x, a0 = some x ∧ len0 ≤ cap0 ∧ cap0 ≤ maxLen ∧ z0.length = cap0 ∧ (∀ i, i < z0.length → w.cell? (x.add i) = some (.int .u8 (z0.getD i 0))) ∧ ∀ n ∈ z0, (Lit.int .u8 n).wf = true) (y0 : len0 * 1 ≤ 140737488351232) :
 Calls Try.prog 3 #[.slice a0 len0 cap0] w fun e w' => e = .returned (.bool true) ∧ Below w.heap.size w w' := by
 obtain ⟨l0, rfl, hr0, hm0, hw0, hc0⟩ := ReadsInt.ofRowC w0
 obtain ⟨k, h⟩ := P l0 hm0 y0 hw0
 refine (laws_FnRingOf.calls k _ _ l0 true w (Kd.C_of_reads (d := (0 : Int)) (h1 := fun _ => rfl) hr0) hc0 h).mono ?_
 rintro e w' ⟨rfl, hd⟩
 exact ⟨rfl, hd⟩

end Go.Proofs.Ytacifhahfamipaa.P
