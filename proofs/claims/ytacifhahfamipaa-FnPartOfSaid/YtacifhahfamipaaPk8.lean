/- 1 texts of this seat joined: walks, and the laws of what they compute. -/
import Derived.Test.YtacifhahfamipaaPk2
import Derived.Test.YtacifhahfamipaaPk7
import Derived.Test.YtacifhahfamipaaPk4
import Derived.Test.YtacifhahfamipaaPk6
namespace Go.Proofs.Ytacifhahfamipaa.P
open Go.RowKit Go.Proofs.YtacifhahfamipaaW.PrintWords Go.Proofs.YtacifhahfamipaaW.PrintLast Go.Proofs.YtacifhahfamipaaW.PrintMore
attribute [local go_sem] max2_int min2_int max_two min_two max_three min_three max_four min_four
set_option linter.unusedVariables false
set_option linter.unusedSimpArgs false
theorem ze_15 {p : Prop} (h : p := by kernel_rfl) : p := h
theorem ze_14 {p : Prop} (h : p := by first | rfl | (simp [errW_none, errW_some] <;> rfl) | (simp [*, errW_none, errW_some] <;> rfl)) : p := h
theorem ze_13 {p : Prop} (h : p := by (with_reducible repeat (first | apply Kd.S_alloc | apply Kd.S_drewN | apply Kd.S_drew)); exact (Kd.S_mono (Kd.S_far (p := ⟨a8, 1, none⟩) (Kd.S_far (p := ⟨a8, 0, none⟩) (Kd.S_types a5.out a2.out (by decide)) (fun _ hk => hk.2) (.slice g8 b2.length g5)) (fun _ hk => hk.2) (.slice g1 b1.length f7)) (fun _ h_ => h_.1))) : p := h
theorem ze_12 {p : Prop} (h : p := by (with_reducible repeat (first | apply Kd.S_alloc | apply Kd.S_drewN | apply Kd.S_drew)); exact (Kd.S_mono (Kd.S_far (p := ⟨a8, 1, none⟩) (Kd.S_far (p := ⟨a8, 0, none⟩) (Kd.S_types a5.out a2.out (by decide)) (fun _ hk => hk.2) (.slice g2 b2.length f8)) (fun _ hk => hk.2) (.slice f5 b1.length f2)) (fun _ h_ => h_.1))) : p := h
theorem ze_11 {p : Prop} (h : p := by (with_reducible repeat (first | apply Kd.S_alloc | apply Kd.S_drewN | apply Kd.S_drew)); exact (Kd.S_mono (Kd.S_far (p := ⟨a8, 1, none⟩) (Kd.S_far (p := ⟨a8, 0, none⟩) (Kd.S_types a5.out a2.out (by decide)) (fun _ hk => hk.2) (.slice g6 b2.length g3)) (fun _ hk => hk.2) (.slice f9 b1.length f6)) (fun _ h_ => h_.1))) : p := h
theorem ze_10 {p : Prop} (h : p := by (with_reducible repeat (first | apply Kd.S_alloc | apply Kd.S_drewN | apply Kd.S_drew)); exact (Kd.S_mono (Kd.S_far (p := ⟨a8, 1, none⟩) (Kd.S_far (p := ⟨a8, 0, none⟩) (Kd.S_types a5.out a2.out (by decide)) (fun _ hk => hk.2) (.slice g9 b2.length g7)) (fun _ hk => hk.2) (.slice g4 b1.length g0)) (fun _ h_ => h_.1))) : p := h
theorem ze_9 {p : Prop} (h : p := by (with_reducible repeat (first | apply Kd.S_alloc | apply Kd.S_drewN | apply Kd.S_drew)); exact (Kd.S_mono (Kd.S_far (p := ⟨a8, 1, none⟩) (Kd.S_far (p := ⟨a8, 0, none⟩) (Kd.S_types a5.out a2.out (by decide)) (fun _ hk => hk.2) (.slice h2 b2.length h0)) (fun _ hk => hk.2) (.slice d2 b1.length d1)) (fun _ h_ => h_.1))) : p := h
theorem ze_8 {p : Prop} (h : p := by (with_reducible repeat (first | apply Kd.Q_alloc | apply Kd.Q_drewN | apply Kd.Q_drew)); exact (Kd.Q_mono (Kd.Q_far (p := ⟨a8, 1, none⟩) (Kd.Q_far (p := ⟨a8, 0, none⟩) (Kd.Q_types a4.out a2.out (by decide)) (fun _ hk => hk.2) (.slice g8 b2.length g5)) (fun _ hk => hk.2) (.slice g1 b1.length f7)) (fun _ h_ => h_.1))) : p := h
theorem ze_7 {p : Prop} (h : p := by (with_reducible repeat (first | apply Kd.Q_alloc | apply Kd.Q_drewN | apply Kd.Q_drew)); exact (Kd.Q_mono (Kd.Q_far (p := ⟨a8, 1, none⟩) (Kd.Q_far (p := ⟨a8, 0, none⟩) (Kd.Q_types a4.out a2.out (by decide)) (fun _ hk => hk.2) (.slice g2 b2.length f8)) (fun _ hk => hk.2) (.slice f5 b1.length f2)) (fun _ h_ => h_.1))) : p := h
theorem ze_6 {p : Prop} (h : p := by (with_reducible repeat (first | apply Kd.Q_alloc | apply Kd.Q_drewN | apply Kd.Q_drew)); exact (Kd.Q_mono (Kd.Q_far (p := ⟨a8, 1, none⟩) (Kd.Q_far (p := ⟨a8, 0, none⟩) (Kd.Q_types a4.out a2.out (by decide)) (fun _ hk => hk.2) (.slice g6 b2.length g3)) (fun _ hk => hk.2) (.slice f9 b1.length f6)) (fun _ h_ => h_.1))) : p := h
theorem ze_5 {p : Prop} (h : p := by (with_reducible repeat (first | apply Kd.Q_alloc | apply Kd.Q_drewN | apply Kd.Q_drew)); exact (Kd.Q_mono (Kd.Q_far (p := ⟨a8, 1, none⟩) (Kd.Q_far (p := ⟨a8, 0, none⟩) (Kd.Q_types a4.out a2.out (by decide)) (fun _ hk => hk.2) (.slice g9 b2.length g7)) (fun _ hk => hk.2) (.slice g4 b1.length g0)) (fun _ h_ => h_.1))) : p := h
theorem ze_4 {p : Prop} (h : p := by (with_reducible repeat (first | apply Kd.Q_alloc | apply Kd.Q_drewN | apply Kd.Q_drew)); exact (Kd.Q_mono (Kd.Q_far (p := ⟨a8, 1, none⟩) (Kd.Q_far (p := ⟨a8, 0, none⟩) (Kd.Q_types a4.out a2.out (by decide)) (fun _ hk => hk.2) (.slice h2 b2.length h0)) (fun _ hk => hk.2) (.slice d2 b1.length d1)) (fun _ h_ => h_.1))) : p := h
theorem ze_3 {p : Prop} (h : p := by (with_reducible repeat (first | refine blk_drewN ?_ _ | refine blk_drew ?_ | refine blk_alloc ?_ _)); refine blk_far ?_ b5.out _; (with_reducible repeat (first | refine blk_drewN ?_ _ | refine blk_drew ?_ | refine blk_alloc ?_ _)); refine blk_far ?_ b5.out _; (with_reducible repeat (first | refine blk_drewN ?_ _ | refine blk_drew ?_ | refine blk_alloc ?_ _)); exact a2.out) : p := h
theorem ze_2 {p : Prop} (h : p := by repeat (first | (with_reducible first | exact HB.out | apply below_alloc | apply pw_below_drewN | apply below_drew1) | exact HB.out)) : p := h
theorem ze_1 {p : Prop} (h : p := by repeat (first | (with_reducible first | exact HB.out | apply below_alloc | apply pw_below_drewN | apply below_drew1 | refine below_set ?_ h7.out) | exact HB.out)) : p := h
theorem ze_0 {p : Prop} (h : p := by repeat (first | (with_reducible first | exact HB.out | apply below_alloc | apply pw_below_drewN | apply below_drew1 | refine below_set ?_ h7.out | refine below_set ?_ h8.out) | exact HB.out)) : p := h
set_option maxHeartbeats 8000000 in
set_option maxRecDepth 100000 in
theorem laws_FnPartOf.calls (k : Nat) (A0 : Option Addr) (c0 : Nat) (l0 : List Int) (r : Bool) (w : World) (hr0 : Kd.C (Kd.int .u8) w A0 l0.length l0) (hc0 : l0.length ≤ c0) (h : laws_FnPartOf.f k l0 = some r) :
 Calls Try.prog 9 #[.slice A0 l0.length c0] w fun e w' => e = .returned (.bool r) ∧ Below w.heap.size w w' := by
 have hu27 := Try.underlying27
 have HR0 := ak hr0
 have j7 := ak hc0
 clear hr0 hc0
 have HB := ak (Below.refl w.heap.size w)
 have H : (if (l0.length : Int) > 1048576 then (some true) else ((spec_DrawPartOf.f k l0).bind fun h5 => ((impl_PartOf.f h5.1 h5.2.1 h5.2.2).bind fun h6 => ((spec_PartOf.f k h5.1 h5.2.1 h5.2.2).bind fun i8 => ((laws_sameLogic.f k h6.1 h6.2 i8.1 i8.2).bind fun j8 => (if j8 = true then (if (h6.2.length : Int) = 0 then ((laws_alive.f k).bind fun j5 => (some j5)) else ((impl_LogicOk.f h6.1 h6.2).bind fun j9 => (if j9 = true then ((impl_KeepsOk.f h5.1 h5.2.1).bind fun k0 => (if k0 = true then ((impl_KeepsOk.f h6.1 h6.2).bind fun j6 => (some j6)) else (some true))) else (some false)))) else (some false))))))) = some r := h
 clear h
 replace H := op_ H
 rcases H with ⟨c2, H⟩ | ⟨c2, H⟩
 ·
  have l7 : decide (1048576 < (l0.length : Int)) = true := dT_ c2
  have l8 : decide (1048576 < l0.length) = true := dT_ (by omega)
  clear c2
  obtain rfl := Option.some.inj H
  go_enter Try.func9, Try.ntmps9
  go_wp2
  go_ret
  exact ⟨ze_14, ze_2⟩
 have l7 : decide (1048576 < (l0.length : Int)) = false := dF_ c2
 have l8 : decide (1048576 < l0.length) = false := dF_ (by omega)
 clear c2
 replace H := bd_ H
 obtain ⟨⟨b2, b1, d3⟩, A3, H⟩ := H
 try dsimp only at H
 replace H := bd_ H
 obtain ⟨⟨b0, a9⟩, A4, H⟩ := H
 try dsimp only at H
 replace H := bd_ H
 obtain ⟨⟨h3, h4⟩, A5, H⟩ := H
 try dsimp only at H
 replace H := bd_ H
 obtain ⟨j8, A6, H⟩ := H
 try dsimp only at H
 replace H := ox_ H
 rcases H with ⟨rfl, H⟩ | ⟨rfl, H⟩
 ·
  replace H := oe2 H
  rcases H with ⟨⟨-, l9, m0⟩, H⟩ | ⟨⟨c8, l9, m0⟩, H⟩
  ·
   replace H := bd_ H
   obtain ⟨j5, A9, H⟩ := H
   try dsimp only at H
   obtain rfl := Option.some.inj H
   go_enter Try.func9, Try.ntmps9
   try go_wp2_with (first | ((with_reducible refine gate_callee (f := 42) rfl ?_); refine gl_ (some 11) Try.func42 #[.slice A0 l0.length c0] ?_; (with_reducible refine (spec_DrawPartOf.calls k _ _ l0 b2 b1 d3 _ (y4 HR0.out) j7.out A3.out).mono ?_); rintro e w' ⟨i2, i3, rfl, ho0, ho1, hb⟩; refine ⟨_, rfl, ?_⟩; have a5 := ak (Kd.S_lower ho0 (below_size ze_2)); have a4 := ak (Kd.Q_lower ho1 (below_size ze_2)); replace HB := ak (below_step ze_2 hb); (try clear hb); (try clear hb2); (try clear hk); (try clear hi); (try clear ho0); (try clear ho1)) | ((with_reducible refine gate_dst (N := 3) rfl ?_); refine bx_ (N := 3) (cs := #[.slice none 0 0, .slice none 0 0]) (t := 27) ?_; intro a8 hg u4 hbox hb; replace a5 := ak (Kd.S_below (xS a5.out) hb); replace a4 := ak (Kd.Q_below (xQ a4.out) hb); have a2 := ak (hbox); have i0 := ak ((by rw [hg]; exact (below_size ze_2) : w.heap.size ≤ a8)); have h7 := ak ((by rw [hg]; exact (below_size ze_2) : w.heap.size ≤ a8)); replace HB := ak (below_step ze_2 hb); clear hb hbox hg; obtain ⟨g8, g5, m1⟩ := Kd.S_slice a5.out; subst m1; have d6 := cz20 a2.out; have d7 := cz21 a2.out; have d8 := blk_frozen a2.out 0; have d9 := blk_frozen a2.out 1; obtain ⟨g1, f7, m2, _⟩ := Kd.Q_slice a4.out; subst m2) | ((with_reducible refine gate_callee (f := 41) rfl ?_); refine gl_ (some 16) Try.func41 #[.agg #[.slice g8 b2.length g5, .slice g1 b1.length f7], .int .i64 d3] ?_; (with_reducible refine (impl_PartOf.calls _ _ b2 _ _ b1 d3 b0 a9 _ (by refine (Kd.S_reads' (e := 25) (base := w.heap.size) (ok := fun k_ => some k_ ≠ (.slice g1 b1.length f7 : Value).ownBlock) (n := b2.length) (c := g5) ?_).2.2; exact ze_13) (y2 a5.out) (by refine (Kd.Q_reads' (e := 3) (base := w.heap.size) (ok := fun k_ => True) (n := b1.length) (c := f7) ?_).2.2; exact ze_8) (y2 a4.out) A4.out).mono ?_); rintro e w' ⟨i4, i5, rfl, ho0, ho1, hb⟩; refine ⟨_, rfl, ?_⟩; have a7 := ak (Kd.S_lower (Kd.S_new' (Kd.S_new' ho0 (Kd.S_lt ze_13)) (Kd.Q_lt ze_8)) (below_size ze_1)); replace a5 := ak (Kd.S_mono (Kd.S_told (Kd.S_told (Kd.S_old ze_13 hb) (Kd.S_base ho0)) (Kd.R_base ho1)) (fun _ h_ => h_.1)); have a6 := ak (Kd.R_lower (Kd.R_new' ho1 (Kd.Q_lt ze_8)) (below_size ze_1)); replace a4 := ak (Kd.Q_elder' ze_8 (Kd.R_base ho1) hb); replace a2 := ak (blk_below (g := a8) (o := .cells #[.slice g8 b2.length g5, .slice g1 b1.length f7] 27 (0, 0)) (by (with_reducible repeat (first | refine blk_drewN ?_ _ | refine blk_drew ?_ | refine blk_alloc ?_ _)); refine blk_put (cs := #[.slice g8 b2.length g5, .slice none 0 0]) ?_ 1 _ rfl; (with_reducible repeat (first | refine blk_drewN ?_ _ | refine blk_drew ?_ | refine blk_alloc ?_ _)); refine blk_put (cs := #[.slice none 0 0, .slice none 0 0]) ?_ 0 _ rfl; (with_reducible repeat (first | refine blk_drewN ?_ _ | refine blk_drew ?_ | refine blk_alloc ?_ _)); exact a2.out) hb); replace HB := ak (below_step ze_1 hb); (try clear hb); (try clear hb2); (try clear hk); (try clear hi); (try clear ho0); (try clear ho1)) | ((with_reducible refine gate_dst (N := 5) rfl ?_); refine bx_ (N := 5) (cs := #[.slice none 0 0, .slice none 0 0]) (t := 27) ?_; intro a1 hg i9 hbox hb; replace a5 := ak (Kd.S_below (xS a5.out) hb); replace a4 := ak (Kd.Q_below (xQ a4.out) hb); replace a7 := ak (Kd.S_below (xS a7.out) hb); replace a6 := ak (Kd.R_below (xR a6.out) hb); have a3 := ak (hbox); have i1 := ak ((by rw [hg]; exact (below_size ze_1) : w.heap.size ≤ a1)); have h8 := ak ((by rw [hg]; exact (below_size ze_1) : w.heap.size ≤ a1)); replace HB := ak (below_step ze_1 hb); have b5 := ak ((by rw [hg]; exact Nat.ne_of_lt (blk_lt (g := a8) (o := .cells #[.slice g8 b2.length g5, .slice g1 b1.length f7] 27 (0, 0)) (xb a2.out)) : a8 ≠ a1)); have b6 := ak ((by rw [hg]; exact Nat.ne_of_gt (blk_lt (g := a8) (o := .cells #[.slice g8 b2.length g5, .slice g1 b1.length f7] 27 (0, 0)) (xb a2.out)) : a1 ≠ a8)); replace a2 := ak (blk_below (g := a8) (o := .cells #[.slice g8 b2.length g5, .slice g1 b1.length f7] 27 (0, 0)) (xb a2.out) hb); clear hb hbox hg; obtain ⟨f3, f4, m3⟩ := Kd.S_slice a7.out; subst m3; have q8 := b6.out; have q9 := b5.out; have d6 := cz20 a3.out; have d7 := cz21 a3.out; have d8 := blk_frozen a3.out 0; have d9 := blk_frozen a3.out 1; obtain ⟨e8, e9, m4⟩ := Kd.R_slice a6.out; subst m4))
   have n0_ : Aside0 (Kd.S (Kd.slice 3 (Kd.int .i64)) 25 ((i9.setCell ⟨a1, 0, none⟩ (.slice f3 b0.length f4)).setCell ⟨a1, 1, none⟩ (.slice e8 a9.length e9)) w.heap.size (fun k_ => some k_ ≠ (.slice g1 b1.length f7 : Value).ownBlock ∧ some k_ ≠ (.slice f3 b0.length f4 : Value).ownBlock ∧ some k_ ≠ (.slice e8 a9.length e9 : Value).ownBlock) (.slice g8 b2.length g5) b2) := ⟨(by (with_reducible repeat (first | apply Kd.S_alloc | apply Kd.S_drewN | apply Kd.S_drew)); exact Kd.S_mono (Kd.S_far (p := ⟨a1, 1, none⟩) (Kd.S_far (p := ⟨a1, 0, none⟩) (Kd.S_types a5.out a3.out (by decide)) (fun _ hk => hk.2) (.slice f3 b0.length f4)) (fun _ hk => hk.2) (.slice e8 a9.length e9)) (fun _ hk => ⟨hk.1.1.1, ⟨hk.1.1.2, hk.1.2⟩⟩))⟩
   have n1_ : Aside0 (Kd.Q (Kd.int .i64) 3 ((i9.setCell ⟨a1, 0, none⟩ (.slice f3 b0.length f4)).setCell ⟨a1, 1, none⟩ (.slice e8 a9.length e9)) w.heap.size (fun k_ => some k_ ≠ (.slice e8 a9.length e9 : Value).ownBlock) (.slice g1 b1.length f7) b1) := ⟨(by (with_reducible repeat (first | apply Kd.Q_alloc | apply Kd.Q_drewN | apply Kd.Q_drew)); exact Kd.Q_mono (Kd.Q_far (p := ⟨a1, 1, none⟩) (Kd.Q_far (p := ⟨a1, 0, none⟩) (Kd.Q_types a4.out a3.out (by decide)) (fun _ hk => hk.2) (.slice f3 b0.length f4)) (fun _ hk => hk.2) (.slice e8 a9.length e9)) (fun _ hk => hk.1.2))⟩
   have n2_ : Aside0 (Kd.S (Kd.slice 3 (Kd.int .i64)) 25 ((i9.setCell ⟨a1, 0, none⟩ (.slice f3 b0.length f4)).setCell ⟨a1, 1, none⟩ (.slice e8 a9.length e9)) w.heap.size (fun k_ => some k_ ≠ (.slice g8 b2.length g5 : Value).ownBlock ∧ some k_ ≠ (.slice g1 b1.length f7 : Value).ownBlock ∧ some k_ ≠ (.slice e8 a9.length e9 : Value).ownBlock) (.slice f3 b0.length f4) b0) := ⟨(by (with_reducible repeat (first | apply Kd.S_alloc | apply Kd.S_drewN | apply Kd.S_drew)); exact Kd.S_mono (Kd.S_far (p := ⟨a1, 1, none⟩) (Kd.S_far (p := ⟨a1, 0, none⟩) (Kd.S_types a7.out a3.out (by decide)) (fun _ hk => hk.2) (.slice f3 b0.length f4)) (fun _ hk => hk.2) (.slice e8 a9.length e9)) (fun _ hk => ⟨hk.1.1.2, ⟨hk.1.2, hk.1.1.1⟩⟩))⟩
   have n3_ : Aside0 (Kd.R (Kd.int .i64) 3 ((i9.setCell ⟨a1, 0, none⟩ (.slice f3 b0.length f4)).setCell ⟨a1, 1, none⟩ (.slice e8 a9.length e9)) w.heap.size (fun k_ => some k_ ≠ (.slice g1 b1.length f7 : Value).ownBlock) (.slice e8 a9.length e9) a9) := ⟨(by (with_reducible repeat (first | apply Kd.R_alloc | apply Kd.R_drewN | apply Kd.R_drew)); exact Kd.R_mono (Kd.R_far (p := ⟨a1, 1, none⟩) (Kd.R_far (p := ⟨a1, 0, none⟩) (Kd.R_types a6.out a3.out (by decide)) (fun _ hk => hk.2) (.slice f3 b0.length f4)) (fun _ hk => hk.2) (.slice e8 a9.length e9)) (fun _ hk => hk.1.2))⟩
   have n4_ : Aside0 (((i9.setCell ⟨a1, 0, none⟩ (.slice f3 b0.length f4)).setCell ⟨a1, 1, none⟩ (.slice e8 a9.length e9)).heap[a8]? = some (.cells #[.slice g8 b2.length g5, .slice g1 b1.length f7] 27 (0, 0))) := ⟨ze_3⟩
   have n5_ : Aside0 (((i9.setCell ⟨a1, 0, none⟩ (.slice f3 b0.length f4)).setCell ⟨a1, 1, none⟩ (.slice e8 a9.length e9)).heap[a1]? = some (.cells #[.slice f3 b0.length f4, .slice e8 a9.length e9] 27 (0, 0))) := ⟨(by (with_reducible repeat (first | refine blk_drewN ?_ _ | refine blk_drew ?_ | refine blk_alloc ?_ _)); refine blk_put (cs := #[.slice f3 b0.length f4, .slice none 0 0]) ?_ 1 _ rfl; (with_reducible repeat (first | refine blk_drewN ?_ _ | refine blk_drew ?_ | refine blk_alloc ?_ _)); refine blk_put (cs := #[.slice none 0 0, .slice none 0 0]) ?_ 0 _ rfl; (with_reducible repeat (first | refine blk_drewN ?_ _ | refine blk_drew ?_ | refine blk_alloc ?_ _)); exact a3.out)⟩
   have n6_ : Aside0 (Below w.heap.size w ((i9.setCell ⟨a1, 0, none⟩ (.slice f3 b0.length f4)).setCell ⟨a1, 1, none⟩ (.slice e8 a9.length e9))) := ⟨ze_0⟩
   (try clear a5)
   (try clear a4)
   (try clear a7)
   (try clear a6)
   (try clear a2)
   (try clear a3)
   (try clear HB)
   generalize ((i9.setCell ⟨a1, 0, none⟩ (.slice f3 b0.length f4)).setCell ⟨a1, 1, none⟩ (.slice e8 a9.length e9)) = s7 at n0_ n1_ n2_ n3_ n4_ n5_ n6_ ⊢
   have a5 := n0_
   have a4 := n1_
   have a7 := n2_
   have a6 := n3_
   have a2 := n4_
   have a3 := n5_
   have HB := n6_
   clear n0_ n1_ n2_ n3_ n4_ n5_ n6_
   replace a5 := ak (Kd.S_drew a5.out)
   replace a4 := ak (Kd.Q_drew a4.out)
   replace a7 := ak (Kd.S_drew a7.out)
   replace a6 := ak (Kd.R_drew a6.out)
   replace a2 := ak (blk_drew a2.out)
   replace a3 := ak (blk_drew a3.out)
   replace HB := ak (below_drew1 HB.out)
   refine start_ (n := 6) (S := fun w' => w'.cell? ⟨a1, 0, none⟩ = some (.slice f3 b0.length f4) ∧ w'.cell? ⟨a1, 1, none⟩ = some (.slice e8 a9.length e9) ∧ w'.cell? ⟨a8, 0, none⟩ = some (.slice g8 b2.length g5) ∧ w'.cell? ⟨a8, 1, none⟩ = some (.slice g1 b1.length f7)) (ds := []) (bA 6 0) ze_15 rfl rfl ⟨(blk_cell a3.out 0).trans rfl, (blk_cell a3.out 1).trans rfl, (blk_cell a2.out 0).trans rfl, (blk_cell a2.out 1).trans rfl⟩ (fun hHeld => ?_)
   generalize s7.drew = u5 at a5 a4 a7 a6 a2 a3 HB hHeld ⊢
   refine pu_ (i := 2) (N := some 19) (bA 6 4) ?_
   refine tk_ (i := 0) (N := some 17) (bA 6 5) ?_
   refine tk_ (i := 1) (N := some 18) (bA 6 7) ?_
   refine one_ (i := 3) (N := some 20) (bA 6 15) rfl rfl ze_15 (by decide) (fun K hK => ?_)
   refine ge_ Try.func43 #[.agg #[.slice g8 b2.length g5, .slice g1 b1.length f7], .int .i64 d3] ?_
   with_reducible refine (spec_PartOf.calls k _ _ b2 _ _ b1 d3 h3 h4 _ ?side1 ?side2 ?side3 ?side4 A5.out).mono ?_
   (case side1 => repeat (first | exact (Kd.S_reads' a5.out).2.2 | (with_reducible refine Kd.C_alloc ?_ _) | (with_reducible refine Kd.C_drewN ?_ _) | (with_reducible refine Kd.C_drew ?_)))
   (case side2 => exact (Kd.S_reads' a5.out).2.1)
   (case side3 => repeat (first | exact (Kd.Q_reads' a4.out).2.2 | (with_reducible refine Kd.C_alloc ?_ _) | (with_reducible refine Kd.C_drewN ?_ _) | (with_reducible refine Kd.C_drew ?_)))
   (case side4 => exact (Kd.Q_reads' a4.out).2.1)
   rintro e w' ⟨i6, i7, rfl, ho0, ho1, hb⟩
   refine ⟨_, rfl, ?_⟩
   have b3 := ak (Kd.S_lower (Kd.S_new' (Kd.S_new' (Kd.S_new' (Kd.S_new' ho0 (Kd.S_lt (xS a5.out))) (Kd.Q_lt (xQ a4.out))) (Kd.S_lt (xS a7.out))) (Kd.R_lt (xR a6.out))) (below_size ze_0))
   replace a5 := ak (Kd.S_mono (Kd.S_told (Kd.S_told (Kd.S_old (xS a5.out) hb) (Kd.S_base ho0)) (Kd.R_base ho1)) (fun _ h_ => h_.1))
   replace a7 := ak (Kd.S_mono (Kd.S_told (Kd.S_told (Kd.S_old (xS a7.out) hb) (Kd.S_base ho0)) (Kd.R_base ho1)) (fun _ h_ => h_.1))
   have b4 := ak (Kd.R_lower (Kd.R_new' (Kd.R_new' ho1 (Kd.Q_lt (xQ a4.out))) (Kd.R_lt (xR a6.out))) (below_size ze_0))
   replace a4 := ak (Kd.Q_elder' (xQ a4.out) (Kd.R_base ho1) hb)
   replace a6 := ak (Kd.R_elder' (xR a6.out) (Kd.R_base ho1) hb)
   replace a2 := ak (blk_below (g := a8) (o := .cells #[.slice g8 b2.length g5, .slice g1 b1.length f7] 27 (0, 0)) (xb a2.out) hb)
   replace a3 := ak (blk_below (g := a1) (o := .cells #[.slice f3 b0.length f4, .slice e8 a9.length e9] 27 (0, 0)) (xb a3.out) hb)
   replace HB := ak (below_step ze_0 hb)
   (try clear hb)
   (try clear hb2)
   (try clear hk)
   (try clear hi)
   (try clear ho0)
   (try clear ho1)
   obtain ⟨m5, m6, k1⟩ := Kd.S_slice b3.out
   (first | subst k1 | (injection k1 with f1_ f2_ f3_; have f4_ := f1_.symm; have f5_ := f3_.symm; clear f1_ f2_ f3_; subst f4_; subst f5_))
   obtain ⟨m7, m8, k2⟩ := Kd.R_slice b4.out
   (first | subst k2 | (injection k2 with f1_ f2_ f3_; have f4_ := f1_.symm; have f5_ := f3_.symm; clear f1_ f2_ f3_; subst f4_; subst f5_))
   refine hK.out _ _ ⟨(blk_cell a3.out 0).trans rfl, (blk_cell a3.out 1).trans rfl, (blk_cell a2.out 0).trans rfl, (blk_cell a2.out 1).trans rfl⟩ (fun hHeld => ?_)
   clear hK K
   refine no_ (N := some 20) ?_
   refine one_ (i := 4) (N := some 21) (bA 6 31) rfl rfl ze_15 (by decide) (fun K hK => ?_)
   refine ge_ Try.func17 #[.agg #[.slice f3 b0.length f4, .slice e8 a9.length e9], .agg #[.slice m5 h3.length m6, .slice m7 h4.length m8]] ?_
   with_reducible refine (laws_sameLogic.calls k _ _ b0 _ _ a9 _ _ h3 _ _ h4 true _ ?side1 ?side2 ?side3 ?side4 ?side5 ?side6 ?side7 ?side8 A6.out).mono ?_
   (case side1 => repeat (first | exact (Kd.S_reads' a7.out).2.2 | (with_reducible refine Kd.C_alloc ?_ _) | (with_reducible refine Kd.C_drewN ?_ _) | (with_reducible refine Kd.C_drew ?_)))
   (case side2 => exact (Kd.S_reads' a7.out).2.1)
   (case side3 => repeat (first | exact (Kd.R_reads' a6.out).2.2 | (with_reducible refine Kd.C_alloc ?_ _) | (with_reducible refine Kd.C_drewN ?_ _) | (with_reducible refine Kd.C_drew ?_)))
   (case side4 => exact (Kd.R_reads' a6.out).2.1)
   (case side5 => repeat (first | exact (Kd.S_reads' b3.out).2.2 | (with_reducible refine Kd.C_alloc ?_ _) | (with_reducible refine Kd.C_drewN ?_ _) | (with_reducible refine Kd.C_drew ?_)))
   (case side6 => exact (Kd.S_reads' b3.out).2.1)
   (case side7 => repeat (first | exact (Kd.R_reads' b4.out).2.2 | (with_reducible refine Kd.C_alloc ?_ _) | (with_reducible refine Kd.C_drewN ?_ _) | (with_reducible refine Kd.C_drew ?_)))
   (case side8 => exact (Kd.R_reads' b4.out).2.1)
   rintro e w' ⟨rfl, hb⟩
   refine ⟨_, rfl, ?_⟩
   replace a5 := ak (Kd.S_below (xS a5.out) hb)
   replace a4 := ak (Kd.Q_below (xQ a4.out) hb)
   replace a7 := ak (Kd.S_below (xS a7.out) hb)
   replace a6 := ak (Kd.R_below (xR a6.out) hb)
   replace b3 := ak (Kd.S_below (xS b3.out) hb)
   replace b4 := ak (Kd.R_below (xR b4.out) hb)
   replace a2 := ak (blk_below (g := a8) (o := .cells #[.slice g8 b2.length g5, .slice g1 b1.length f7] 27 (0, 0)) (xb a2.out) hb)
   replace a3 := ak (blk_below (g := a1) (o := .cells #[.slice f3 b0.length f4, .slice e8 a9.length e9] 27 (0, 0)) (xb a3.out) hb)
   replace HB := ak (below_step ze_0 hb)
   (try clear hb)
   (try clear hb2)
   (try clear hk)
   (try clear hi)
   refine hK.out _ _ ⟨(blk_cell a3.out 0).trans rfl, (blk_cell a3.out 1).trans rfl, (blk_cell a2.out 0).trans rfl, (blk_cell a2.out 1).trans rfl⟩ (fun hHeld => ?_)
   clear hK K
   refine no_ (N := some 21) ?_
   refine pu_ (i := 5) (N := some 22) (bA 6 63) ?_
   refine done_ ze_15 ?_
   have d6 := cz20 a3.out
   have d7 := cz21 a3.out
   have d8 := blk_frozen a3.out 0
   have d9 := blk_frozen a3.out 1
   try go_wp2_with (first | ((with_reducible refine gate_callee (f := 19) rfl ?_); refine gl_ (some 27) Try.func19 #[] ?_; (with_reducible refine (laws_alive.calls k  j5 _ A9.out).mono ?_); rintro e w' ⟨rfl, hb⟩; refine ⟨_, rfl, ?_⟩; replace a5 := ak (Kd.S_below (xS a5.out) hb); replace a4 := ak (Kd.Q_below (xQ a4.out) hb); replace a7 := ak (Kd.S_below (xS a7.out) hb); replace a6 := ak (Kd.R_below (xR a6.out) hb); replace b3 := ak (Kd.S_below (xS b3.out) hb); replace b4 := ak (Kd.R_below (xR b4.out) hb); replace a2 := ak (blk_below (g := a8) (o := .cells #[.slice g8 b2.length g5, .slice g1 b1.length f7] 27 (0, 0)) (xb a2.out) hb); replace a3 := ak (blk_below (g := a1) (o := .cells #[.slice f3 b0.length f4, .slice e8 a9.length e9] 27 (0, 0)) (xb a3.out) hb); replace HB := ak (below_step ze_0 hb); (try clear hb); (try clear hb2); (try clear hk); (try clear hi)))
   go_ret
   exact ⟨ze_14, ze_0⟩
  have s8 : ¬ (a9 = []) := fun h_ => c8 (by rw [h_]; rfl)
  replace H := bd_ H
  obtain ⟨j9, m9, H⟩ := H
  try dsimp only at H
  replace H := ox_ H
  rcases H with ⟨rfl, H⟩ | ⟨rfl, H⟩
  ·
   replace H := bd_ H
   obtain ⟨k0, s0, H⟩ := H
   try dsimp only at H
   replace H := ox_ H
   rcases H with ⟨rfl, H⟩ | ⟨rfl, H⟩
   ·
    replace H := bd_ H
    obtain ⟨j6, s9, H⟩ := H
    try dsimp only at H
    obtain rfl := Option.some.inj H
    go_enter Try.func9, Try.ntmps9
    try go_wp2_with (first | ((with_reducible refine gate_callee (f := 42) rfl ?_); refine gl_ (some 11) Try.func42 #[.slice A0 l0.length c0] ?_; (with_reducible refine (spec_DrawPartOf.calls k _ _ l0 b2 b1 d3 _ (y4 HR0.out) j7.out A3.out).mono ?_); rintro e w' ⟨i2, i3, rfl, ho0, ho1, hb⟩; refine ⟨_, rfl, ?_⟩; have a5 := ak (Kd.S_lower ho0 (below_size ze_2)); have a4 := ak (Kd.Q_lower ho1 (below_size ze_2)); replace HB := ak (below_step ze_2 hb); (try clear hb); (try clear hb2); (try clear hk); (try clear hi); (try clear ho0); (try clear ho1)) | ((with_reducible refine gate_dst (N := 3) rfl ?_); refine bx_ (N := 3) (cs := #[.slice none 0 0, .slice none 0 0]) (t := 27) ?_; intro a8 hg u6 hbox hb; replace a5 := ak (Kd.S_below (xS a5.out) hb); replace a4 := ak (Kd.Q_below (xQ a4.out) hb); have a2 := ak (hbox); have i0 := ak ((by rw [hg]; exact (below_size ze_2) : w.heap.size ≤ a8)); have h7 := ak ((by rw [hg]; exact (below_size ze_2) : w.heap.size ≤ a8)); replace HB := ak (below_step ze_2 hb); clear hb hbox hg; obtain ⟨g2, f8, n0⟩ := Kd.S_slice a5.out; subst n0; have d6 := cz20 a2.out; have d7 := cz21 a2.out; have d8 := blk_frozen a2.out 0; have d9 := blk_frozen a2.out 1; obtain ⟨f5, f2, n1, _⟩ := Kd.Q_slice a4.out; subst n1) | ((with_reducible refine gate_callee (f := 41) rfl ?_); refine gl_ (some 16) Try.func41 #[.agg #[.slice g2 b2.length f8, .slice f5 b1.length f2], .int .i64 d3] ?_; (with_reducible refine (impl_PartOf.calls _ _ b2 _ _ b1 d3 b0 a9 _ (by refine (Kd.S_reads' (e := 25) (base := w.heap.size) (ok := fun k_ => some k_ ≠ (.slice f5 b1.length f2 : Value).ownBlock) (n := b2.length) (c := f8) ?_).2.2; exact ze_12) (y2 a5.out) (by refine (Kd.Q_reads' (e := 3) (base := w.heap.size) (ok := fun k_ => True) (n := b1.length) (c := f2) ?_).2.2; exact ze_7) (y2 a4.out) A4.out).mono ?_); rintro e w' ⟨i4, i5, rfl, ho0, ho1, hb⟩; refine ⟨_, rfl, ?_⟩; have a7 := ak (Kd.S_lower (Kd.S_new' (Kd.S_new' ho0 (Kd.S_lt ze_12)) (Kd.Q_lt ze_7)) (below_size ze_1)); replace a5 := ak (Kd.S_mono (Kd.S_told (Kd.S_told (Kd.S_old ze_12 hb) (Kd.S_base ho0)) (Kd.R_base ho1)) (fun _ h_ => h_.1)); have a6 := ak (Kd.R_lower (Kd.R_new' ho1 (Kd.Q_lt ze_7)) (below_size ze_1)); replace a4 := ak (Kd.Q_elder' ze_7 (Kd.R_base ho1) hb); replace a2 := ak (blk_below (g := a8) (o := .cells #[.slice g2 b2.length f8, .slice f5 b1.length f2] 27 (0, 0)) (by (with_reducible repeat (first | refine blk_drewN ?_ _ | refine blk_drew ?_ | refine blk_alloc ?_ _)); refine blk_put (cs := #[.slice g2 b2.length f8, .slice none 0 0]) ?_ 1 _ rfl; (with_reducible repeat (first | refine blk_drewN ?_ _ | refine blk_drew ?_ | refine blk_alloc ?_ _)); refine blk_put (cs := #[.slice none 0 0, .slice none 0 0]) ?_ 0 _ rfl; (with_reducible repeat (first | refine blk_drewN ?_ _ | refine blk_drew ?_ | refine blk_alloc ?_ _)); exact a2.out) hb); replace HB := ak (below_step ze_1 hb); (try clear hb); (try clear hb2); (try clear hk); (try clear hi); (try clear ho0); (try clear ho1)) | ((with_reducible refine gate_dst (N := 5) rfl ?_); refine bx_ (N := 5) (cs := #[.slice none 0 0, .slice none 0 0]) (t := 27) ?_; intro a1 hg j0 hbox hb; replace a5 := ak (Kd.S_below (xS a5.out) hb); replace a4 := ak (Kd.Q_below (xQ a4.out) hb); replace a7 := ak (Kd.S_below (xS a7.out) hb); replace a6 := ak (Kd.R_below (xR a6.out) hb); have a3 := ak (hbox); have i1 := ak ((by rw [hg]; exact (below_size ze_1) : w.heap.size ≤ a1)); have h8 := ak ((by rw [hg]; exact (below_size ze_1) : w.heap.size ≤ a1)); replace HB := ak (below_step ze_1 hb); have b5 := ak ((by rw [hg]; exact Nat.ne_of_lt (blk_lt (g := a8) (o := .cells #[.slice g2 b2.length f8, .slice f5 b1.length f2] 27 (0, 0)) (xb a2.out)) : a8 ≠ a1)); have b6 := ak ((by rw [hg]; exact Nat.ne_of_gt (blk_lt (g := a8) (o := .cells #[.slice g2 b2.length f8, .slice f5 b1.length f2] 27 (0, 0)) (xb a2.out)) : a1 ≠ a8)); replace a2 := ak (blk_below (g := a8) (o := .cells #[.slice g2 b2.length f8, .slice f5 b1.length f2] 27 (0, 0)) (xb a2.out) hb); clear hb hbox hg; obtain ⟨e0, e1, n2⟩ := Kd.S_slice a7.out; subst n2; have s1 := b6.out; have s2 := b5.out; have d6 := cz20 a3.out; have d7 := cz21 a3.out; have d8 := blk_frozen a3.out 0; have d9 := blk_frozen a3.out 1; obtain ⟨d4, d5, n3⟩ := Kd.R_slice a6.out; subst n3))
    have n0_ : Aside0 (Kd.S (Kd.slice 3 (Kd.int .i64)) 25 ((j0.setCell ⟨a1, 0, none⟩ (.slice e0 b0.length e1)).setCell ⟨a1, 1, none⟩ (.slice d4 a9.length d5)) w.heap.size (fun k_ => some k_ ≠ (.slice f5 b1.length f2 : Value).ownBlock ∧ some k_ ≠ (.slice e0 b0.length e1 : Value).ownBlock ∧ some k_ ≠ (.slice d4 a9.length d5 : Value).ownBlock) (.slice g2 b2.length f8) b2) := ⟨(by (with_reducible repeat (first | apply Kd.S_alloc | apply Kd.S_drewN | apply Kd.S_drew)); exact Kd.S_mono (Kd.S_far (p := ⟨a1, 1, none⟩) (Kd.S_far (p := ⟨a1, 0, none⟩) (Kd.S_types a5.out a3.out (by decide)) (fun _ hk => hk.2) (.slice e0 b0.length e1)) (fun _ hk => hk.2) (.slice d4 a9.length d5)) (fun _ hk => ⟨hk.1.1.1, ⟨hk.1.1.2, hk.1.2⟩⟩))⟩
    have n1_ : Aside0 (Kd.Q (Kd.int .i64) 3 ((j0.setCell ⟨a1, 0, none⟩ (.slice e0 b0.length e1)).setCell ⟨a1, 1, none⟩ (.slice d4 a9.length d5)) w.heap.size (fun k_ => some k_ ≠ (.slice d4 a9.length d5 : Value).ownBlock) (.slice f5 b1.length f2) b1) := ⟨(by (with_reducible repeat (first | apply Kd.Q_alloc | apply Kd.Q_drewN | apply Kd.Q_drew)); exact Kd.Q_mono (Kd.Q_far (p := ⟨a1, 1, none⟩) (Kd.Q_far (p := ⟨a1, 0, none⟩) (Kd.Q_types a4.out a3.out (by decide)) (fun _ hk => hk.2) (.slice e0 b0.length e1)) (fun _ hk => hk.2) (.slice d4 a9.length d5)) (fun _ hk => hk.1.2))⟩
    have n2_ : Aside0 (Kd.S (Kd.slice 3 (Kd.int .i64)) 25 ((j0.setCell ⟨a1, 0, none⟩ (.slice e0 b0.length e1)).setCell ⟨a1, 1, none⟩ (.slice d4 a9.length d5)) w.heap.size (fun k_ => some k_ ≠ (.slice g2 b2.length f8 : Value).ownBlock ∧ some k_ ≠ (.slice f5 b1.length f2 : Value).ownBlock ∧ some k_ ≠ (.slice d4 a9.length d5 : Value).ownBlock) (.slice e0 b0.length e1) b0) := ⟨(by (with_reducible repeat (first | apply Kd.S_alloc | apply Kd.S_drewN | apply Kd.S_drew)); exact Kd.S_mono (Kd.S_far (p := ⟨a1, 1, none⟩) (Kd.S_far (p := ⟨a1, 0, none⟩) (Kd.S_types a7.out a3.out (by decide)) (fun _ hk => hk.2) (.slice e0 b0.length e1)) (fun _ hk => hk.2) (.slice d4 a9.length d5)) (fun _ hk => ⟨hk.1.1.2, ⟨hk.1.2, hk.1.1.1⟩⟩))⟩
    have n3_ : Aside0 (Kd.R (Kd.int .i64) 3 ((j0.setCell ⟨a1, 0, none⟩ (.slice e0 b0.length e1)).setCell ⟨a1, 1, none⟩ (.slice d4 a9.length d5)) w.heap.size (fun k_ => some k_ ≠ (.slice f5 b1.length f2 : Value).ownBlock) (.slice d4 a9.length d5) a9) := ⟨(by (with_reducible repeat (first | apply Kd.R_alloc | apply Kd.R_drewN | apply Kd.R_drew)); exact Kd.R_mono (Kd.R_far (p := ⟨a1, 1, none⟩) (Kd.R_far (p := ⟨a1, 0, none⟩) (Kd.R_types a6.out a3.out (by decide)) (fun _ hk => hk.2) (.slice e0 b0.length e1)) (fun _ hk => hk.2) (.slice d4 a9.length d5)) (fun _ hk => hk.1.2))⟩
    have n4_ : Aside0 (((j0.setCell ⟨a1, 0, none⟩ (.slice e0 b0.length e1)).setCell ⟨a1, 1, none⟩ (.slice d4 a9.length d5)).heap[a8]? = some (.cells #[.slice g2 b2.length f8, .slice f5 b1.length f2] 27 (0, 0))) := ⟨ze_3⟩
    have n5_ : Aside0 (((j0.setCell ⟨a1, 0, none⟩ (.slice e0 b0.length e1)).setCell ⟨a1, 1, none⟩ (.slice d4 a9.length d5)).heap[a1]? = some (.cells #[.slice e0 b0.length e1, .slice d4 a9.length d5] 27 (0, 0))) := ⟨(by (with_reducible repeat (first | refine blk_drewN ?_ _ | refine blk_drew ?_ | refine blk_alloc ?_ _)); refine blk_put (cs := #[.slice e0 b0.length e1, .slice none 0 0]) ?_ 1 _ rfl; (with_reducible repeat (first | refine blk_drewN ?_ _ | refine blk_drew ?_ | refine blk_alloc ?_ _)); refine blk_put (cs := #[.slice none 0 0, .slice none 0 0]) ?_ 0 _ rfl; (with_reducible repeat (first | refine blk_drewN ?_ _ | refine blk_drew ?_ | refine blk_alloc ?_ _)); exact a3.out)⟩
    have n6_ : Aside0 (Below w.heap.size w ((j0.setCell ⟨a1, 0, none⟩ (.slice e0 b0.length e1)).setCell ⟨a1, 1, none⟩ (.slice d4 a9.length d5))) := ⟨ze_0⟩
    (try clear a5)
    (try clear a4)
    (try clear a7)
    (try clear a6)
    (try clear a2)
    (try clear a3)
    (try clear HB)
    generalize ((j0.setCell ⟨a1, 0, none⟩ (.slice e0 b0.length e1)).setCell ⟨a1, 1, none⟩ (.slice d4 a9.length d5)) = u0 at n0_ n1_ n2_ n3_ n4_ n5_ n6_ ⊢
    have a5 := n0_
    have a4 := n1_
    have a7 := n2_
    have a6 := n3_
    have a2 := n4_
    have a3 := n5_
    have HB := n6_
    clear n0_ n1_ n2_ n3_ n4_ n5_ n6_
    replace a5 := ak (Kd.S_drew a5.out)
    replace a4 := ak (Kd.Q_drew a4.out)
    replace a7 := ak (Kd.S_drew a7.out)
    replace a6 := ak (Kd.R_drew a6.out)
    replace a2 := ak (blk_drew a2.out)
    replace a3 := ak (blk_drew a3.out)
    replace HB := ak (below_drew1 HB.out)
    refine start_ (n := 6) (S := fun w' => w'.cell? ⟨a1, 0, none⟩ = some (.slice e0 b0.length e1) ∧ w'.cell? ⟨a1, 1, none⟩ = some (.slice d4 a9.length d5) ∧ w'.cell? ⟨a8, 0, none⟩ = some (.slice g2 b2.length f8) ∧ w'.cell? ⟨a8, 1, none⟩ = some (.slice f5 b1.length f2)) (ds := []) (bA 6 0) ze_15 rfl rfl ⟨(blk_cell a3.out 0).trans rfl, (blk_cell a3.out 1).trans rfl, (blk_cell a2.out 0).trans rfl, (blk_cell a2.out 1).trans rfl⟩ (fun hHeld => ?_)
    generalize u0.drew = u7 at a5 a4 a7 a6 a2 a3 HB hHeld ⊢
    refine pu_ (i := 2) (N := some 19) (bA 6 4) ?_
    refine tk_ (i := 0) (N := some 17) (bA 6 5) ?_
    refine tk_ (i := 1) (N := some 18) (bA 6 7) ?_
    refine one_ (i := 3) (N := some 20) (bA 6 15) rfl rfl ze_15 (by decide) (fun K hK => ?_)
    refine ge_ Try.func43 #[.agg #[.slice g2 b2.length f8, .slice f5 b1.length f2], .int .i64 d3] ?_
    with_reducible refine (spec_PartOf.calls k _ _ b2 _ _ b1 d3 h3 h4 _ ?side1 ?side2 ?side3 ?side4 A5.out).mono ?_
    (case side1 => repeat (first | exact (Kd.S_reads' a5.out).2.2 | (with_reducible refine Kd.C_alloc ?_ _) | (with_reducible refine Kd.C_drewN ?_ _) | (with_reducible refine Kd.C_drew ?_)))
    (case side2 => exact (Kd.S_reads' a5.out).2.1)
    (case side3 => repeat (first | exact (Kd.Q_reads' a4.out).2.2 | (with_reducible refine Kd.C_alloc ?_ _) | (with_reducible refine Kd.C_drewN ?_ _) | (with_reducible refine Kd.C_drew ?_)))
    (case side4 => exact (Kd.Q_reads' a4.out).2.1)
    rintro e w' ⟨i6, i7, rfl, ho0, ho1, hb⟩
    refine ⟨_, rfl, ?_⟩
    have b3 := ak (Kd.S_lower (Kd.S_new' (Kd.S_new' (Kd.S_new' (Kd.S_new' ho0 (Kd.S_lt (xS a5.out))) (Kd.Q_lt (xQ a4.out))) (Kd.S_lt (xS a7.out))) (Kd.R_lt (xR a6.out))) (below_size ze_0))
    replace a5 := ak (Kd.S_mono (Kd.S_told (Kd.S_told (Kd.S_old (xS a5.out) hb) (Kd.S_base ho0)) (Kd.R_base ho1)) (fun _ h_ => h_.1))
    replace a7 := ak (Kd.S_mono (Kd.S_told (Kd.S_told (Kd.S_old (xS a7.out) hb) (Kd.S_base ho0)) (Kd.R_base ho1)) (fun _ h_ => h_.1))
    have b4 := ak (Kd.R_lower (Kd.R_new' (Kd.R_new' ho1 (Kd.Q_lt (xQ a4.out))) (Kd.R_lt (xR a6.out))) (below_size ze_0))
    replace a4 := ak (Kd.Q_elder' (xQ a4.out) (Kd.R_base ho1) hb)
    replace a6 := ak (Kd.R_elder' (xR a6.out) (Kd.R_base ho1) hb)
    replace a2 := ak (blk_below (g := a8) (o := .cells #[.slice g2 b2.length f8, .slice f5 b1.length f2] 27 (0, 0)) (xb a2.out) hb)
    replace a3 := ak (blk_below (g := a1) (o := .cells #[.slice e0 b0.length e1, .slice d4 a9.length d5] 27 (0, 0)) (xb a3.out) hb)
    replace HB := ak (below_step ze_0 hb)
    (try clear hb)
    (try clear hb2)
    (try clear hk)
    (try clear hi)
    (try clear ho0)
    (try clear ho1)
    obtain ⟨n4, n5, k3⟩ := Kd.S_slice b3.out
    (first | subst k3 | (injection k3 with f1_ f2_ f3_; have f4_ := f1_.symm; have f5_ := f3_.symm; clear f1_ f2_ f3_; subst f4_; subst f5_))
    obtain ⟨n6, n7, k4⟩ := Kd.R_slice b4.out
    (first | subst k4 | (injection k4 with f1_ f2_ f3_; have f4_ := f1_.symm; have f5_ := f3_.symm; clear f1_ f2_ f3_; subst f4_; subst f5_))
    refine hK.out _ _ ⟨(blk_cell a3.out 0).trans rfl, (blk_cell a3.out 1).trans rfl, (blk_cell a2.out 0).trans rfl, (blk_cell a2.out 1).trans rfl⟩ (fun hHeld => ?_)
    clear hK K
    refine no_ (N := some 20) ?_
    refine one_ (i := 4) (N := some 21) (bA 6 31) rfl rfl ze_15 (by decide) (fun K hK => ?_)
    refine ge_ Try.func17 #[.agg #[.slice e0 b0.length e1, .slice d4 a9.length d5], .agg #[.slice n4 h3.length n5, .slice n6 h4.length n7]] ?_
    with_reducible refine (laws_sameLogic.calls k _ _ b0 _ _ a9 _ _ h3 _ _ h4 true _ ?side1 ?side2 ?side3 ?side4 ?side5 ?side6 ?side7 ?side8 A6.out).mono ?_
    (case side1 => repeat (first | exact (Kd.S_reads' a7.out).2.2 | (with_reducible refine Kd.C_alloc ?_ _) | (with_reducible refine Kd.C_drewN ?_ _) | (with_reducible refine Kd.C_drew ?_)))
    (case side2 => exact (Kd.S_reads' a7.out).2.1)
    (case side3 => repeat (first | exact (Kd.R_reads' a6.out).2.2 | (with_reducible refine Kd.C_alloc ?_ _) | (with_reducible refine Kd.C_drewN ?_ _) | (with_reducible refine Kd.C_drew ?_)))
    (case side4 => exact (Kd.R_reads' a6.out).2.1)
    (case side5 => repeat (first | exact (Kd.S_reads' b3.out).2.2 | (with_reducible refine Kd.C_alloc ?_ _) | (with_reducible refine Kd.C_drewN ?_ _) | (with_reducible refine Kd.C_drew ?_)))
    (case side6 => exact (Kd.S_reads' b3.out).2.1)
    (case side7 => repeat (first | exact (Kd.R_reads' b4.out).2.2 | (with_reducible refine Kd.C_alloc ?_ _) | (with_reducible refine Kd.C_drewN ?_ _) | (with_reducible refine Kd.C_drew ?_)))
    (case side8 => exact (Kd.R_reads' b4.out).2.1)
    rintro e w' ⟨rfl, hb⟩
    refine ⟨_, rfl, ?_⟩
    replace a5 := ak (Kd.S_below (xS a5.out) hb)
    replace a4 := ak (Kd.Q_below (xQ a4.out) hb)
    replace a7 := ak (Kd.S_below (xS a7.out) hb)
    replace a6 := ak (Kd.R_below (xR a6.out) hb)
    replace b3 := ak (Kd.S_below (xS b3.out) hb)
    replace b4 := ak (Kd.R_below (xR b4.out) hb)
    replace a2 := ak (blk_below (g := a8) (o := .cells #[.slice g2 b2.length f8, .slice f5 b1.length f2] 27 (0, 0)) (xb a2.out) hb)
    replace a3 := ak (blk_below (g := a1) (o := .cells #[.slice e0 b0.length e1, .slice d4 a9.length d5] 27 (0, 0)) (xb a3.out) hb)
    replace HB := ak (below_step ze_0 hb)
    (try clear hb)
    (try clear hb2)
    (try clear hk)
    (try clear hi)
    refine hK.out _ _ ⟨(blk_cell a3.out 0).trans rfl, (blk_cell a3.out 1).trans rfl, (blk_cell a2.out 0).trans rfl, (blk_cell a2.out 1).trans rfl⟩ (fun hHeld => ?_)
    clear hK K
    refine no_ (N := some 21) ?_
    refine pu_ (i := 5) (N := some 22) (bA 6 63) ?_
    refine done_ ze_15 ?_
    have d6 := cz20 a3.out
    have d7 := cz21 a3.out
    have d8 := blk_frozen a3.out 0
    have d9 := blk_frozen a3.out 1
    try go_wp2_with (first | ((with_reducible refine gate_callee (f := 20) rfl ?_); refine gl_ (some 29) Try.func20 #[.agg #[.slice e0 b0.length e1, .slice d4 a9.length d5]] ?_; (with_reducible refine (impl_LogicOk.calls _ _ b0 _ _ a9 true _ (y1 a7.out) (y2 a7.out) (y1 a6.out) (y2 a6.out) m9.out).mono ?_); rintro e w' ⟨rfl, hb⟩; refine ⟨_, rfl, ?_⟩; replace a5 := ak (Kd.S_below (xS a5.out) hb); replace a4 := ak (Kd.Q_below (xQ a4.out) hb); replace a7 := ak (Kd.S_below (xS a7.out) hb); replace a6 := ak (Kd.R_below (xR a6.out) hb); replace b3 := ak (Kd.S_below (xS b3.out) hb); replace b4 := ak (Kd.R_below (xR b4.out) hb); replace a2 := ak (blk_below (g := a8) (o := .cells #[.slice g2 b2.length f8, .slice f5 b1.length f2] 27 (0, 0)) (xb a2.out) hb); replace a3 := ak (blk_below (g := a1) (o := .cells #[.slice e0 b0.length e1, .slice d4 a9.length d5] 27 (0, 0)) (xb a3.out) hb); replace HB := ak (below_step ze_0 hb); (try clear hb); (try clear hb2); (try clear hk); (try clear hi); have d6 := cz20 a2.out; have d7 := cz21 a2.out; have d8 := blk_frozen a2.out 0; have d9 := blk_frozen a2.out 1) | (go_at_call 26; (with_reducible refine (impl_KeepsOk.calls _ _ b2 _ _ b1 true _ (y1 a5.out) (y2 a5.out) (y1 a4.out) (y2 a4.out) s0.out).mono ?_); rintro e w' ⟨rfl, hb⟩; replace a5 := ak (Kd.S_below (xS a5.out) hb); replace a4 := ak (Kd.Q_below (xQ a4.out) hb); replace a7 := ak (Kd.S_below (xS a7.out) hb); replace a6 := ak (Kd.R_below (xR a6.out) hb); replace b3 := ak (Kd.S_below (xS b3.out) hb); replace b4 := ak (Kd.R_below (xR b4.out) hb); replace a2 := ak (blk_below (g := a8) (o := .cells #[.slice g2 b2.length f8, .slice f5 b1.length f2] 27 (0, 0)) (xb a2.out) hb); replace a3 := ak (blk_below (g := a1) (o := .cells #[.slice e0 b0.length e1, .slice d4 a9.length d5] 27 (0, 0)) (xb a3.out) hb); replace HB := ak (below_step ze_0 hb); (try clear hb); (try clear hb2); (try clear hk); (try clear hi); have d6 := cz20 a3.out; have d7 := cz21 a3.out; have d8 := blk_frozen a3.out 0; have d9 := blk_frozen a3.out 1) | (go_at_call 26; (with_reducible refine (impl_KeepsOk.calls _ _ b0 _ _ a9 j6 _ (y1 a7.out) (y2 a7.out) (y1 a6.out) (y2 a6.out) s9.out).mono ?_); rintro e w' ⟨rfl, hb⟩; replace a5 := ak (Kd.S_below (xS a5.out) hb); replace a4 := ak (Kd.Q_below (xQ a4.out) hb); replace a7 := ak (Kd.S_below (xS a7.out) hb); replace a6 := ak (Kd.R_below (xR a6.out) hb); replace b3 := ak (Kd.S_below (xS b3.out) hb); replace b4 := ak (Kd.R_below (xR b4.out) hb); replace a2 := ak (blk_below (g := a8) (o := .cells #[.slice g2 b2.length f8, .slice f5 b1.length f2] 27 (0, 0)) (xb a2.out) hb); replace a3 := ak (blk_below (g := a1) (o := .cells #[.slice e0 b0.length e1, .slice d4 a9.length d5] 27 (0, 0)) (xb a3.out) hb); replace HB := ak (below_step ze_0 hb); (try clear hb); (try clear hb2); (try clear hk); (try clear hi)))
    go_ret
    exact ⟨ze_14, ze_0⟩
   obtain rfl := Option.some.inj H
   go_enter Try.func9, Try.ntmps9
   try go_wp2_with (first | ((with_reducible refine gate_callee (f := 42) rfl ?_); refine gl_ (some 11) Try.func42 #[.slice A0 l0.length c0] ?_; (with_reducible refine (spec_DrawPartOf.calls k _ _ l0 b2 b1 d3 _ (y4 HR0.out) j7.out A3.out).mono ?_); rintro e w' ⟨i2, i3, rfl, ho0, ho1, hb⟩; refine ⟨_, rfl, ?_⟩; have a5 := ak (Kd.S_lower ho0 (below_size ze_2)); have a4 := ak (Kd.Q_lower ho1 (below_size ze_2)); replace HB := ak (below_step ze_2 hb); (try clear hb); (try clear hb2); (try clear hk); (try clear hi); (try clear ho0); (try clear ho1)) | ((with_reducible refine gate_dst (N := 3) rfl ?_); refine bx_ (N := 3) (cs := #[.slice none 0 0, .slice none 0 0]) (t := 27) ?_; intro a8 hg u9 hbox hb; replace a5 := ak (Kd.S_below (xS a5.out) hb); replace a4 := ak (Kd.Q_below (xQ a4.out) hb); have a2 := ak (hbox); have i0 := ak ((by rw [hg]; exact (below_size ze_2) : w.heap.size ≤ a8)); have h7 := ak ((by rw [hg]; exact (below_size ze_2) : w.heap.size ≤ a8)); replace HB := ak (below_step ze_2 hb); clear hb hbox hg; obtain ⟨g6, g3, n8⟩ := Kd.S_slice a5.out; subst n8; have d6 := cz20 a2.out; have d7 := cz21 a2.out; have d8 := blk_frozen a2.out 0; have d9 := blk_frozen a2.out 1; obtain ⟨f9, f6, n9, _⟩ := Kd.Q_slice a4.out; subst n9) | ((with_reducible refine gate_callee (f := 41) rfl ?_); refine gl_ (some 16) Try.func41 #[.agg #[.slice g6 b2.length g3, .slice f9 b1.length f6], .int .i64 d3] ?_; (with_reducible refine (impl_PartOf.calls _ _ b2 _ _ b1 d3 b0 a9 _ (by refine (Kd.S_reads' (e := 25) (base := w.heap.size) (ok := fun k_ => some k_ ≠ (.slice f9 b1.length f6 : Value).ownBlock) (n := b2.length) (c := g3) ?_).2.2; exact ze_11) (y2 a5.out) (by refine (Kd.Q_reads' (e := 3) (base := w.heap.size) (ok := fun k_ => True) (n := b1.length) (c := f6) ?_).2.2; exact ze_6) (y2 a4.out) A4.out).mono ?_); rintro e w' ⟨i4, i5, rfl, ho0, ho1, hb⟩; refine ⟨_, rfl, ?_⟩; have a7 := ak (Kd.S_lower (Kd.S_new' (Kd.S_new' ho0 (Kd.S_lt ze_11)) (Kd.Q_lt ze_6)) (below_size ze_1)); replace a5 := ak (Kd.S_mono (Kd.S_told (Kd.S_told (Kd.S_old ze_11 hb) (Kd.S_base ho0)) (Kd.R_base ho1)) (fun _ h_ => h_.1)); have a6 := ak (Kd.R_lower (Kd.R_new' ho1 (Kd.Q_lt ze_6)) (below_size ze_1)); replace a4 := ak (Kd.Q_elder' ze_6 (Kd.R_base ho1) hb); replace a2 := ak (blk_below (g := a8) (o := .cells #[.slice g6 b2.length g3, .slice f9 b1.length f6] 27 (0, 0)) (by (with_reducible repeat (first | refine blk_drewN ?_ _ | refine blk_drew ?_ | refine blk_alloc ?_ _)); refine blk_put (cs := #[.slice g6 b2.length g3, .slice none 0 0]) ?_ 1 _ rfl; (with_reducible repeat (first | refine blk_drewN ?_ _ | refine blk_drew ?_ | refine blk_alloc ?_ _)); refine blk_put (cs := #[.slice none 0 0, .slice none 0 0]) ?_ 0 _ rfl; (with_reducible repeat (first | refine blk_drewN ?_ _ | refine blk_drew ?_ | refine blk_alloc ?_ _)); exact a2.out) hb); replace HB := ak (below_step ze_1 hb); (try clear hb); (try clear hb2); (try clear hk); (try clear hi); (try clear ho0); (try clear ho1)) | ((with_reducible refine gate_dst (N := 5) rfl ?_); refine bx_ (N := 5) (cs := #[.slice none 0 0, .slice none 0 0]) (t := 27) ?_; intro a1 hg j1 hbox hb; replace a5 := ak (Kd.S_below (xS a5.out) hb); replace a4 := ak (Kd.Q_below (xQ a4.out) hb); replace a7 := ak (Kd.S_below (xS a7.out) hb); replace a6 := ak (Kd.R_below (xR a6.out) hb); have a3 := ak (hbox); have i1 := ak ((by rw [hg]; exact (below_size ze_1) : w.heap.size ≤ a1)); have h8 := ak ((by rw [hg]; exact (below_size ze_1) : w.heap.size ≤ a1)); replace HB := ak (below_step ze_1 hb); have b5 := ak ((by rw [hg]; exact Nat.ne_of_lt (blk_lt (g := a8) (o := .cells #[.slice g6 b2.length g3, .slice f9 b1.length f6] 27 (0, 0)) (xb a2.out)) : a8 ≠ a1)); have b6 := ak ((by rw [hg]; exact Nat.ne_of_gt (blk_lt (g := a8) (o := .cells #[.slice g6 b2.length g3, .slice f9 b1.length f6] 27 (0, 0)) (xb a2.out)) : a1 ≠ a8)); replace a2 := ak (blk_below (g := a8) (o := .cells #[.slice g6 b2.length g3, .slice f9 b1.length f6] 27 (0, 0)) (xb a2.out) hb); clear hb hbox hg; obtain ⟨e4, e5, o0⟩ := Kd.S_slice a7.out; subst o0; have s3 := b6.out; have s4 := b5.out; have d6 := cz20 a3.out; have d7 := cz21 a3.out; have d8 := blk_frozen a3.out 0; have d9 := blk_frozen a3.out 1; obtain ⟨e2, e3, o1⟩ := Kd.R_slice a6.out; subst o1))
   have n0_ : Aside0 (Kd.S (Kd.slice 3 (Kd.int .i64)) 25 ((j1.setCell ⟨a1, 0, none⟩ (.slice e4 b0.length e5)).setCell ⟨a1, 1, none⟩ (.slice e2 a9.length e3)) w.heap.size (fun k_ => some k_ ≠ (.slice f9 b1.length f6 : Value).ownBlock ∧ some k_ ≠ (.slice e4 b0.length e5 : Value).ownBlock ∧ some k_ ≠ (.slice e2 a9.length e3 : Value).ownBlock) (.slice g6 b2.length g3) b2) := ⟨(by (with_reducible repeat (first | apply Kd.S_alloc | apply Kd.S_drewN | apply Kd.S_drew)); exact Kd.S_mono (Kd.S_far (p := ⟨a1, 1, none⟩) (Kd.S_far (p := ⟨a1, 0, none⟩) (Kd.S_types a5.out a3.out (by decide)) (fun _ hk => hk.2) (.slice e4 b0.length e5)) (fun _ hk => hk.2) (.slice e2 a9.length e3)) (fun _ hk => ⟨hk.1.1.1, ⟨hk.1.1.2, hk.1.2⟩⟩))⟩
   have n1_ : Aside0 (Kd.Q (Kd.int .i64) 3 ((j1.setCell ⟨a1, 0, none⟩ (.slice e4 b0.length e5)).setCell ⟨a1, 1, none⟩ (.slice e2 a9.length e3)) w.heap.size (fun k_ => some k_ ≠ (.slice e2 a9.length e3 : Value).ownBlock) (.slice f9 b1.length f6) b1) := ⟨(by (with_reducible repeat (first | apply Kd.Q_alloc | apply Kd.Q_drewN | apply Kd.Q_drew)); exact Kd.Q_mono (Kd.Q_far (p := ⟨a1, 1, none⟩) (Kd.Q_far (p := ⟨a1, 0, none⟩) (Kd.Q_types a4.out a3.out (by decide)) (fun _ hk => hk.2) (.slice e4 b0.length e5)) (fun _ hk => hk.2) (.slice e2 a9.length e3)) (fun _ hk => hk.1.2))⟩
   have n2_ : Aside0 (Kd.S (Kd.slice 3 (Kd.int .i64)) 25 ((j1.setCell ⟨a1, 0, none⟩ (.slice e4 b0.length e5)).setCell ⟨a1, 1, none⟩ (.slice e2 a9.length e3)) w.heap.size (fun k_ => some k_ ≠ (.slice g6 b2.length g3 : Value).ownBlock ∧ some k_ ≠ (.slice f9 b1.length f6 : Value).ownBlock ∧ some k_ ≠ (.slice e2 a9.length e3 : Value).ownBlock) (.slice e4 b0.length e5) b0) := ⟨(by (with_reducible repeat (first | apply Kd.S_alloc | apply Kd.S_drewN | apply Kd.S_drew)); exact Kd.S_mono (Kd.S_far (p := ⟨a1, 1, none⟩) (Kd.S_far (p := ⟨a1, 0, none⟩) (Kd.S_types a7.out a3.out (by decide)) (fun _ hk => hk.2) (.slice e4 b0.length e5)) (fun _ hk => hk.2) (.slice e2 a9.length e3)) (fun _ hk => ⟨hk.1.1.2, ⟨hk.1.2, hk.1.1.1⟩⟩))⟩
   have n3_ : Aside0 (Kd.R (Kd.int .i64) 3 ((j1.setCell ⟨a1, 0, none⟩ (.slice e4 b0.length e5)).setCell ⟨a1, 1, none⟩ (.slice e2 a9.length e3)) w.heap.size (fun k_ => some k_ ≠ (.slice f9 b1.length f6 : Value).ownBlock) (.slice e2 a9.length e3) a9) := ⟨(by (with_reducible repeat (first | apply Kd.R_alloc | apply Kd.R_drewN | apply Kd.R_drew)); exact Kd.R_mono (Kd.R_far (p := ⟨a1, 1, none⟩) (Kd.R_far (p := ⟨a1, 0, none⟩) (Kd.R_types a6.out a3.out (by decide)) (fun _ hk => hk.2) (.slice e4 b0.length e5)) (fun _ hk => hk.2) (.slice e2 a9.length e3)) (fun _ hk => hk.1.2))⟩
   have n4_ : Aside0 (((j1.setCell ⟨a1, 0, none⟩ (.slice e4 b0.length e5)).setCell ⟨a1, 1, none⟩ (.slice e2 a9.length e3)).heap[a8]? = some (.cells #[.slice g6 b2.length g3, .slice f9 b1.length f6] 27 (0, 0))) := ⟨ze_3⟩
   have n5_ : Aside0 (((j1.setCell ⟨a1, 0, none⟩ (.slice e4 b0.length e5)).setCell ⟨a1, 1, none⟩ (.slice e2 a9.length e3)).heap[a1]? = some (.cells #[.slice e4 b0.length e5, .slice e2 a9.length e3] 27 (0, 0))) := ⟨(by (with_reducible repeat (first | refine blk_drewN ?_ _ | refine blk_drew ?_ | refine blk_alloc ?_ _)); refine blk_put (cs := #[.slice e4 b0.length e5, .slice none 0 0]) ?_ 1 _ rfl; (with_reducible repeat (first | refine blk_drewN ?_ _ | refine blk_drew ?_ | refine blk_alloc ?_ _)); refine blk_put (cs := #[.slice none 0 0, .slice none 0 0]) ?_ 0 _ rfl; (with_reducible repeat (first | refine blk_drewN ?_ _ | refine blk_drew ?_ | refine blk_alloc ?_ _)); exact a3.out)⟩
   have n6_ : Aside0 (Below w.heap.size w ((j1.setCell ⟨a1, 0, none⟩ (.slice e4 b0.length e5)).setCell ⟨a1, 1, none⟩ (.slice e2 a9.length e3))) := ⟨ze_0⟩
   (try clear a5)
   (try clear a4)
   (try clear a7)
   (try clear a6)
   (try clear a2)
   (try clear a3)
   (try clear HB)
   generalize ((j1.setCell ⟨a1, 0, none⟩ (.slice e4 b0.length e5)).setCell ⟨a1, 1, none⟩ (.slice e2 a9.length e3)) = u1 at n0_ n1_ n2_ n3_ n4_ n5_ n6_ ⊢
   have a5 := n0_
   have a4 := n1_
   have a7 := n2_
   have a6 := n3_
   have a2 := n4_
   have a3 := n5_
   have HB := n6_
   clear n0_ n1_ n2_ n3_ n4_ n5_ n6_
   replace a5 := ak (Kd.S_drew a5.out)
   replace a4 := ak (Kd.Q_drew a4.out)
   replace a7 := ak (Kd.S_drew a7.out)
   replace a6 := ak (Kd.R_drew a6.out)
   replace a2 := ak (blk_drew a2.out)
   replace a3 := ak (blk_drew a3.out)
   replace HB := ak (below_drew1 HB.out)
   refine start_ (n := 6) (S := fun w' => w'.cell? ⟨a1, 0, none⟩ = some (.slice e4 b0.length e5) ∧ w'.cell? ⟨a1, 1, none⟩ = some (.slice e2 a9.length e3) ∧ w'.cell? ⟨a8, 0, none⟩ = some (.slice g6 b2.length g3) ∧ w'.cell? ⟨a8, 1, none⟩ = some (.slice f9 b1.length f6)) (ds := []) (bA 6 0) ze_15 rfl rfl ⟨(blk_cell a3.out 0).trans rfl, (blk_cell a3.out 1).trans rfl, (blk_cell a2.out 0).trans rfl, (blk_cell a2.out 1).trans rfl⟩ (fun hHeld => ?_)
   generalize u1.drew = v0 at a5 a4 a7 a6 a2 a3 HB hHeld ⊢
   refine pu_ (i := 2) (N := some 19) (bA 6 4) ?_
   refine tk_ (i := 0) (N := some 17) (bA 6 5) ?_
   refine tk_ (i := 1) (N := some 18) (bA 6 7) ?_
   refine one_ (i := 3) (N := some 20) (bA 6 15) rfl rfl ze_15 (by decide) (fun K hK => ?_)
   refine ge_ Try.func43 #[.agg #[.slice g6 b2.length g3, .slice f9 b1.length f6], .int .i64 d3] ?_
   with_reducible refine (spec_PartOf.calls k _ _ b2 _ _ b1 d3 h3 h4 _ ?side1 ?side2 ?side3 ?side4 A5.out).mono ?_
   (case side1 => repeat (first | exact (Kd.S_reads' a5.out).2.2 | (with_reducible refine Kd.C_alloc ?_ _) | (with_reducible refine Kd.C_drewN ?_ _) | (with_reducible refine Kd.C_drew ?_)))
   (case side2 => exact (Kd.S_reads' a5.out).2.1)
   (case side3 => repeat (first | exact (Kd.Q_reads' a4.out).2.2 | (with_reducible refine Kd.C_alloc ?_ _) | (with_reducible refine Kd.C_drewN ?_ _) | (with_reducible refine Kd.C_drew ?_)))
   (case side4 => exact (Kd.Q_reads' a4.out).2.1)
   rintro e w' ⟨i6, i7, rfl, ho0, ho1, hb⟩
   refine ⟨_, rfl, ?_⟩
   have b3 := ak (Kd.S_lower (Kd.S_new' (Kd.S_new' (Kd.S_new' (Kd.S_new' ho0 (Kd.S_lt (xS a5.out))) (Kd.Q_lt (xQ a4.out))) (Kd.S_lt (xS a7.out))) (Kd.R_lt (xR a6.out))) (below_size ze_0))
   replace a5 := ak (Kd.S_mono (Kd.S_told (Kd.S_told (Kd.S_old (xS a5.out) hb) (Kd.S_base ho0)) (Kd.R_base ho1)) (fun _ h_ => h_.1))
   replace a7 := ak (Kd.S_mono (Kd.S_told (Kd.S_told (Kd.S_old (xS a7.out) hb) (Kd.S_base ho0)) (Kd.R_base ho1)) (fun _ h_ => h_.1))
   have b4 := ak (Kd.R_lower (Kd.R_new' (Kd.R_new' ho1 (Kd.Q_lt (xQ a4.out))) (Kd.R_lt (xR a6.out))) (below_size ze_0))
   replace a4 := ak (Kd.Q_elder' (xQ a4.out) (Kd.R_base ho1) hb)
   replace a6 := ak (Kd.R_elder' (xR a6.out) (Kd.R_base ho1) hb)
   replace a2 := ak (blk_below (g := a8) (o := .cells #[.slice g6 b2.length g3, .slice f9 b1.length f6] 27 (0, 0)) (xb a2.out) hb)
   replace a3 := ak (blk_below (g := a1) (o := .cells #[.slice e4 b0.length e5, .slice e2 a9.length e3] 27 (0, 0)) (xb a3.out) hb)
   replace HB := ak (below_step ze_0 hb)
   (try clear hb)
   (try clear hb2)
   (try clear hk)
   (try clear hi)
   (try clear ho0)
   (try clear ho1)
   obtain ⟨o2, o3, k5⟩ := Kd.S_slice b3.out
   (first | subst k5 | (injection k5 with f1_ f2_ f3_; have f4_ := f1_.symm; have f5_ := f3_.symm; clear f1_ f2_ f3_; subst f4_; subst f5_))
   obtain ⟨o4, o5, k6⟩ := Kd.R_slice b4.out
   (first | subst k6 | (injection k6 with f1_ f2_ f3_; have f4_ := f1_.symm; have f5_ := f3_.symm; clear f1_ f2_ f3_; subst f4_; subst f5_))
   refine hK.out _ _ ⟨(blk_cell a3.out 0).trans rfl, (blk_cell a3.out 1).trans rfl, (blk_cell a2.out 0).trans rfl, (blk_cell a2.out 1).trans rfl⟩ (fun hHeld => ?_)
   clear hK K
   refine no_ (N := some 20) ?_
   refine one_ (i := 4) (N := some 21) (bA 6 31) rfl rfl ze_15 (by decide) (fun K hK => ?_)
   refine ge_ Try.func17 #[.agg #[.slice e4 b0.length e5, .slice e2 a9.length e3], .agg #[.slice o2 h3.length o3, .slice o4 h4.length o5]] ?_
   with_reducible refine (laws_sameLogic.calls k _ _ b0 _ _ a9 _ _ h3 _ _ h4 true _ ?side1 ?side2 ?side3 ?side4 ?side5 ?side6 ?side7 ?side8 A6.out).mono ?_
   (case side1 => repeat (first | exact (Kd.S_reads' a7.out).2.2 | (with_reducible refine Kd.C_alloc ?_ _) | (with_reducible refine Kd.C_drewN ?_ _) | (with_reducible refine Kd.C_drew ?_)))
   (case side2 => exact (Kd.S_reads' a7.out).2.1)
   (case side3 => repeat (first | exact (Kd.R_reads' a6.out).2.2 | (with_reducible refine Kd.C_alloc ?_ _) | (with_reducible refine Kd.C_drewN ?_ _) | (with_reducible refine Kd.C_drew ?_)))
   (case side4 => exact (Kd.R_reads' a6.out).2.1)
   (case side5 => repeat (first | exact (Kd.S_reads' b3.out).2.2 | (with_reducible refine Kd.C_alloc ?_ _) | (with_reducible refine Kd.C_drewN ?_ _) | (with_reducible refine Kd.C_drew ?_)))
   (case side6 => exact (Kd.S_reads' b3.out).2.1)
   (case side7 => repeat (first | exact (Kd.R_reads' b4.out).2.2 | (with_reducible refine Kd.C_alloc ?_ _) | (with_reducible refine Kd.C_drewN ?_ _) | (with_reducible refine Kd.C_drew ?_)))
   (case side8 => exact (Kd.R_reads' b4.out).2.1)
   rintro e w' ⟨rfl, hb⟩
   refine ⟨_, rfl, ?_⟩
   replace a5 := ak (Kd.S_below (xS a5.out) hb)
   replace a4 := ak (Kd.Q_below (xQ a4.out) hb)
   replace a7 := ak (Kd.S_below (xS a7.out) hb)
   replace a6 := ak (Kd.R_below (xR a6.out) hb)
   replace b3 := ak (Kd.S_below (xS b3.out) hb)
   replace b4 := ak (Kd.R_below (xR b4.out) hb)
   replace a2 := ak (blk_below (g := a8) (o := .cells #[.slice g6 b2.length g3, .slice f9 b1.length f6] 27 (0, 0)) (xb a2.out) hb)
   replace a3 := ak (blk_below (g := a1) (o := .cells #[.slice e4 b0.length e5, .slice e2 a9.length e3] 27 (0, 0)) (xb a3.out) hb)
   replace HB := ak (below_step ze_0 hb)
   (try clear hb)
   (try clear hb2)
   (try clear hk)
   (try clear hi)
   refine hK.out _ _ ⟨(blk_cell a3.out 0).trans rfl, (blk_cell a3.out 1).trans rfl, (blk_cell a2.out 0).trans rfl, (blk_cell a2.out 1).trans rfl⟩ (fun hHeld => ?_)
   clear hK K
   refine no_ (N := some 21) ?_
   refine pu_ (i := 5) (N := some 22) (bA 6 63) ?_
   refine done_ ze_15 ?_
   have d6 := cz20 a3.out
   have d7 := cz21 a3.out
   have d8 := blk_frozen a3.out 0
   have d9 := blk_frozen a3.out 1
   try go_wp2_with (first | ((with_reducible refine gate_callee (f := 20) rfl ?_); refine gl_ (some 29) Try.func20 #[.agg #[.slice e4 b0.length e5, .slice e2 a9.length e3]] ?_; (with_reducible refine (impl_LogicOk.calls _ _ b0 _ _ a9 true _ (y1 a7.out) (y2 a7.out) (y1 a6.out) (y2 a6.out) m9.out).mono ?_); rintro e w' ⟨rfl, hb⟩; refine ⟨_, rfl, ?_⟩; replace a5 := ak (Kd.S_below (xS a5.out) hb); replace a4 := ak (Kd.Q_below (xQ a4.out) hb); replace a7 := ak (Kd.S_below (xS a7.out) hb); replace a6 := ak (Kd.R_below (xR a6.out) hb); replace b3 := ak (Kd.S_below (xS b3.out) hb); replace b4 := ak (Kd.R_below (xR b4.out) hb); replace a2 := ak (blk_below (g := a8) (o := .cells #[.slice g6 b2.length g3, .slice f9 b1.length f6] 27 (0, 0)) (xb a2.out) hb); replace a3 := ak (blk_below (g := a1) (o := .cells #[.slice e4 b0.length e5, .slice e2 a9.length e3] 27 (0, 0)) (xb a3.out) hb); replace HB := ak (below_step ze_0 hb); (try clear hb); (try clear hb2); (try clear hk); (try clear hi); have d6 := cz20 a2.out; have d7 := cz21 a2.out; have d8 := blk_frozen a2.out 0; have d9 := blk_frozen a2.out 1) | (go_at_call 26; (with_reducible refine (impl_KeepsOk.calls _ _ b2 _ _ b1 false _ (y1 a5.out) (y2 a5.out) (y1 a4.out) (y2 a4.out) s0.out).mono ?_); rintro e w' ⟨rfl, hb⟩; replace a5 := ak (Kd.S_below (xS a5.out) hb); replace a4 := ak (Kd.Q_below (xQ a4.out) hb); replace a7 := ak (Kd.S_below (xS a7.out) hb); replace a6 := ak (Kd.R_below (xR a6.out) hb); replace b3 := ak (Kd.S_below (xS b3.out) hb); replace b4 := ak (Kd.R_below (xR b4.out) hb); replace a2 := ak (blk_below (g := a8) (o := .cells #[.slice g6 b2.length g3, .slice f9 b1.length f6] 27 (0, 0)) (xb a2.out) hb); replace a3 := ak (blk_below (g := a1) (o := .cells #[.slice e4 b0.length e5, .slice e2 a9.length e3] 27 (0, 0)) (xb a3.out) hb); replace HB := ak (below_step ze_0 hb); (try clear hb); (try clear hb2); (try clear hk); (try clear hi)))
   go_ret
   exact ⟨ze_14, ze_0⟩
  obtain rfl := Option.some.inj H
  go_enter Try.func9, Try.ntmps9
  try go_wp2_with (first | ((with_reducible refine gate_callee (f := 42) rfl ?_); refine gl_ (some 11) Try.func42 #[.slice A0 l0.length c0] ?_; (with_reducible refine (spec_DrawPartOf.calls k _ _ l0 b2 b1 d3 _ (y4 HR0.out) j7.out A3.out).mono ?_); rintro e w' ⟨i2, i3, rfl, ho0, ho1, hb⟩; refine ⟨_, rfl, ?_⟩; have a5 := ak (Kd.S_lower ho0 (below_size ze_2)); have a4 := ak (Kd.Q_lower ho1 (below_size ze_2)); replace HB := ak (below_step ze_2 hb); (try clear hb); (try clear hb2); (try clear hk); (try clear hi); (try clear ho0); (try clear ho1)) | ((with_reducible refine gate_dst (N := 3) rfl ?_); refine bx_ (N := 3) (cs := #[.slice none 0 0, .slice none 0 0]) (t := 27) ?_; intro a8 hg v1 hbox hb; replace a5 := ak (Kd.S_below (xS a5.out) hb); replace a4 := ak (Kd.Q_below (xQ a4.out) hb); have a2 := ak (hbox); have i0 := ak ((by rw [hg]; exact (below_size ze_2) : w.heap.size ≤ a8)); have h7 := ak ((by rw [hg]; exact (below_size ze_2) : w.heap.size ≤ a8)); replace HB := ak (below_step ze_2 hb); clear hb hbox hg; obtain ⟨g9, g7, o6⟩ := Kd.S_slice a5.out; subst o6; have d6 := cz20 a2.out; have d7 := cz21 a2.out; have d8 := blk_frozen a2.out 0; have d9 := blk_frozen a2.out 1; obtain ⟨g4, g0, o7, _⟩ := Kd.Q_slice a4.out; subst o7) | ((with_reducible refine gate_callee (f := 41) rfl ?_); refine gl_ (some 16) Try.func41 #[.agg #[.slice g9 b2.length g7, .slice g4 b1.length g0], .int .i64 d3] ?_; (with_reducible refine (impl_PartOf.calls _ _ b2 _ _ b1 d3 b0 a9 _ (by refine (Kd.S_reads' (e := 25) (base := w.heap.size) (ok := fun k_ => some k_ ≠ (.slice g4 b1.length g0 : Value).ownBlock) (n := b2.length) (c := g7) ?_).2.2; exact ze_10) (y2 a5.out) (by refine (Kd.Q_reads' (e := 3) (base := w.heap.size) (ok := fun k_ => True) (n := b1.length) (c := g0) ?_).2.2; exact ze_5) (y2 a4.out) A4.out).mono ?_); rintro e w' ⟨i4, i5, rfl, ho0, ho1, hb⟩; refine ⟨_, rfl, ?_⟩; have a7 := ak (Kd.S_lower (Kd.S_new' (Kd.S_new' ho0 (Kd.S_lt ze_10)) (Kd.Q_lt ze_5)) (below_size ze_1)); replace a5 := ak (Kd.S_mono (Kd.S_told (Kd.S_told (Kd.S_old ze_10 hb) (Kd.S_base ho0)) (Kd.R_base ho1)) (fun _ h_ => h_.1)); have a6 := ak (Kd.R_lower (Kd.R_new' ho1 (Kd.Q_lt ze_5)) (below_size ze_1)); replace a4 := ak (Kd.Q_elder' ze_5 (Kd.R_base ho1) hb); replace a2 := ak (blk_below (g := a8) (o := .cells #[.slice g9 b2.length g7, .slice g4 b1.length g0] 27 (0, 0)) (by (with_reducible repeat (first | refine blk_drewN ?_ _ | refine blk_drew ?_ | refine blk_alloc ?_ _)); refine blk_put (cs := #[.slice g9 b2.length g7, .slice none 0 0]) ?_ 1 _ rfl; (with_reducible repeat (first | refine blk_drewN ?_ _ | refine blk_drew ?_ | refine blk_alloc ?_ _)); refine blk_put (cs := #[.slice none 0 0, .slice none 0 0]) ?_ 0 _ rfl; (with_reducible repeat (first | refine blk_drewN ?_ _ | refine blk_drew ?_ | refine blk_alloc ?_ _)); exact a2.out) hb); replace HB := ak (below_step ze_1 hb); (try clear hb); (try clear hb2); (try clear hk); (try clear hi); (try clear ho0); (try clear ho1)) | ((with_reducible refine gate_dst (N := 5) rfl ?_); refine bx_ (N := 5) (cs := #[.slice none 0 0, .slice none 0 0]) (t := 27) ?_; intro a1 hg j2 hbox hb; replace a5 := ak (Kd.S_below (xS a5.out) hb); replace a4 := ak (Kd.Q_below (xQ a4.out) hb); replace a7 := ak (Kd.S_below (xS a7.out) hb); replace a6 := ak (Kd.R_below (xR a6.out) hb); have a3 := ak (hbox); have i1 := ak ((by rw [hg]; exact (below_size ze_1) : w.heap.size ≤ a1)); have h8 := ak ((by rw [hg]; exact (below_size ze_1) : w.heap.size ≤ a1)); replace HB := ak (below_step ze_1 hb); have b5 := ak ((by rw [hg]; exact Nat.ne_of_lt (blk_lt (g := a8) (o := .cells #[.slice g9 b2.length g7, .slice g4 b1.length g0] 27 (0, 0)) (xb a2.out)) : a8 ≠ a1)); have b6 := ak ((by rw [hg]; exact Nat.ne_of_gt (blk_lt (g := a8) (o := .cells #[.slice g9 b2.length g7, .slice g4 b1.length g0] 27 (0, 0)) (xb a2.out)) : a1 ≠ a8)); replace a2 := ak (blk_below (g := a8) (o := .cells #[.slice g9 b2.length g7, .slice g4 b1.length g0] 27 (0, 0)) (xb a2.out) hb); clear hb hbox hg; obtain ⟨f0, f1, o8⟩ := Kd.S_slice a7.out; subst o8; have s5 := b6.out; have s6 := b5.out; have d6 := cz20 a3.out; have d7 := cz21 a3.out; have d8 := blk_frozen a3.out 0; have d9 := blk_frozen a3.out 1; obtain ⟨e6, e7, o9⟩ := Kd.R_slice a6.out; subst o9))
  have n0_ : Aside0 (Kd.S (Kd.slice 3 (Kd.int .i64)) 25 ((j2.setCell ⟨a1, 0, none⟩ (.slice f0 b0.length f1)).setCell ⟨a1, 1, none⟩ (.slice e6 a9.length e7)) w.heap.size (fun k_ => some k_ ≠ (.slice g4 b1.length g0 : Value).ownBlock ∧ some k_ ≠ (.slice f0 b0.length f1 : Value).ownBlock ∧ some k_ ≠ (.slice e6 a9.length e7 : Value).ownBlock) (.slice g9 b2.length g7) b2) := ⟨(by (with_reducible repeat (first | apply Kd.S_alloc | apply Kd.S_drewN | apply Kd.S_drew)); exact Kd.S_mono (Kd.S_far (p := ⟨a1, 1, none⟩) (Kd.S_far (p := ⟨a1, 0, none⟩) (Kd.S_types a5.out a3.out (by decide)) (fun _ hk => hk.2) (.slice f0 b0.length f1)) (fun _ hk => hk.2) (.slice e6 a9.length e7)) (fun _ hk => ⟨hk.1.1.1, ⟨hk.1.1.2, hk.1.2⟩⟩))⟩
  have n1_ : Aside0 (Kd.Q (Kd.int .i64) 3 ((j2.setCell ⟨a1, 0, none⟩ (.slice f0 b0.length f1)).setCell ⟨a1, 1, none⟩ (.slice e6 a9.length e7)) w.heap.size (fun k_ => some k_ ≠ (.slice e6 a9.length e7 : Value).ownBlock) (.slice g4 b1.length g0) b1) := ⟨(by (with_reducible repeat (first | apply Kd.Q_alloc | apply Kd.Q_drewN | apply Kd.Q_drew)); exact Kd.Q_mono (Kd.Q_far (p := ⟨a1, 1, none⟩) (Kd.Q_far (p := ⟨a1, 0, none⟩) (Kd.Q_types a4.out a3.out (by decide)) (fun _ hk => hk.2) (.slice f0 b0.length f1)) (fun _ hk => hk.2) (.slice e6 a9.length e7)) (fun _ hk => hk.1.2))⟩
  have n2_ : Aside0 (Kd.S (Kd.slice 3 (Kd.int .i64)) 25 ((j2.setCell ⟨a1, 0, none⟩ (.slice f0 b0.length f1)).setCell ⟨a1, 1, none⟩ (.slice e6 a9.length e7)) w.heap.size (fun k_ => some k_ ≠ (.slice g9 b2.length g7 : Value).ownBlock ∧ some k_ ≠ (.slice g4 b1.length g0 : Value).ownBlock ∧ some k_ ≠ (.slice e6 a9.length e7 : Value).ownBlock) (.slice f0 b0.length f1) b0) := ⟨(by (with_reducible repeat (first | apply Kd.S_alloc | apply Kd.S_drewN | apply Kd.S_drew)); exact Kd.S_mono (Kd.S_far (p := ⟨a1, 1, none⟩) (Kd.S_far (p := ⟨a1, 0, none⟩) (Kd.S_types a7.out a3.out (by decide)) (fun _ hk => hk.2) (.slice f0 b0.length f1)) (fun _ hk => hk.2) (.slice e6 a9.length e7)) (fun _ hk => ⟨hk.1.1.2, ⟨hk.1.2, hk.1.1.1⟩⟩))⟩
  have n3_ : Aside0 (Kd.R (Kd.int .i64) 3 ((j2.setCell ⟨a1, 0, none⟩ (.slice f0 b0.length f1)).setCell ⟨a1, 1, none⟩ (.slice e6 a9.length e7)) w.heap.size (fun k_ => some k_ ≠ (.slice g4 b1.length g0 : Value).ownBlock) (.slice e6 a9.length e7) a9) := ⟨(by (with_reducible repeat (first | apply Kd.R_alloc | apply Kd.R_drewN | apply Kd.R_drew)); exact Kd.R_mono (Kd.R_far (p := ⟨a1, 1, none⟩) (Kd.R_far (p := ⟨a1, 0, none⟩) (Kd.R_types a6.out a3.out (by decide)) (fun _ hk => hk.2) (.slice f0 b0.length f1)) (fun _ hk => hk.2) (.slice e6 a9.length e7)) (fun _ hk => hk.1.2))⟩
  have n4_ : Aside0 (((j2.setCell ⟨a1, 0, none⟩ (.slice f0 b0.length f1)).setCell ⟨a1, 1, none⟩ (.slice e6 a9.length e7)).heap[a8]? = some (.cells #[.slice g9 b2.length g7, .slice g4 b1.length g0] 27 (0, 0))) := ⟨ze_3⟩
  have n5_ : Aside0 (((j2.setCell ⟨a1, 0, none⟩ (.slice f0 b0.length f1)).setCell ⟨a1, 1, none⟩ (.slice e6 a9.length e7)).heap[a1]? = some (.cells #[.slice f0 b0.length f1, .slice e6 a9.length e7] 27 (0, 0))) := ⟨(by (with_reducible repeat (first | refine blk_drewN ?_ _ | refine blk_drew ?_ | refine blk_alloc ?_ _)); refine blk_put (cs := #[.slice f0 b0.length f1, .slice none 0 0]) ?_ 1 _ rfl; (with_reducible repeat (first | refine blk_drewN ?_ _ | refine blk_drew ?_ | refine blk_alloc ?_ _)); refine blk_put (cs := #[.slice none 0 0, .slice none 0 0]) ?_ 0 _ rfl; (with_reducible repeat (first | refine blk_drewN ?_ _ | refine blk_drew ?_ | refine blk_alloc ?_ _)); exact a3.out)⟩
  have n6_ : Aside0 (Below w.heap.size w ((j2.setCell ⟨a1, 0, none⟩ (.slice f0 b0.length f1)).setCell ⟨a1, 1, none⟩ (.slice e6 a9.length e7))) := ⟨ze_0⟩
  (try clear a5)
  (try clear a4)
  (try clear a7)
  (try clear a6)
  (try clear a2)
  (try clear a3)
  (try clear HB)
  generalize ((j2.setCell ⟨a1, 0, none⟩ (.slice f0 b0.length f1)).setCell ⟨a1, 1, none⟩ (.slice e6 a9.length e7)) = u2 at n0_ n1_ n2_ n3_ n4_ n5_ n6_ ⊢
  have a5 := n0_
  have a4 := n1_
  have a7 := n2_
  have a6 := n3_
  have a2 := n4_
  have a3 := n5_
  have HB := n6_
  clear n0_ n1_ n2_ n3_ n4_ n5_ n6_
  replace a5 := ak (Kd.S_drew a5.out)
  replace a4 := ak (Kd.Q_drew a4.out)
  replace a7 := ak (Kd.S_drew a7.out)
  replace a6 := ak (Kd.R_drew a6.out)
  replace a2 := ak (blk_drew a2.out)
  replace a3 := ak (blk_drew a3.out)
  replace HB := ak (below_drew1 HB.out)
  refine start_ (n := 6) (S := fun w' => w'.cell? ⟨a1, 0, none⟩ = some (.slice f0 b0.length f1) ∧ w'.cell? ⟨a1, 1, none⟩ = some (.slice e6 a9.length e7) ∧ w'.cell? ⟨a8, 0, none⟩ = some (.slice g9 b2.length g7) ∧ w'.cell? ⟨a8, 1, none⟩ = some (.slice g4 b1.length g0)) (ds := []) (bA 6 0) ze_15 rfl rfl ⟨(blk_cell a3.out 0).trans rfl, (blk_cell a3.out 1).trans rfl, (blk_cell a2.out 0).trans rfl, (blk_cell a2.out 1).trans rfl⟩ (fun hHeld => ?_)
  generalize u2.drew = v2 at a5 a4 a7 a6 a2 a3 HB hHeld ⊢
  refine pu_ (i := 2) (N := some 19) (bA 6 4) ?_
  refine tk_ (i := 0) (N := some 17) (bA 6 5) ?_
  refine tk_ (i := 1) (N := some 18) (bA 6 7) ?_
  refine one_ (i := 3) (N := some 20) (bA 6 15) rfl rfl ze_15 (by decide) (fun K hK => ?_)
  refine ge_ Try.func43 #[.agg #[.slice g9 b2.length g7, .slice g4 b1.length g0], .int .i64 d3] ?_
  with_reducible refine (spec_PartOf.calls k _ _ b2 _ _ b1 d3 h3 h4 _ ?side1 ?side2 ?side3 ?side4 A5.out).mono ?_
  (case side1 => repeat (first | exact (Kd.S_reads' a5.out).2.2 | (with_reducible refine Kd.C_alloc ?_ _) | (with_reducible refine Kd.C_drewN ?_ _) | (with_reducible refine Kd.C_drew ?_)))
  (case side2 => exact (Kd.S_reads' a5.out).2.1)
  (case side3 => repeat (first | exact (Kd.Q_reads' a4.out).2.2 | (with_reducible refine Kd.C_alloc ?_ _) | (with_reducible refine Kd.C_drewN ?_ _) | (with_reducible refine Kd.C_drew ?_)))
  (case side4 => exact (Kd.Q_reads' a4.out).2.1)
  rintro e w' ⟨i6, i7, rfl, ho0, ho1, hb⟩
  refine ⟨_, rfl, ?_⟩
  have b3 := ak (Kd.S_lower (Kd.S_new' (Kd.S_new' (Kd.S_new' (Kd.S_new' ho0 (Kd.S_lt (xS a5.out))) (Kd.Q_lt (xQ a4.out))) (Kd.S_lt (xS a7.out))) (Kd.R_lt (xR a6.out))) (below_size ze_0))
  replace a5 := ak (Kd.S_mono (Kd.S_told (Kd.S_told (Kd.S_old (xS a5.out) hb) (Kd.S_base ho0)) (Kd.R_base ho1)) (fun _ h_ => h_.1))
  replace a7 := ak (Kd.S_mono (Kd.S_told (Kd.S_told (Kd.S_old (xS a7.out) hb) (Kd.S_base ho0)) (Kd.R_base ho1)) (fun _ h_ => h_.1))
  have b4 := ak (Kd.R_lower (Kd.R_new' (Kd.R_new' ho1 (Kd.Q_lt (xQ a4.out))) (Kd.R_lt (xR a6.out))) (below_size ze_0))
  replace a4 := ak (Kd.Q_elder' (xQ a4.out) (Kd.R_base ho1) hb)
  replace a6 := ak (Kd.R_elder' (xR a6.out) (Kd.R_base ho1) hb)
  replace a2 := ak (blk_below (g := a8) (o := .cells #[.slice g9 b2.length g7, .slice g4 b1.length g0] 27 (0, 0)) (xb a2.out) hb)
  replace a3 := ak (blk_below (g := a1) (o := .cells #[.slice f0 b0.length f1, .slice e6 a9.length e7] 27 (0, 0)) (xb a3.out) hb)
  replace HB := ak (below_step ze_0 hb)
  (try clear hb)
  (try clear hb2)
  (try clear hk)
  (try clear hi)
  (try clear ho0)
  (try clear ho1)
  obtain ⟨q0, q1, k7⟩ := Kd.S_slice b3.out
  (first | subst k7 | (injection k7 with f1_ f2_ f3_; have f4_ := f1_.symm; have f5_ := f3_.symm; clear f1_ f2_ f3_; subst f4_; subst f5_))
  obtain ⟨q2, q3, k8⟩ := Kd.R_slice b4.out
  (first | subst k8 | (injection k8 with f1_ f2_ f3_; have f4_ := f1_.symm; have f5_ := f3_.symm; clear f1_ f2_ f3_; subst f4_; subst f5_))
  refine hK.out _ _ ⟨(blk_cell a3.out 0).trans rfl, (blk_cell a3.out 1).trans rfl, (blk_cell a2.out 0).trans rfl, (blk_cell a2.out 1).trans rfl⟩ (fun hHeld => ?_)
  clear hK K
  refine no_ (N := some 20) ?_
  refine one_ (i := 4) (N := some 21) (bA 6 31) rfl rfl ze_15 (by decide) (fun K hK => ?_)
  refine ge_ Try.func17 #[.agg #[.slice f0 b0.length f1, .slice e6 a9.length e7], .agg #[.slice q0 h3.length q1, .slice q2 h4.length q3]] ?_
  with_reducible refine (laws_sameLogic.calls k _ _ b0 _ _ a9 _ _ h3 _ _ h4 true _ ?side1 ?side2 ?side3 ?side4 ?side5 ?side6 ?side7 ?side8 A6.out).mono ?_
  (case side1 => repeat (first | exact (Kd.S_reads' a7.out).2.2 | (with_reducible refine Kd.C_alloc ?_ _) | (with_reducible refine Kd.C_drewN ?_ _) | (with_reducible refine Kd.C_drew ?_)))
  (case side2 => exact (Kd.S_reads' a7.out).2.1)
  (case side3 => repeat (first | exact (Kd.R_reads' a6.out).2.2 | (with_reducible refine Kd.C_alloc ?_ _) | (with_reducible refine Kd.C_drewN ?_ _) | (with_reducible refine Kd.C_drew ?_)))
  (case side4 => exact (Kd.R_reads' a6.out).2.1)
  (case side5 => repeat (first | exact (Kd.S_reads' b3.out).2.2 | (with_reducible refine Kd.C_alloc ?_ _) | (with_reducible refine Kd.C_drewN ?_ _) | (with_reducible refine Kd.C_drew ?_)))
  (case side6 => exact (Kd.S_reads' b3.out).2.1)
  (case side7 => repeat (first | exact (Kd.R_reads' b4.out).2.2 | (with_reducible refine Kd.C_alloc ?_ _) | (with_reducible refine Kd.C_drewN ?_ _) | (with_reducible refine Kd.C_drew ?_)))
  (case side8 => exact (Kd.R_reads' b4.out).2.1)
  rintro e w' ⟨rfl, hb⟩
  refine ⟨_, rfl, ?_⟩
  replace a5 := ak (Kd.S_below (xS a5.out) hb)
  replace a4 := ak (Kd.Q_below (xQ a4.out) hb)
  replace a7 := ak (Kd.S_below (xS a7.out) hb)
  replace a6 := ak (Kd.R_below (xR a6.out) hb)
  replace b3 := ak (Kd.S_below (xS b3.out) hb)
  replace b4 := ak (Kd.R_below (xR b4.out) hb)
  replace a2 := ak (blk_below (g := a8) (o := .cells #[.slice g9 b2.length g7, .slice g4 b1.length g0] 27 (0, 0)) (xb a2.out) hb)
  replace a3 := ak (blk_below (g := a1) (o := .cells #[.slice f0 b0.length f1, .slice e6 a9.length e7] 27 (0, 0)) (xb a3.out) hb)
  replace HB := ak (below_step ze_0 hb)
  (try clear hb)
  (try clear hb2)
  (try clear hk)
  (try clear hi)
  refine hK.out _ _ ⟨(blk_cell a3.out 0).trans rfl, (blk_cell a3.out 1).trans rfl, (blk_cell a2.out 0).trans rfl, (blk_cell a2.out 1).trans rfl⟩ (fun hHeld => ?_)
  clear hK K
  refine no_ (N := some 21) ?_
  refine pu_ (i := 5) (N := some 22) (bA 6 63) ?_
  refine done_ ze_15 ?_
  have d6 := cz20 a3.out
  have d7 := cz21 a3.out
  have d8 := blk_frozen a3.out 0
  have d9 := blk_frozen a3.out 1
  try go_wp2_with (first | ((with_reducible refine gate_callee (f := 20) rfl ?_); refine gl_ (some 29) Try.func20 #[.agg #[.slice f0 b0.length f1, .slice e6 a9.length e7]] ?_; (with_reducible refine (impl_LogicOk.calls _ _ b0 _ _ a9 false _ (y1 a7.out) (y2 a7.out) (y1 a6.out) (y2 a6.out) m9.out).mono ?_); rintro e w' ⟨rfl, hb⟩; refine ⟨_, rfl, ?_⟩; replace a5 := ak (Kd.S_below (xS a5.out) hb); replace a4 := ak (Kd.Q_below (xQ a4.out) hb); replace a7 := ak (Kd.S_below (xS a7.out) hb); replace a6 := ak (Kd.R_below (xR a6.out) hb); replace b3 := ak (Kd.S_below (xS b3.out) hb); replace b4 := ak (Kd.R_below (xR b4.out) hb); replace a2 := ak (blk_below (g := a8) (o := .cells #[.slice g9 b2.length g7, .slice g4 b1.length g0] 27 (0, 0)) (xb a2.out) hb); replace a3 := ak (blk_below (g := a1) (o := .cells #[.slice f0 b0.length f1, .slice e6 a9.length e7] 27 (0, 0)) (xb a3.out) hb); replace HB := ak (below_step ze_0 hb); (try clear hb); (try clear hb2); (try clear hk); (try clear hi)))
  go_ret
  exact ⟨ze_14, ze_0⟩
 obtain rfl := Option.some.inj H
 go_enter Try.func9, Try.ntmps9
 try go_wp2_with (first | ((with_reducible refine gate_callee (f := 42) rfl ?_); refine gl_ (some 11) Try.func42 #[.slice A0 l0.length c0] ?_; (with_reducible refine (spec_DrawPartOf.calls k _ _ l0 b2 b1 d3 _ (y4 HR0.out) j7.out A3.out).mono ?_); rintro e w' ⟨i2, i3, rfl, ho0, ho1, hb⟩; refine ⟨_, rfl, ?_⟩; have a5 := ak (Kd.S_lower ho0 (below_size ze_2)); have a4 := ak (Kd.Q_lower ho1 (below_size ze_2)); replace HB := ak (below_step ze_2 hb); (try clear hb); (try clear hb2); (try clear hk); (try clear hi); (try clear ho0); (try clear ho1)) | ((with_reducible refine gate_dst (N := 3) rfl ?_); refine bx_ (N := 3) (cs := #[.slice none 0 0, .slice none 0 0]) (t := 27) ?_; intro a8 hg v3 hbox hb; replace a5 := ak (Kd.S_below (xS a5.out) hb); replace a4 := ak (Kd.Q_below (xQ a4.out) hb); have a2 := ak (hbox); have i0 := ak ((by rw [hg]; exact (below_size ze_2) : w.heap.size ≤ a8)); have h7 := ak ((by rw [hg]; exact (below_size ze_2) : w.heap.size ≤ a8)); replace HB := ak (below_step ze_2 hb); clear hb hbox hg; obtain ⟨h2, h0, q4⟩ := Kd.S_slice a5.out; subst q4; have d6 := cz20 a2.out; have d7 := cz21 a2.out; have d8 := blk_frozen a2.out 0; have d9 := blk_frozen a2.out 1; obtain ⟨d2, d1, k9, _⟩ := Kd.Q_slice a4.out; subst k9) | ((with_reducible refine gate_callee (f := 41) rfl ?_); refine gl_ (some 16) Try.func41 #[.agg #[.slice h2 b2.length h0, .slice d2 b1.length d1], .int .i64 d3] ?_; (with_reducible refine (impl_PartOf.calls _ _ b2 _ _ b1 d3 b0 a9 _ (by refine (Kd.S_reads' (e := 25) (base := w.heap.size) (ok := fun k_ => some k_ ≠ (.slice d2 b1.length d1 : Value).ownBlock) (n := b2.length) (c := h0) ?_).2.2; exact ze_9) (y2 a5.out) (by refine (Kd.Q_reads' (e := 3) (base := w.heap.size) (ok := fun k_ => True) (n := b1.length) (c := d1) ?_).2.2; exact ze_4) (y2 a4.out) A4.out).mono ?_); rintro e w' ⟨i4, i5, rfl, ho0, ho1, hb⟩; refine ⟨_, rfl, ?_⟩; have a7 := ak (Kd.S_lower (Kd.S_new' (Kd.S_new' ho0 (Kd.S_lt ze_9)) (Kd.Q_lt ze_4)) (below_size ze_1)); replace a5 := ak (Kd.S_mono (Kd.S_told (Kd.S_told (Kd.S_old ze_9 hb) (Kd.S_base ho0)) (Kd.R_base ho1)) (fun _ h_ => h_.1)); have a6 := ak (Kd.R_lower (Kd.R_new' ho1 (Kd.Q_lt ze_4)) (below_size ze_1)); replace a4 := ak (Kd.Q_elder' ze_4 (Kd.R_base ho1) hb); replace a2 := ak (blk_below (g := a8) (o := .cells #[.slice h2 b2.length h0, .slice d2 b1.length d1] 27 (0, 0)) (by (with_reducible repeat (first | refine blk_drewN ?_ _ | refine blk_drew ?_ | refine blk_alloc ?_ _)); refine blk_put (cs := #[.slice h2 b2.length h0, .slice none 0 0]) ?_ 1 _ rfl; (with_reducible repeat (first | refine blk_drewN ?_ _ | refine blk_drew ?_ | refine blk_alloc ?_ _)); refine blk_put (cs := #[.slice none 0 0, .slice none 0 0]) ?_ 0 _ rfl; (with_reducible repeat (first | refine blk_drewN ?_ _ | refine blk_drew ?_ | refine blk_alloc ?_ _)); exact a2.out) hb); replace HB := ak (below_step ze_1 hb); (try clear hb); (try clear hb2); (try clear hk); (try clear hi); (try clear ho0); (try clear ho1)) | ((with_reducible refine gate_dst (N := 5) rfl ?_); refine bx_ (N := 5) (cs := #[.slice none 0 0, .slice none 0 0]) (t := 27) ?_; intro a1 hg h9 hbox hb; replace a5 := ak (Kd.S_below (xS a5.out) hb); replace a4 := ak (Kd.Q_below (xQ a4.out) hb); replace a7 := ak (Kd.S_below (xS a7.out) hb); replace a6 := ak (Kd.R_below (xR a6.out) hb); have a3 := ak (hbox); have i1 := ak ((by rw [hg]; exact (below_size ze_1) : w.heap.size ≤ a1)); have h8 := ak ((by rw [hg]; exact (below_size ze_1) : w.heap.size ≤ a1)); replace HB := ak (below_step ze_1 hb); have b5 := ak ((by rw [hg]; exact Nat.ne_of_lt (blk_lt (g := a8) (o := .cells #[.slice h2 b2.length h0, .slice d2 b1.length d1] 27 (0, 0)) (xb a2.out)) : a8 ≠ a1)); have b6 := ak ((by rw [hg]; exact Nat.ne_of_gt (blk_lt (g := a8) (o := .cells #[.slice h2 b2.length h0, .slice d2 b1.length d1] 27 (0, 0)) (xb a2.out)) : a1 ≠ a8)); replace a2 := ak (blk_below (g := a8) (o := .cells #[.slice h2 b2.length h0, .slice d2 b1.length d1] 27 (0, 0)) (xb a2.out) hb); clear hb hbox hg; obtain ⟨b9, d0, l1⟩ := Kd.S_slice a7.out; subst l1; have q5 := b6.out; have q6 := b5.out; have d6 := cz20 a3.out; have d7 := cz21 a3.out; have d8 := blk_frozen a3.out 0; have d9 := blk_frozen a3.out 1; obtain ⟨b7, b8, l2⟩ := Kd.R_slice a6.out; subst l2))
 have n0_ : Aside0 (Kd.S (Kd.slice 3 (Kd.int .i64)) 25 ((h9.setCell ⟨a1, 0, none⟩ (.slice b9 b0.length d0)).setCell ⟨a1, 1, none⟩ (.slice b7 a9.length b8)) w.heap.size (fun k_ => some k_ ≠ (.slice d2 b1.length d1 : Value).ownBlock ∧ some k_ ≠ (.slice b9 b0.length d0 : Value).ownBlock ∧ some k_ ≠ (.slice b7 a9.length b8 : Value).ownBlock) (.slice h2 b2.length h0) b2) := ⟨(by (with_reducible repeat (first | apply Kd.S_alloc | apply Kd.S_drewN | apply Kd.S_drew)); exact Kd.S_mono (Kd.S_far (p := ⟨a1, 1, none⟩) (Kd.S_far (p := ⟨a1, 0, none⟩) (Kd.S_types a5.out a3.out (by decide)) (fun _ hk => hk.2) (.slice b9 b0.length d0)) (fun _ hk => hk.2) (.slice b7 a9.length b8)) (fun _ hk => ⟨hk.1.1.1, ⟨hk.1.1.2, hk.1.2⟩⟩))⟩
 have n1_ : Aside0 (Kd.Q (Kd.int .i64) 3 ((h9.setCell ⟨a1, 0, none⟩ (.slice b9 b0.length d0)).setCell ⟨a1, 1, none⟩ (.slice b7 a9.length b8)) w.heap.size (fun k_ => some k_ ≠ (.slice b7 a9.length b8 : Value).ownBlock) (.slice d2 b1.length d1) b1) := ⟨(by (with_reducible repeat (first | apply Kd.Q_alloc | apply Kd.Q_drewN | apply Kd.Q_drew)); exact Kd.Q_mono (Kd.Q_far (p := ⟨a1, 1, none⟩) (Kd.Q_far (p := ⟨a1, 0, none⟩) (Kd.Q_types a4.out a3.out (by decide)) (fun _ hk => hk.2) (.slice b9 b0.length d0)) (fun _ hk => hk.2) (.slice b7 a9.length b8)) (fun _ hk => hk.1.2))⟩
 have n2_ : Aside0 (Kd.S (Kd.slice 3 (Kd.int .i64)) 25 ((h9.setCell ⟨a1, 0, none⟩ (.slice b9 b0.length d0)).setCell ⟨a1, 1, none⟩ (.slice b7 a9.length b8)) w.heap.size (fun k_ => some k_ ≠ (.slice h2 b2.length h0 : Value).ownBlock ∧ some k_ ≠ (.slice d2 b1.length d1 : Value).ownBlock ∧ some k_ ≠ (.slice b7 a9.length b8 : Value).ownBlock) (.slice b9 b0.length d0) b0) := ⟨(by (with_reducible repeat (first | apply Kd.S_alloc | apply Kd.S_drewN | apply Kd.S_drew)); exact Kd.S_mono (Kd.S_far (p := ⟨a1, 1, none⟩) (Kd.S_far (p := ⟨a1, 0, none⟩) (Kd.S_types a7.out a3.out (by decide)) (fun _ hk => hk.2) (.slice b9 b0.length d0)) (fun _ hk => hk.2) (.slice b7 a9.length b8)) (fun _ hk => ⟨hk.1.1.2, ⟨hk.1.2, hk.1.1.1⟩⟩))⟩
 have n3_ : Aside0 (Kd.R (Kd.int .i64) 3 ((h9.setCell ⟨a1, 0, none⟩ (.slice b9 b0.length d0)).setCell ⟨a1, 1, none⟩ (.slice b7 a9.length b8)) w.heap.size (fun k_ => some k_ ≠ (.slice d2 b1.length d1 : Value).ownBlock) (.slice b7 a9.length b8) a9) := ⟨(by (with_reducible repeat (first | apply Kd.R_alloc | apply Kd.R_drewN | apply Kd.R_drew)); exact Kd.R_mono (Kd.R_far (p := ⟨a1, 1, none⟩) (Kd.R_far (p := ⟨a1, 0, none⟩) (Kd.R_types a6.out a3.out (by decide)) (fun _ hk => hk.2) (.slice b9 b0.length d0)) (fun _ hk => hk.2) (.slice b7 a9.length b8)) (fun _ hk => hk.1.2))⟩
 have n4_ : Aside0 (((h9.setCell ⟨a1, 0, none⟩ (.slice b9 b0.length d0)).setCell ⟨a1, 1, none⟩ (.slice b7 a9.length b8)).heap[a8]? = some (.cells #[.slice h2 b2.length h0, .slice d2 b1.length d1] 27 (0, 0))) := ⟨ze_3⟩
 have n5_ : Aside0 (((h9.setCell ⟨a1, 0, none⟩ (.slice b9 b0.length d0)).setCell ⟨a1, 1, none⟩ (.slice b7 a9.length b8)).heap[a1]? = some (.cells #[.slice b9 b0.length d0, .slice b7 a9.length b8] 27 (0, 0))) := ⟨(by (with_reducible repeat (first | refine blk_drewN ?_ _ | refine blk_drew ?_ | refine blk_alloc ?_ _)); refine blk_put (cs := #[.slice b9 b0.length d0, .slice none 0 0]) ?_ 1 _ rfl; (with_reducible repeat (first | refine blk_drewN ?_ _ | refine blk_drew ?_ | refine blk_alloc ?_ _)); refine blk_put (cs := #[.slice none 0 0, .slice none 0 0]) ?_ 0 _ rfl; (with_reducible repeat (first | refine blk_drewN ?_ _ | refine blk_drew ?_ | refine blk_alloc ?_ _)); exact a3.out)⟩
 have n6_ : Aside0 (Below w.heap.size w ((h9.setCell ⟨a1, 0, none⟩ (.slice b9 b0.length d0)).setCell ⟨a1, 1, none⟩ (.slice b7 a9.length b8))) := ⟨ze_0⟩
 (try clear a5)
 (try clear a4)
 (try clear a7)
 (try clear a6)
 (try clear a2)
 (try clear a3)
 (try clear HB)
 generalize ((h9.setCell ⟨a1, 0, none⟩ (.slice b9 b0.length d0)).setCell ⟨a1, 1, none⟩ (.slice b7 a9.length b8)) = q7 at n0_ n1_ n2_ n3_ n4_ n5_ n6_ ⊢
 have a5 := n0_
 have a4 := n1_
 have a7 := n2_
 have a6 := n3_
 have a2 := n4_
 have a3 := n5_
 have HB := n6_
 clear n0_ n1_ n2_ n3_ n4_ n5_ n6_
 replace a5 := ak (Kd.S_drew a5.out)
 replace a4 := ak (Kd.Q_drew a4.out)
 replace a7 := ak (Kd.S_drew a7.out)
 replace a6 := ak (Kd.R_drew a6.out)
 replace a2 := ak (blk_drew a2.out)
 replace a3 := ak (blk_drew a3.out)
 replace HB := ak (below_drew1 HB.out)
 refine start_ (n := 6) (S := fun w' => w'.cell? ⟨a1, 0, none⟩ = some (.slice b9 b0.length d0) ∧ w'.cell? ⟨a1, 1, none⟩ = some (.slice b7 a9.length b8) ∧ w'.cell? ⟨a8, 0, none⟩ = some (.slice h2 b2.length h0) ∧ w'.cell? ⟨a8, 1, none⟩ = some (.slice d2 b1.length d1)) (ds := []) (bA 6 0) ze_15 rfl rfl ⟨(blk_cell a3.out 0).trans rfl, (blk_cell a3.out 1).trans rfl, (blk_cell a2.out 0).trans rfl, (blk_cell a2.out 1).trans rfl⟩ (fun hHeld => ?_)
 generalize q7.drew = u3 at a5 a4 a7 a6 a2 a3 HB hHeld ⊢
 refine pu_ (i := 2) (N := some 19) (bA 6 4) ?_
 refine tk_ (i := 0) (N := some 17) (bA 6 5) ?_
 refine tk_ (i := 1) (N := some 18) (bA 6 7) ?_
 refine one_ (i := 3) (N := some 20) (bA 6 15) rfl rfl ze_15 (by decide) (fun K hK => ?_)
 refine ge_ Try.func43 #[.agg #[.slice h2 b2.length h0, .slice d2 b1.length d1], .int .i64 d3] ?_
 with_reducible refine (spec_PartOf.calls k _ _ b2 _ _ b1 d3 h3 h4 _ ?side1 ?side2 ?side3 ?side4 A5.out).mono ?_
 (case side1 => repeat (first | exact (Kd.S_reads' a5.out).2.2 | (with_reducible refine Kd.C_alloc ?_ _) | (with_reducible refine Kd.C_drewN ?_ _) | (with_reducible refine Kd.C_drew ?_)))
 (case side2 => exact (Kd.S_reads' a5.out).2.1)
 (case side3 => repeat (first | exact (Kd.Q_reads' a4.out).2.2 | (with_reducible refine Kd.C_alloc ?_ _) | (with_reducible refine Kd.C_drewN ?_ _) | (with_reducible refine Kd.C_drew ?_)))
 (case side4 => exact (Kd.Q_reads' a4.out).2.1)
 rintro e w' ⟨i6, i7, rfl, ho0, ho1, hb⟩
 refine ⟨_, rfl, ?_⟩
 have b3 := ak (Kd.S_lower (Kd.S_new' (Kd.S_new' (Kd.S_new' (Kd.S_new' ho0 (Kd.S_lt (xS a5.out))) (Kd.Q_lt (xQ a4.out))) (Kd.S_lt (xS a7.out))) (Kd.R_lt (xR a6.out))) (below_size ze_0))
 replace a5 := ak (Kd.S_mono (Kd.S_told (Kd.S_told (Kd.S_old (xS a5.out) hb) (Kd.S_base ho0)) (Kd.R_base ho1)) (fun _ h_ => h_.1))
 replace a7 := ak (Kd.S_mono (Kd.S_told (Kd.S_told (Kd.S_old (xS a7.out) hb) (Kd.S_base ho0)) (Kd.R_base ho1)) (fun _ h_ => h_.1))
 have b4 := ak (Kd.R_lower (Kd.R_new' (Kd.R_new' ho1 (Kd.Q_lt (xQ a4.out))) (Kd.R_lt (xR a6.out))) (below_size ze_0))
 replace a4 := ak (Kd.Q_elder' (xQ a4.out) (Kd.R_base ho1) hb)
 replace a6 := ak (Kd.R_elder' (xR a6.out) (Kd.R_base ho1) hb)
 replace a2 := ak (blk_below (g := a8) (o := .cells #[.slice h2 b2.length h0, .slice d2 b1.length d1] 27 (0, 0)) (xb a2.out) hb)
 replace a3 := ak (blk_below (g := a1) (o := .cells #[.slice b9 b0.length d0, .slice b7 a9.length b8] 27 (0, 0)) (xb a3.out) hb)
 replace HB := ak (below_step ze_0 hb)
 (try clear hb)
 (try clear hb2)
 (try clear hk)
 (try clear hi)
 (try clear ho0)
 (try clear ho1)
 obtain ⟨l3, l4, j3⟩ := Kd.S_slice b3.out
 (first | subst j3 | (injection j3 with f1_ f2_ f3_; have f4_ := f1_.symm; have f5_ := f3_.symm; clear f1_ f2_ f3_; subst f4_; subst f5_))
 obtain ⟨l5, l6, j4⟩ := Kd.R_slice b4.out
 (first | subst j4 | (injection j4 with f1_ f2_ f3_; have f4_ := f1_.symm; have f5_ := f3_.symm; clear f1_ f2_ f3_; subst f4_; subst f5_))
 refine hK.out _ _ ⟨(blk_cell a3.out 0).trans rfl, (blk_cell a3.out 1).trans rfl, (blk_cell a2.out 0).trans rfl, (blk_cell a2.out 1).trans rfl⟩ (fun hHeld => ?_)
 clear hK K
 refine no_ (N := some 20) ?_
 refine one_ (i := 4) (N := some 21) (bA 6 31) rfl rfl ze_15 (by decide) (fun K hK => ?_)
 refine ge_ Try.func17 #[.agg #[.slice b9 b0.length d0, .slice b7 a9.length b8], .agg #[.slice l3 h3.length l4, .slice l5 h4.length l6]] ?_
 with_reducible refine (laws_sameLogic.calls k _ _ b0 _ _ a9 _ _ h3 _ _ h4 false _ ?side1 ?side2 ?side3 ?side4 ?side5 ?side6 ?side7 ?side8 A6.out).mono ?_
 (case side1 => repeat (first | exact (Kd.S_reads' a7.out).2.2 | (with_reducible refine Kd.C_alloc ?_ _) | (with_reducible refine Kd.C_drewN ?_ _) | (with_reducible refine Kd.C_drew ?_)))
 (case side2 => exact (Kd.S_reads' a7.out).2.1)
 (case side3 => repeat (first | exact (Kd.R_reads' a6.out).2.2 | (with_reducible refine Kd.C_alloc ?_ _) | (with_reducible refine Kd.C_drewN ?_ _) | (with_reducible refine Kd.C_drew ?_)))
 (case side4 => exact (Kd.R_reads' a6.out).2.1)
 (case side5 => repeat (first | exact (Kd.S_reads' b3.out).2.2 | (with_reducible refine Kd.C_alloc ?_ _) | (with_reducible refine Kd.C_drewN ?_ _) | (with_reducible refine Kd.C_drew ?_)))
 (case side6 => exact (Kd.S_reads' b3.out).2.1)
 (case side7 => repeat (first | exact (Kd.R_reads' b4.out).2.2 | (with_reducible refine Kd.C_alloc ?_ _) | (with_reducible refine Kd.C_drewN ?_ _) | (with_reducible refine Kd.C_drew ?_)))
 (case side8 => exact (Kd.R_reads' b4.out).2.1)
 rintro e w' ⟨rfl, hb⟩
 refine ⟨_, rfl, ?_⟩
 replace a5 := ak (Kd.S_below (xS a5.out) hb)
 replace a4 := ak (Kd.Q_below (xQ a4.out) hb)
 replace a7 := ak (Kd.S_below (xS a7.out) hb)
 replace a6 := ak (Kd.R_below (xR a6.out) hb)
 replace b3 := ak (Kd.S_below (xS b3.out) hb)
 replace b4 := ak (Kd.R_below (xR b4.out) hb)
 replace a2 := ak (blk_below (g := a8) (o := .cells #[.slice h2 b2.length h0, .slice d2 b1.length d1] 27 (0, 0)) (xb a2.out) hb)
 replace a3 := ak (blk_below (g := a1) (o := .cells #[.slice b9 b0.length d0, .slice b7 a9.length b8] 27 (0, 0)) (xb a3.out) hb)
 replace HB := ak (below_step ze_0 hb)
 (try clear hb)
 (try clear hb2)
 (try clear hk)
 (try clear hi)
 refine hK.out _ _ ⟨(blk_cell a3.out 0).trans rfl, (blk_cell a3.out 1).trans rfl, (blk_cell a2.out 0).trans rfl, (blk_cell a2.out 1).trans rfl⟩ (fun hHeld => ?_)
 clear hK K
 refine no_ (N := some 21) ?_
 refine pu_ (i := 5) (N := some 22) (bA 6 63) ?_
 refine done_ ze_15 ?_
 try go_wp2
 go_ret
 exact ⟨ze_14, ze_0⟩

theorem laws_FnPartOf.walk (P : laws_FnPartOf.Pure) (a0 : Option Addr) (len0 cap0 : Nat) (z0 : List Int) (w : World) (w0 : (a0 = none ∧ len0 = 0 ∧ cap0 = 0 ∧ z0 = []) ∨ ∃ x, a0 = some x ∧ len0 ≤ cap0 ∧ cap0 ≤ maxLen ∧ z0.length = cap0 ∧ (∀ i, i < z0.length → w.cell? (x.add i) = some (.int .u8 (z0.getD i 0))) ∧ ∀ n ∈ z0, (Lit.int .u8 n).wf = true) (y0 : len0 * 1 ≤ 140737488351232) :
 Calls Try.prog 9 #[.slice a0 len0 cap0] w fun e w' => e = .returned (.bool true) ∧ Below w.heap.size w w' := by
 obtain ⟨l0, rfl, hr0, hm0, hw0, hc0⟩ := ReadsInt.ofRowC w0
 obtain ⟨k, h⟩ := P l0 hm0 y0 hw0
 refine (laws_FnPartOf.calls k _ _ l0 true w (Kd.C_of_reads (d := (0 : Int)) (h1 := fun _ => rfl) hr0) hc0 h).mono ?_
 rintro e w' ⟨rfl, hd⟩
 exact ⟨rfl, hd⟩

end Go.Proofs.Ytacifhahfamipaa.P
