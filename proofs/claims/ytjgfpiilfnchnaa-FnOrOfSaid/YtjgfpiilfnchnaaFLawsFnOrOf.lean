-- written by gen.py (a program of this session) out of the kit's print of this seat's translation
import Derived.Test.YtjgfpiilfnchnaaPk2
import Derived.Test.YtjgfpiilfnchnaaFLawsAlive
import Derived.Test.YtjgfpiilfnchnaaFSpecDrawOrOf
import Derived.Test.YtjgfpiilfnchnaaFSpecOrOf
import Derived.Test.YtjgfpiilfnchnaaV1
namespace Go.Proofs.Ytjgfpiilfnchnaa.P
open Go.RowKit Go.Proofs.YtjgfpiilfnchnaaW.PrintWords Go.Proofs.YtjgfpiilfnchnaaW.PrintLast Go.Proofs.YtjgfpiilfnchnaaW.PrintMore
attribute [local go_sem] max2_int min2_int max_two min_two max_three min_three max_four min_four
set_option linter.unusedVariables false
set_option linter.unusedSimpArgs false
def laws_FnOrOf.T9 : Bool × List (List Nat × List Nat) := (true, [([], []), ([], []), ([0, 1], [0, 1]), ([], []), ([], []), ([], []), ([4, 5, 2], [4, 5]), ([], []), ([], []), ([7, 8, 6], [7, 8]), ([3, 6, 9, 9], [3, 6, 9]), ([2, 10], [2, 10]), ([11, 10], [11]), ([12], [12]), ([12], [12]), ([12], [12]), ([12], [12]), ([15, 16, 12, 12], [12, 15, 16]), ([13, 14, 17, 17, 12], [12, 13, 14, 17]), ([12], [12]), ([19, 18, 12], [12, 19]), ([18, 20, 12], [12, 18, 20]), ([12, 21], [12, 21]), ([22, 20, 0, 1, 2, 3, 4, 5, 6, 7, 8, 9, 10, 11, 12, 13, 14, 15, 16, 17, 18, 19, 20, 21, 22], [22])])
def laws_FnOrOf.B9 : List Nat := [0, 0, 3, 0, 0, 0, 55, 0, 0, 503, 1023, 2047, 4095, 8191, 8191, 8191, 8191, 106495, 262143, 8191, 1048575, 2097151, 4194303, 8388607]
theorem laws_FnOrOf.tab9 : rtab .any (opsOf Try.f8 9) = laws_FnOrOf.T9 := by kernel_rfl
theorem laws_FnOrOf.bits9 : waitsOk laws_FnOrOf.T9.2 laws_FnOrOf.B9 = true := by kernel_rfl
theorem zi_12 {p : Prop} (h : p := by (with_reducible repeat (first | apply Kd.Q_alloc | apply Kd.Q_drewN | apply Kd.Q_drew)); exact (Kd.Q_mono (Kd.Q_far (p := ⟨a6, 1, none⟩) (Kd.Q_far (p := ⟨a6, 0, none⟩) (Kd.Q_types a2.out a1.out (by decide)) (fun _ hk => hk.2) (.slice e2 a4.length d3)) (fun _ hk => hk.2) (.slice e3 a5.length d4)) (fun _ h_ => h_.1))) : p := h
theorem zi_11 {p : Prop} (h : p := by (with_reducible repeat (first | apply Kd.Q_alloc | apply Kd.Q_drewN | apply Kd.Q_drew)); exact (Kd.Q_mono (Kd.Q_far (p := ⟨a6, 1, none⟩) (Kd.Q_far (p := ⟨a6, 0, none⟩) (Kd.Q_types a2.out a1.out (by decide)) (fun _ hk => hk.2) (.slice e4 a4.length d5)) (fun _ hk => hk.2) (.slice e5 a5.length d6)) (fun _ h_ => h_.1))) : p := h
theorem zi_10 {p : Prop} (h : p := by (with_reducible repeat (first | apply Kd.Q_alloc | apply Kd.Q_drewN | apply Kd.Q_drew)); exact (Kd.Q_mono (Kd.Q_far (p := ⟨a6, 1, none⟩) (Kd.Q_far (p := ⟨a6, 0, none⟩) (Kd.Q_types a2.out a1.out (by decide)) (fun _ hk => hk.2) (.slice b2 a4.length b0)) (fun _ hk => hk.2) (.slice b3 a5.length b1)) (fun _ h_ => h_.1))) : p := h
theorem zi_9 {p : Prop} (h : p := by (with_reducible repeat (first | apply Kd.Q_alloc | apply Kd.Q_drewN | apply Kd.Q_drew)); exact (Kd.Q_mono (Kd.Q_far (p := ⟨a6, 1, none⟩) (Kd.Q_far (p := ⟨a6, 0, none⟩) (Kd.Q_types a2.out a1.out (by decide)) (fun _ hk => hk.2) (.slice b6 a4.length b4)) (fun _ hk => hk.2) (.slice b7 a5.length b5)) (fun _ h_ => h_.1))) : p := h
theorem zi_8 {p : Prop} (h : p := by (with_reducible repeat (first | apply Kd.Q_alloc | apply Kd.Q_drewN | apply Kd.Q_drew)); exact (Kd.Q_mono (Kd.Q_far (p := ⟨a6, 1, none⟩) (Kd.Q_far (p := ⟨a6, 0, none⟩) (Kd.Q_types a2.out a1.out (by decide)) (fun _ hk => hk.2) (.slice e6 a4.length d7)) (fun _ hk => hk.2) (.slice e7 a5.length d8)) (fun _ h_ => h_.1))) : p := h
theorem zi_7 {p : Prop} (h : p := by (with_reducible repeat (first | apply Kd.S_alloc | apply Kd.S_drewN | apply Kd.S_drew)); exact (Kd.S_mono (Kd.S_far (p := ⟨a6, 1, none⟩) (Kd.S_far (p := ⟨a6, 0, none⟩) (Kd.S_types a3.out a1.out (by decide)) (fun _ hk => hk.2) (.slice e2 a4.length d3)) (fun _ hk => hk.2) (.slice e3 a5.length d4)) (fun _ h_ => h_.1))) : p := h
theorem zi_6 {p : Prop} (h : p := by (with_reducible repeat (first | apply Kd.S_alloc | apply Kd.S_drewN | apply Kd.S_drew)); exact (Kd.S_mono (Kd.S_far (p := ⟨a6, 1, none⟩) (Kd.S_far (p := ⟨a6, 0, none⟩) (Kd.S_types a3.out a1.out (by decide)) (fun _ hk => hk.2) (.slice e4 a4.length d5)) (fun _ hk => hk.2) (.slice e5 a5.length d6)) (fun _ h_ => h_.1))) : p := h
theorem zi_5 {p : Prop} (h : p := by (with_reducible repeat (first | apply Kd.S_alloc | apply Kd.S_drewN | apply Kd.S_drew)); exact (Kd.S_mono (Kd.S_far (p := ⟨a6, 1, none⟩) (Kd.S_far (p := ⟨a6, 0, none⟩) (Kd.S_types a3.out a1.out (by decide)) (fun _ hk => hk.2) (.slice b2 a4.length b0)) (fun _ hk => hk.2) (.slice b3 a5.length b1)) (fun _ h_ => h_.1))) : p := h
theorem zi_4 {p : Prop} (h : p := by (with_reducible repeat (first | apply Kd.S_alloc | apply Kd.S_drewN | apply Kd.S_drew)); exact (Kd.S_mono (Kd.S_far (p := ⟨a6, 1, none⟩) (Kd.S_far (p := ⟨a6, 0, none⟩) (Kd.S_types a3.out a1.out (by decide)) (fun _ hk => hk.2) (.slice b6 a4.length b4)) (fun _ hk => hk.2) (.slice b7 a5.length b5)) (fun _ h_ => h_.1))) : p := h
theorem zi_3 {p : Prop} (h : p := by (with_reducible repeat (first | apply Kd.S_alloc | apply Kd.S_drewN | apply Kd.S_drew)); exact (Kd.S_mono (Kd.S_far (p := ⟨a6, 1, none⟩) (Kd.S_far (p := ⟨a6, 0, none⟩) (Kd.S_types a3.out a1.out (by decide)) (fun _ hk => hk.2) (.slice e6 a4.length d7)) (fun _ hk => hk.2) (.slice e7 a5.length d8)) (fun _ h_ => h_.1))) : p := h
theorem zi_2 {p : Prop} (h : p := by first | rfl | (simp [errW_none, errW_some] <;> rfl) | (simp [*, errW_none, errW_some] <;> rfl)) : p := h
theorem zi_1 {p : Prop} (h : p := by repeat (first | (with_reducible first | exact HB.out | apply below_alloc | apply pw_below_drewN | apply below_drew1) | exact HB.out)) : p := h
theorem zi_0 {p : Prop} (h : p := by repeat (first | (with_reducible first | exact HB.out | apply below_alloc | apply pw_below_drewN | apply below_drew1 | refine below_set ?_ d9.out) | exact HB.out)) : p := h
set_option maxHeartbeats 8000000 in
set_option maxRecDepth 100000 in
theorem laws_FnOrOf.calls (k : Nat) (A0 : Option Addr) (c0 : Nat) (l0 : List Int) (r : Bool) (w : World) (hr0 : Kd.C (Kd.int .u8) w A0 l0.length l0) (hc0 : l0.length ≤ c0) (h : laws_FnOrOf.f k l0 = some r) :
 Calls Try.prog 8 #[.slice A0 l0.length c0] w fun e w' => e = .returned (.bool r) ∧ Below w.heap.size w w' := by
 have hu26 := Try.underlying26
 have HR0 := ak hr0
 have f9 := ak hc0
 clear hr0 hc0
 have HB := ak (Below.refl w.heap.size w)
 have H : (if (l0.length : Int) > 1048576 then (some true) else ((spec_DrawOrOf.f k l0).bind fun a7 => ((impl_OrOf.f a7.1 a7.2.1 a7.2.2.1 a7.2.2.2).bind fun b8 => ((spec_OrOf.f k a7.1 a7.2.1 a7.2.2.1 a7.2.2.2).bind fun e8 => (if b8 = e8 then (if b8 < 0 then (if b8 = (-1) then ((laws_alive.f k).bind fun f5 => (some f5)) else (some false)) else ((impl_NotOf.f a7.1 a7.2.1 b8).bind fun f1 => ((impl_NotOf.f a7.1 a7.2.1 a7.2.2.1).bind fun e0 => ((impl_NotOf.f a7.1 a7.2.1 a7.2.2.2).bind fun e1 => ((impl_AndOf.f a7.1 a7.2.1 e0 e1).bind fun f2 => (if f1 = f2 then ((impl_NotOf.f a7.1 a7.2.1 a7.2.2.1).bind fun f0 => ((impl_OrOf.f a7.1 a7.2.1 a7.2.2.1 f0).bind fun f6 => ((impl_YesOf.f a7.1 a7.2.1).bind fun f7 => (some (f6 == f7))))) else (some false))))))) else (some false)))))) = some r := h
 clear h
 replace H := op_ H
 rcases H with ⟨c2, H⟩ | ⟨c2, H⟩
 ·
  have g2 : decide (1048576 < (l0.length : Int)) = true := dT_ c2
  have g3 : decide (1048576 < l0.length) = true := dT_ (by omega)
  clear c2
  obtain rfl := Option.some.inj H
  go_enter Try.func8, Try.ntmps8
  go_wp2
  go_ret
  exact ⟨zi_2, zi_1⟩
 have g2 : decide (1048576 < (l0.length : Int)) = false := dF_ c2
 have g3 : decide (1048576 < l0.length) = false := dF_ (by omega)
 clear c2
 replace H := bd_ H
 obtain ⟨⟨a4, a5, a8, a9⟩, A3, H⟩ := H
 try dsimp only at H
 replace H := bd_ H
 obtain ⟨b8, A4, H⟩ := H
 replace H := bd_ H
 obtain ⟨e8, A5, H⟩ := H
 try dsimp only at H
 replace H := oe2 H
 rcases H with ⟨⟨-, g4, g5⟩, H⟩ | ⟨⟨c6, g4, g5⟩, H⟩
 ·
  replace H := os_ H
  rcases H with ⟨g6, H⟩ | ⟨g6, H⟩
  ·
   replace H := oe2 H
   rcases H with ⟨⟨-, g7, g8⟩, H⟩ | ⟨⟨c8, g7, g8⟩, H⟩
   ·
    replace H := bd_ H
    obtain ⟨f5, A9, H⟩ := H
    try dsimp only at H
    obtain rfl := Option.some.inj H
    go_enter Try.func8, Try.ntmps8
    go_wp2_with (first | ((with_reducible refine gate_callee (f := 33) rfl ?_); refine gl_ (some 12) Try.func33 #[.slice A0 l0.length c0] ?_; (with_reducible refine (spec_DrawOrOf.calls k _ _ l0 a4 a5 a8 a9 _ (y4 HR0.out) f9.out A3.out).mono ?_); rintro e w' ⟨f3, f4, rfl, ho0, ho1, hb⟩; refine ⟨_, rfl, ?_⟩; have a3 := ak (Kd.S_lower ho0 (below_size zi_1)); have a2 := ak (Kd.Q_lower ho1 (below_size zi_1)); replace HB := ak (below_step zi_1 hb); (try clear hb); (try clear hb2); (try clear hk); (try clear hi); (try clear ho0); (try clear ho1)) | ((with_reducible refine gate_dst (N := 3) rfl ?_); refine bx_ (N := 3) (cs := #[.slice none 0 0, .slice none 0 0]) (t := 26) ?_; intro a6 hg i9 hbox hb; replace a3 := ak (Kd.S_below (xS a3.out) hb); replace a2 := ak (Kd.Q_below (xQ a2.out) hb); have a1 := ak (hbox); have e9 := ak ((by rw [hg]; exact (below_size zi_1) : w.heap.size ≤ a6)); have d9 := ak ((by rw [hg]; exact (below_size zi_1) : w.heap.size ≤ a6)); replace HB := ak (below_step zi_1 hb); clear hb hbox hg; obtain ⟨e2, d3, g9⟩ := Kd.S_slice a3.out; subst g9; have b9 := cz20 a1.out; have d0 := cz21 a1.out; have d1 := blk_frozen a1.out 0; have d2 := blk_frozen a1.out 1; obtain ⟨e3, d4, h0, _⟩ := Kd.Q_slice a2.out; subst h0) | ((with_reducible refine gate_callee (f := 30) rfl ?_); refine gl_ (some 19) Try.func30 #[.agg #[.slice e2 a4.length d3, .slice e3 a5.length d4], .int .i64 a8, .int .i64 a9] ?_; (with_reducible refine (impl_OrOf.calls _ _ a4 _ _ a5 a8 a9 b8 _ (by refine (Kd.S_reads' (e := 24) (base := w.heap.size) (ok := fun k_ => some k_ ≠ (.slice e3 a5.length d4 : Value).ownBlock) (n := a4.length) (c := d3) ?_).2.2; exact zi_7) (y2 a3.out) (by refine (Kd.Q_reads' (e := 3) (base := w.heap.size) (ok := fun k_ => True) (n := a5.length) (c := d4) ?_).2.2; exact zi_12) (y2 a2.out) A4.out).mono ?_); rintro e w' ⟨rfl, hb⟩; refine ⟨_, rfl, ?_⟩; replace a3 := ak (Kd.S_below zi_7 hb); replace a2 := ak (Kd.Q_below zi_12 hb); replace a1 := ak (blk_below (g := a6) (o := .cells #[.slice e2 a4.length d3, .slice e3 a5.length d4] 26 (0, 0)) (by (with_reducible repeat (first | refine blk_drewN ?_ _ | refine blk_drew ?_ | refine blk_alloc ?_ _)); refine blk_put (cs := #[.slice e2 a4.length d3, .slice none 0 0]) ?_ 1 _ rfl; (with_reducible repeat (first | refine blk_drewN ?_ _ | refine blk_drew ?_ | refine blk_alloc ?_ _)); refine blk_put (cs := #[.slice none 0 0, .slice none 0 0]) ?_ 0 _ rfl; (with_reducible repeat (first | refine blk_drewN ?_ _ | refine blk_drew ?_ | refine blk_alloc ?_ _)); exact a1.out) hb); replace HB := ak (below_step zi_0 hb); (try clear hb); (try clear hb2); (try clear hk); (try clear hi); have b9 := cz20 a1.out; have d0 := cz21 a1.out; have d1 := blk_frozen a1.out 0; have d2 := blk_frozen a1.out 1) | ((first | ((with_reducible refine gate_callee (f := 34) rfl ?_); refine gl_ (some 24) Try.func34 #[.agg #[.slice e2 a4.length d3, .slice e3 a5.length d4], .int .i64 a8, .int .i64 a9] ?_; (with_reducible refine (spec_OrOf.calls k _ _ a4 _ _ a5 a8 a9 e8 _ (y1 a3.out) (y2 a3.out) (y1 a2.out) (y2 a2.out) A5.out).mono ?_); rintro e w' ⟨rfl, hb⟩; refine ⟨_, rfl, ?_⟩) | (go_at_call 17; (with_reducible refine (laws_alive.calls k  f5 _ A9.out).mono ?_); rintro e w' ⟨rfl, hb⟩)); replace a3 := ak (Kd.S_below (xS a3.out) hb); replace a2 := ak (Kd.Q_below (xQ a2.out) hb); replace a1 := ak (blk_below (g := a6) (o := .cells #[.slice e2 a4.length d3, .slice e3 a5.length d4] 26 (0, 0)) (xb a1.out) hb); replace HB := ak (below_step zi_0 hb); (try clear hb); (try clear hb2); (try clear hk); (try clear hi)))
    go_ret
    exact ⟨zi_2, zi_0⟩
   obtain rfl := Option.some.inj H
   go_enter Try.func8, Try.ntmps8
   go_wp2_with (first | ((with_reducible refine gate_callee (f := 33) rfl ?_); refine gl_ (some 12) Try.func33 #[.slice A0 l0.length c0] ?_; (with_reducible refine (spec_DrawOrOf.calls k _ _ l0 a4 a5 a8 a9 _ (y4 HR0.out) f9.out A3.out).mono ?_); rintro e w' ⟨f3, f4, rfl, ho0, ho1, hb⟩; refine ⟨_, rfl, ?_⟩; have a3 := ak (Kd.S_lower ho0 (below_size zi_1)); have a2 := ak (Kd.Q_lower ho1 (below_size zi_1)); replace HB := ak (below_step zi_1 hb); (try clear hb); (try clear hb2); (try clear hk); (try clear hi); (try clear ho0); (try clear ho1)) | ((with_reducible refine gate_dst (N := 3) rfl ?_); refine bx_ (N := 3) (cs := #[.slice none 0 0, .slice none 0 0]) (t := 26) ?_; intro a6 hg j0 hbox hb; replace a3 := ak (Kd.S_below (xS a3.out) hb); replace a2 := ak (Kd.Q_below (xQ a2.out) hb); have a1 := ak (hbox); have e9 := ak ((by rw [hg]; exact (below_size zi_1) : w.heap.size ≤ a6)); have d9 := ak ((by rw [hg]; exact (below_size zi_1) : w.heap.size ≤ a6)); replace HB := ak (below_step zi_1 hb); clear hb hbox hg; obtain ⟨e4, d5, h2⟩ := Kd.S_slice a3.out; subst h2; have b9 := cz20 a1.out; have d0 := cz21 a1.out; have d1 := blk_frozen a1.out 0; have d2 := blk_frozen a1.out 1; obtain ⟨e5, d6, h3, _⟩ := Kd.Q_slice a2.out; subst h3) | ((with_reducible refine gate_callee (f := 30) rfl ?_); refine gl_ (some 19) Try.func30 #[.agg #[.slice e4 a4.length d5, .slice e5 a5.length d6], .int .i64 a8, .int .i64 a9] ?_; (with_reducible refine (impl_OrOf.calls _ _ a4 _ _ a5 a8 a9 b8 _ (by refine (Kd.S_reads' (e := 24) (base := w.heap.size) (ok := fun k_ => some k_ ≠ (.slice e5 a5.length d6 : Value).ownBlock) (n := a4.length) (c := d5) ?_).2.2; exact zi_6) (y2 a3.out) (by refine (Kd.Q_reads' (e := 3) (base := w.heap.size) (ok := fun k_ => True) (n := a5.length) (c := d6) ?_).2.2; exact zi_11) (y2 a2.out) A4.out).mono ?_); rintro e w' ⟨rfl, hb⟩; refine ⟨_, rfl, ?_⟩; replace a3 := ak (Kd.S_below zi_6 hb); replace a2 := ak (Kd.Q_below zi_11 hb); replace a1 := ak (blk_below (g := a6) (o := .cells #[.slice e4 a4.length d5, .slice e5 a5.length d6] 26 (0, 0)) (by (with_reducible repeat (first | refine blk_drewN ?_ _ | refine blk_drew ?_ | refine blk_alloc ?_ _)); refine blk_put (cs := #[.slice e4 a4.length d5, .slice none 0 0]) ?_ 1 _ rfl; (with_reducible repeat (first | refine blk_drewN ?_ _ | refine blk_drew ?_ | refine blk_alloc ?_ _)); refine blk_put (cs := #[.slice none 0 0, .slice none 0 0]) ?_ 0 _ rfl; (with_reducible repeat (first | refine blk_drewN ?_ _ | refine blk_drew ?_ | refine blk_alloc ?_ _)); exact a1.out) hb); replace HB := ak (below_step zi_0 hb); (try clear hb); (try clear hb2); (try clear hk); (try clear hi); have b9 := cz20 a1.out; have d0 := cz21 a1.out; have d1 := blk_frozen a1.out 0; have d2 := blk_frozen a1.out 1) | ((with_reducible refine gate_callee (f := 34) rfl ?_); refine gl_ (some 24) Try.func34 #[.agg #[.slice e4 a4.length d5, .slice e5 a5.length d6], .int .i64 a8, .int .i64 a9] ?_; (with_reducible refine (spec_OrOf.calls k _ _ a4 _ _ a5 a8 a9 e8 _ (y1 a3.out) (y2 a3.out) (y1 a2.out) (y2 a2.out) A5.out).mono ?_); rintro e w' ⟨rfl, hb⟩; refine ⟨_, rfl, ?_⟩; replace a3 := ak (Kd.S_below (xS a3.out) hb); replace a2 := ak (Kd.Q_below (xQ a2.out) hb); replace a1 := ak (blk_below (g := a6) (o := .cells #[.slice e4 a4.length d5, .slice e5 a5.length d6] 26 (0, 0)) (xb a1.out) hb); replace HB := ak (below_step zi_0 hb); (try clear hb); (try clear hb2); (try clear hk); (try clear hi)))
   go_ret
   exact ⟨zi_2, zi_0⟩
  replace H := bd_ H
  obtain ⟨f1, i0, H⟩ := H
  replace H := bd_ H
  obtain ⟨e0, i1, H⟩ := H
  replace H := bd_ H
  obtain ⟨e1, i2, H⟩ := H
  replace H := bd_ H
  obtain ⟨f2, i3, H⟩ := H
  try dsimp only at H
  replace H := oe2 H
  rcases H with ⟨⟨-, g0, g1⟩, H⟩ | ⟨⟨j1, g0, g1⟩, H⟩
  ·
   replace H := bd_ H
   obtain ⟨f0, i4, H⟩ := H
   replace H := bd_ H
   obtain ⟨f6, i5, H⟩ := H
   replace H := bd_ H
   obtain ⟨f7, i6, H⟩ := H
   try dsimp only at H
   obtain rfl := Option.some.inj H
   go_enter Try.func8, Try.ntmps8
   try go_wp2_with (first | ((with_reducible refine gate_callee (f := 33) rfl ?_); refine gl_ (some 12) Try.func33 #[.slice A0 l0.length c0] ?_; (with_reducible refine (spec_DrawOrOf.calls k _ _ l0 a4 a5 a8 a9 _ (y4 HR0.out) f9.out A3.out).mono ?_); rintro e w' ⟨f3, f4, rfl, ho0, ho1, hb⟩; refine ⟨_, rfl, ?_⟩; have a3 := ak (Kd.S_lower ho0 (below_size zi_1)); have a2 := ak (Kd.Q_lower ho1 (below_size zi_1)); replace HB := ak (below_step zi_1 hb); (try clear hb); (try clear hb2); (try clear hk); (try clear hi); (try clear ho0); (try clear ho1)) | ((with_reducible refine gate_dst (N := 3) rfl ?_); refine bx_ (N := 3) (cs := #[.slice none 0 0, .slice none 0 0]) (t := 26) ?_; intro a6 hg j2 hbox hb; replace a3 := ak (Kd.S_below (xS a3.out) hb); replace a2 := ak (Kd.Q_below (xQ a2.out) hb); have a1 := ak (hbox); have e9 := ak ((by rw [hg]; exact (below_size zi_1) : w.heap.size ≤ a6)); have d9 := ak ((by rw [hg]; exact (below_size zi_1) : w.heap.size ≤ a6)); replace HB := ak (below_step zi_1 hb); clear hb hbox hg; obtain ⟨b2, b0, h4⟩ := Kd.S_slice a3.out; subst h4; have b9 := cz20 a1.out; have d0 := cz21 a1.out; have d1 := blk_frozen a1.out 0; have d2 := blk_frozen a1.out 1; obtain ⟨b3, b1, h5, _⟩ := Kd.Q_slice a2.out; subst h5) | ((with_reducible refine gate_callee (f := 30) rfl ?_); refine gl_ (some 19) Try.func30 #[.agg #[.slice b2 a4.length b0, .slice b3 a5.length b1], .int .i64 a8, .int .i64 a9] ?_; (with_reducible refine (impl_OrOf.calls _ _ a4 _ _ a5 a8 a9 b8 _ (by refine (Kd.S_reads' (e := 24) (base := w.heap.size) (ok := fun k_ => some k_ ≠ (.slice b3 a5.length b1 : Value).ownBlock) (n := a4.length) (c := b0) ?_).2.2; exact zi_5) (y2 a3.out) (by refine (Kd.Q_reads' (e := 3) (base := w.heap.size) (ok := fun k_ => True) (n := a5.length) (c := b1) ?_).2.2; exact zi_10) (y2 a2.out) A4.out).mono ?_); rintro e w' ⟨rfl, hb⟩; refine ⟨_, rfl, ?_⟩; replace a3 := ak (Kd.S_below zi_5 hb); replace a2 := ak (Kd.Q_below zi_10 hb); replace a1 := ak (blk_below (g := a6) (o := .cells #[.slice b2 a4.length b0, .slice b3 a5.length b1] 26 (0, 0)) (by (with_reducible repeat (first | refine blk_drewN ?_ _ | refine blk_drew ?_ | refine blk_alloc ?_ _)); refine blk_put (cs := #[.slice b2 a4.length b0, .slice none 0 0]) ?_ 1 _ rfl; (with_reducible repeat (first | refine blk_drewN ?_ _ | refine blk_drew ?_ | refine blk_alloc ?_ _)); refine blk_put (cs := #[.slice none 0 0, .slice none 0 0]) ?_ 0 _ rfl; (with_reducible repeat (first | refine blk_drewN ?_ _ | refine blk_drew ?_ | refine blk_alloc ?_ _)); exact a1.out) hb); replace HB := ak (below_step zi_0 hb); (try clear hb); (try clear hb2); (try clear hk); (try clear hi); have b9 := cz20 a1.out; have d0 := cz21 a1.out; have d1 := blk_frozen a1.out 0; have d2 := blk_frozen a1.out 1) | ((with_reducible refine gate_callee (f := 34) rfl ?_); refine gl_ (some 24) Try.func34 #[.agg #[.slice b2 a4.length b0, .slice b3 a5.length b1], .int .i64 a8, .int .i64 a9] ?_; (with_reducible refine (spec_OrOf.calls k _ _ a4 _ _ a5 a8 a9 e8 _ (y1 a3.out) (y2 a3.out) (y1 a2.out) (y2 a2.out) A5.out).mono ?_); rintro e i7 ⟨rfl, hb⟩; refine ⟨_, rfl, ?_⟩; replace a3 := ak (Kd.S_below (xS a3.out) hb); replace a2 := ak (Kd.Q_below (xQ a2.out) hb); replace a1 := ak (blk_below (g := a6) (o := .cells #[.slice b2 a4.length b0, .slice b3 a5.length b1] 26 (0, 0)) (xb a1.out) hb); replace HB := ak (below_step zi_0 hb); (try clear hb); (try clear hb2); (try clear hk); (try clear hi)))
   replace a3 := ak (Kd.S_drew a3.out)
   replace a2 := ak (Kd.Q_drew a2.out)
   replace a1 := ak (blk_drew a1.out)
   replace HB := ak (below_drew1 HB.out)
   refine start_ (n := 24) (S := fun w' => w'.cell? ⟨a6, 0, none⟩ = some (.slice b2 a4.length b0) ∧ w'.cell? ⟨a6, 1, none⟩ = some (.slice b3 a5.length b1)) (ds := []) (bA 24 0) (by kernel_rfl) rfl rfl ⟨(blk_cell a1.out 0).trans rfl, (blk_cell a1.out 1).trans rfl⟩ (fun hHeld => ?_); refine with_tabW laws_FnOrOf.tab9 laws_FnOrOf.bits9 (fun HT_ HW_ => ?_)
   generalize i7.drew = j3 at a3 a2 a1 HB hHeld ⊢
   refine pu_ (i := 1) (N := some 34) (bA 24 2) ?_
   refine pu_ (i := 5) (N := some 38) (bA 24 34) ?_
   refine pu_ (i := 8) (N := some 41) (bA 24 290) ?_
   refine tk_ (i := 0) (N := some 33) (bA 24 291) ?_
   refine tk_ (i := 3) (N := some 36) (bA 24 299) ?_
   refine tk_ (i := 4) (N := some 37) (bA 24 315) ?_
   refine tk_ (i := 7) (N := some 40) (bA 24 443) ?_
   refine one_ (i := 2) (N := some 35) (bA 24 447) rfl rfl (one_of HT_.out (by kernel_rfl)) (by decide) (fun K hK => ?_)
   refine ge_ Try.func29 #[.agg #[.slice b2 a4.length b0, .slice b3 a5.length b1], .int .i64 b8] ?_
   with_reducible refine (impl_NotOf.calls _ _ a4 _ _ a5 b8 f1 _ ?side1 ?side2 ?side3 ?side4 i0.out).mono ?_
   (case side1 => repeat (first | exact (Kd.S_reads' a3.out).2.2 | (with_reducible refine Kd.C_alloc ?_ _) | (with_reducible refine Kd.C_drewN ?_ _) | (with_reducible refine Kd.C_drew ?_)))
   (case side2 => exact (Kd.S_reads' a3.out).2.1)
   (case side3 => repeat (first | exact (Kd.Q_reads' a2.out).2.2 | (with_reducible refine Kd.C_alloc ?_ _) | (with_reducible refine Kd.C_drewN ?_ _) | (with_reducible refine Kd.C_drew ?_)))
   (case side4 => exact (Kd.Q_reads' a2.out).2.1)
   rintro e w' ⟨rfl, hb⟩
   refine ⟨_, rfl, ?_⟩
   replace a3 := ak (Kd.S_below (xS a3.out) hb)
   replace a2 := ak (Kd.Q_below (xQ a2.out) hb)
   replace a1 := ak (blk_below (g := a6) (o := .cells #[.slice b2 a4.length b0, .slice b3 a5.length b1] 26 (0, 0)) (xb a1.out) hb)
   replace HB := ak (below_step zi_0 hb)
   (try clear hb)
   (try clear hb2)
   (try clear hk)
   (try clear hi)
   refine hK.out _ _ ⟨(blk_cell a1.out 0).trans rfl, (blk_cell a1.out 1).trans rfl⟩ (fun hHeld => ?_)
   clear hK K
   refine no_ (N := some 35) ?_
   refine one_ (i := 6) (N := some 39) (bA 24 511) rfl rfl (one_of HT_.out (by kernel_rfl)) (by decide) (fun K hK => ?_)
   refine ge_ Try.func29 #[.agg #[.slice b2 a4.length b0, .slice b3 a5.length b1], .int .i64 a8] ?_
   with_reducible refine (impl_NotOf.calls _ _ a4 _ _ a5 a8 e0 _ ?side1 ?side2 ?side3 ?side4 i1.out).mono ?_
   (case side1 => repeat (first | exact (Kd.S_reads' a3.out).2.2 | (with_reducible refine Kd.C_alloc ?_ _) | (with_reducible refine Kd.C_drewN ?_ _) | (with_reducible refine Kd.C_drew ?_)))
   (case side2 => exact (Kd.S_reads' a3.out).2.1)
   (case side3 => repeat (first | exact (Kd.Q_reads' a2.out).2.2 | (with_reducible refine Kd.C_alloc ?_ _) | (with_reducible refine Kd.C_drewN ?_ _) | (with_reducible refine Kd.C_drew ?_)))
   (case side4 => exact (Kd.Q_reads' a2.out).2.1)
   rintro e w' ⟨rfl, hb⟩
   refine ⟨_, rfl, ?_⟩
   replace a3 := ak (Kd.S_below (xS a3.out) hb)
   replace a2 := ak (Kd.Q_below (xQ a2.out) hb)
   replace a1 := ak (blk_below (g := a6) (o := .cells #[.slice b2 a4.length b0, .slice b3 a5.length b1] 26 (0, 0)) (xb a1.out) hb)
   replace HB := ak (below_step zi_0 hb)
   (try clear hb)
   (try clear hb2)
   (try clear hk)
   (try clear hi)
   refine hK.out _ _ ⟨(blk_cell a1.out 0).trans rfl, (blk_cell a1.out 1).trans rfl⟩ (fun hHeld => ?_)
   clear hK K
   refine no_ (N := some 39) ?_
   refine one_ (i := 9) (N := some 42) (bA 24 1023) rfl rfl (one_of HT_.out (by kernel_rfl)) (by decide) (fun K hK => ?_)
   refine ge_ Try.func29 #[.agg #[.slice b2 a4.length b0, .slice b3 a5.length b1], .int .i64 a9] ?_
   with_reducible refine (impl_NotOf.calls _ _ a4 _ _ a5 a9 e1 _ ?side1 ?side2 ?side3 ?side4 i2.out).mono ?_
   (case side1 => repeat (first | exact (Kd.S_reads' a3.out).2.2 | (with_reducible refine Kd.C_alloc ?_ _) | (with_reducible refine Kd.C_drewN ?_ _) | (with_reducible refine Kd.C_drew ?_)))
   (case side2 => exact (Kd.S_reads' a3.out).2.1)
   (case side3 => repeat (first | exact (Kd.Q_reads' a2.out).2.2 | (with_reducible refine Kd.C_alloc ?_ _) | (with_reducible refine Kd.C_drewN ?_ _) | (with_reducible refine Kd.C_drew ?_)))
   (case side4 => exact (Kd.Q_reads' a2.out).2.1)
   rintro e w' ⟨rfl, hb⟩
   refine ⟨_, rfl, ?_⟩
   replace a3 := ak (Kd.S_below (xS a3.out) hb)
   replace a2 := ak (Kd.Q_below (xQ a2.out) hb)
   replace a1 := ak (blk_below (g := a6) (o := .cells #[.slice b2 a4.length b0, .slice b3 a5.length b1] 26 (0, 0)) (xb a1.out) hb)
   replace HB := ak (below_step zi_0 hb)
   (try clear hb)
   (try clear hb2)
   (try clear hk)
   (try clear hi)
   refine hK.out _ _ ⟨(blk_cell a1.out 0).trans rfl, (blk_cell a1.out 1).trans rfl⟩ (fun hHeld => ?_)
   clear hK K
   refine no_ (N := some 42) ?_
   refine one_ (i := 10) (N := some 43) (bA 24 2047) rfl rfl (one_of HT_.out (by kernel_rfl)) (by decide) (fun K hK => ?_)
   refine ge_ Try.func27 #[.agg #[.slice b2 a4.length b0, .slice b3 a5.length b1], .int .i64 e0, .int .i64 e1] ?_
   with_reducible refine (impl_AndOf.calls _ _ a4 _ _ a5 e0 e1 f2 _ ?side1 ?side2 ?side3 ?side4 i3.out).mono ?_
   (case side1 => repeat (first | exact (Kd.S_reads' a3.out).2.2 | (with_reducible refine Kd.C_alloc ?_ _) | (with_reducible refine Kd.C_drewN ?_ _) | (with_reducible refine Kd.C_drew ?_)))
   (case side2 => exact (Kd.S_reads' a3.out).2.1)
   (case side3 => repeat (first | exact (Kd.Q_reads' a2.out).2.2 | (with_reducible refine Kd.C_alloc ?_ _) | (with_reducible refine Kd.C_drewN ?_ _) | (with_reducible refine Kd.C_drew ?_)))
   (case side4 => exact (Kd.Q_reads' a2.out).2.1)
   rintro e w' ⟨rfl, hb⟩
   refine ⟨_, rfl, ?_⟩
   replace a3 := ak (Kd.S_below (xS a3.out) hb)
   replace a2 := ak (Kd.Q_below (xQ a2.out) hb)
   replace a1 := ak (blk_below (g := a6) (o := .cells #[.slice b2 a4.length b0, .slice b3 a5.length b1] 26 (0, 0)) (xb a1.out) hb)
   replace HB := ak (below_step zi_0 hb)
   (try clear hb)
   (try clear hb2)
   (try clear hk)
   (try clear hi)
   refine hK.out _ _ ⟨(blk_cell a1.out 0).trans rfl, (blk_cell a1.out 1).trans rfl⟩ (fun hHeld => ?_)
   clear hK K
   refine no_ (N := some 43) ?_
   refine pu_ (i := 11) (N := some 44) (bA 24 4095) ?_
   refine pu_ (i := 12) (N := some 45) (bA 24 8191) ?_
   refine pu_ (i := 14) (N := some 47) (bA 24 24575) ?_
   refine pu_ (i := 16) (N := some 49) (bA 24 90111) ?_
   refine tk_ (i := 13) (N := some 46) (bA 24 98303) ?_
   refine tk_ (i := 15) (N := some 48) (bA 24 131071) ?_
   refine tk_ (i := 19) (N := some 52) (bA 24 655359) ?_
   refine one_ (i := 17) (N := some 50) (bA 24 786431) rfl rfl (one_of HT_.out (by kernel_rfl)) (by decide) (fun K hK => ?_)
   refine ge_ Try.func29 #[.agg #[.slice b2 a4.length b0, .slice b3 a5.length b1], .int .i64 a8] ?_
   with_reducible refine (impl_NotOf.calls _ _ a4 _ _ a5 a8 f0 _ ?side1 ?side2 ?side3 ?side4 i4.out).mono ?_
   (case side1 => repeat (first | exact (Kd.S_reads' a3.out).2.2 | (with_reducible refine Kd.C_alloc ?_ _) | (with_reducible refine Kd.C_drewN ?_ _) | (with_reducible refine Kd.C_drew ?_)))
   (case side2 => exact (Kd.S_reads' a3.out).2.1)
   (case side3 => repeat (first | exact (Kd.Q_reads' a2.out).2.2 | (with_reducible refine Kd.C_alloc ?_ _) | (with_reducible refine Kd.C_drewN ?_ _) | (with_reducible refine Kd.C_drew ?_)))
   (case side4 => exact (Kd.Q_reads' a2.out).2.1)
   rintro e w' ⟨rfl, hb⟩
   refine ⟨_, rfl, ?_⟩
   replace a3 := ak (Kd.S_below (xS a3.out) hb)
   replace a2 := ak (Kd.Q_below (xQ a2.out) hb)
   replace a1 := ak (blk_below (g := a6) (o := .cells #[.slice b2 a4.length b0, .slice b3 a5.length b1] 26 (0, 0)) (xb a1.out) hb)
   replace HB := ak (below_step zi_0 hb)
   (try clear hb)
   (try clear hb2)
   (try clear hk)
   (try clear hi)
   refine hK.out _ _ ⟨(blk_cell a1.out 0).trans rfl, (blk_cell a1.out 1).trans rfl⟩ (fun hHeld => ?_)
   clear hK K
   refine no_ (N := some 50) ?_
   refine one_ (i := 18) (N := some 51) (bA 24 1048575) rfl rfl (one_of HT_.out (by kernel_rfl)) (by decide) (fun K hK => ?_)
   refine ge_ Try.func30 #[.agg #[.slice b2 a4.length b0, .slice b3 a5.length b1], .int .i64 a8, .int .i64 f0] ?_
   with_reducible refine (impl_OrOf.calls _ _ a4 _ _ a5 a8 f0 f6 _ ?side1 ?side2 ?side3 ?side4 i5.out).mono ?_
   (case side1 => repeat (first | exact (Kd.S_reads' a3.out).2.2 | (with_reducible refine Kd.C_alloc ?_ _) | (with_reducible refine Kd.C_drewN ?_ _) | (with_reducible refine Kd.C_drew ?_)))
   (case side2 => exact (Kd.S_reads' a3.out).2.1)
   (case side3 => repeat (first | exact (Kd.Q_reads' a2.out).2.2 | (with_reducible refine Kd.C_alloc ?_ _) | (with_reducible refine Kd.C_drewN ?_ _) | (with_reducible refine Kd.C_drew ?_)))
   (case side4 => exact (Kd.Q_reads' a2.out).2.1)
   rintro e w' ⟨rfl, hb⟩
   refine ⟨_, rfl, ?_⟩
   replace a3 := ak (Kd.S_below (xS a3.out) hb)
   replace a2 := ak (Kd.Q_below (xQ a2.out) hb)
   replace a1 := ak (blk_below (g := a6) (o := .cells #[.slice b2 a4.length b0, .slice b3 a5.length b1] 26 (0, 0)) (xb a1.out) hb)
   replace HB := ak (below_step zi_0 hb)
   (try clear hb)
   (try clear hb2)
   (try clear hk)
   (try clear hi)
   refine hK.out _ _ ⟨(blk_cell a1.out 0).trans rfl, (blk_cell a1.out 1).trans rfl⟩ (fun hHeld => ?_)
   clear hK K
   refine no_ (N := some 51) ?_
   refine one_ (i := 20) (N := some 53) (bA 24 2097151) rfl rfl (one_of HT_.out (by kernel_rfl)) (by decide) (fun K hK => ?_)
   refine ge_ Try.func23 #[.agg #[.slice b2 a4.length b0, .slice b3 a5.length b1]] ?_
   with_reducible refine (impl_YesOf.calls _ _ a4 _ _ a5 f7 _ ?side1 ?side2 ?side3 ?side4 i6.out).mono ?_
   (case side1 => repeat (first | exact (Kd.S_reads' a3.out).2.2 | (with_reducible refine Kd.C_alloc ?_ _) | (with_reducible refine Kd.C_drewN ?_ _) | (with_reducible refine Kd.C_drew ?_)))
   (case side2 => exact (Kd.S_reads' a3.out).2.1)
   (case side3 => repeat (first | exact (Kd.Q_reads' a2.out).2.2 | (with_reducible refine Kd.C_alloc ?_ _) | (with_reducible refine Kd.C_drewN ?_ _) | (with_reducible refine Kd.C_drew ?_)))
   (case side4 => exact (Kd.Q_reads' a2.out).2.1)
   rintro e w' ⟨rfl, hb⟩
   refine ⟨_, rfl, ?_⟩
   replace a3 := ak (Kd.S_below (xS a3.out) hb)
   replace a2 := ak (Kd.Q_below (xQ a2.out) hb)
   replace a1 := ak (blk_below (g := a6) (o := .cells #[.slice b2 a4.length b0, .slice b3 a5.length b1] 26 (0, 0)) (xb a1.out) hb)
   replace HB := ak (below_step zi_0 hb)
   (try clear hb)
   (try clear hb2)
   (try clear hk)
   (try clear hi)
   refine hK.out _ _ ⟨(blk_cell a1.out 0).trans rfl, (blk_cell a1.out 1).trans rfl⟩ (fun hHeld => ?_)
   clear hK K
   refine no_ (N := some 53) ?_
   refine pu_ (i := 21) (N := some 54) (bA 24 4194303) ?_
   refine pu_ (i := 22) (N := some 55) (bA 24 8388607) ?_
   refine pu_ (i := 23) (N := some 2) (bA 24 16777215) ?_
   refine done_ (done_of HT_.out (by kernel_rfl)) ?_
   try go_wp2
   go_ret
   exact ⟨zi_2, zi_0⟩
  obtain rfl := Option.some.inj H
  go_enter Try.func8, Try.ntmps8
  try go_wp2_with (first | ((with_reducible refine gate_callee (f := 33) rfl ?_); refine gl_ (some 12) Try.func33 #[.slice A0 l0.length c0] ?_; (with_reducible refine (spec_DrawOrOf.calls k _ _ l0 a4 a5 a8 a9 _ (y4 HR0.out) f9.out A3.out).mono ?_); rintro e w' ⟨f3, f4, rfl, ho0, ho1, hb⟩; refine ⟨_, rfl, ?_⟩; have a3 := ak (Kd.S_lower ho0 (below_size zi_1)); have a2 := ak (Kd.Q_lower ho1 (below_size zi_1)); replace HB := ak (below_step zi_1 hb); (try clear hb); (try clear hb2); (try clear hk); (try clear hi); (try clear ho0); (try clear ho1)) | ((with_reducible refine gate_dst (N := 3) rfl ?_); refine bx_ (N := 3) (cs := #[.slice none 0 0, .slice none 0 0]) (t := 26) ?_; intro a6 hg j4 hbox hb; replace a3 := ak (Kd.S_below (xS a3.out) hb); replace a2 := ak (Kd.Q_below (xQ a2.out) hb); have a1 := ak (hbox); have e9 := ak ((by rw [hg]; exact (below_size zi_1) : w.heap.size ≤ a6)); have d9 := ak ((by rw [hg]; exact (below_size zi_1) : w.heap.size ≤ a6)); replace HB := ak (below_step zi_1 hb); clear hb hbox hg; obtain ⟨b6, b4, h6⟩ := Kd.S_slice a3.out; subst h6; have b9 := cz20 a1.out; have d0 := cz21 a1.out; have d1 := blk_frozen a1.out 0; have d2 := blk_frozen a1.out 1; obtain ⟨b7, b5, h7, _⟩ := Kd.Q_slice a2.out; subst h7) | ((with_reducible refine gate_callee (f := 30) rfl ?_); refine gl_ (some 19) Try.func30 #[.agg #[.slice b6 a4.length b4, .slice b7 a5.length b5], .int .i64 a8, .int .i64 a9] ?_; (with_reducible refine (impl_OrOf.calls _ _ a4 _ _ a5 a8 a9 b8 _ (by refine (Kd.S_reads' (e := 24) (base := w.heap.size) (ok := fun k_ => some k_ ≠ (.slice b7 a5.length b5 : Value).ownBlock) (n := a4.length) (c := b4) ?_).2.2; exact zi_4) (y2 a3.out) (by refine (Kd.Q_reads' (e := 3) (base := w.heap.size) (ok := fun k_ => True) (n := a5.length) (c := b5) ?_).2.2; exact zi_9) (y2 a2.out) A4.out).mono ?_); rintro e w' ⟨rfl, hb⟩; refine ⟨_, rfl, ?_⟩; replace a3 := ak (Kd.S_below zi_4 hb); replace a2 := ak (Kd.Q_below zi_9 hb); replace a1 := ak (blk_below (g := a6) (o := .cells #[.slice b6 a4.length b4, .slice b7 a5.length b5] 26 (0, 0)) (by (with_reducible repeat (first | refine blk_drewN ?_ _ | refine blk_drew ?_ | refine blk_alloc ?_ _)); refine blk_put (cs := #[.slice b6 a4.length b4, .slice none 0 0]) ?_ 1 _ rfl; (with_reducible repeat (first | refine blk_drewN ?_ _ | refine blk_drew ?_ | refine blk_alloc ?_ _)); refine blk_put (cs := #[.slice none 0 0, .slice none 0 0]) ?_ 0 _ rfl; (with_reducible repeat (first | refine blk_drewN ?_ _ | refine blk_drew ?_ | refine blk_alloc ?_ _)); exact a1.out) hb); replace HB := ak (below_step zi_0 hb); (try clear hb); (try clear hb2); (try clear hk); (try clear hi); have b9 := cz20 a1.out; have d0 := cz21 a1.out; have d1 := blk_frozen a1.out 0; have d2 := blk_frozen a1.out 1) | ((with_reducible refine gate_callee (f := 34) rfl ?_); refine gl_ (some 24) Try.func34 #[.agg #[.slice b6 a4.length b4, .slice b7 a5.length b5], .int .i64 a8, .int .i64 a9] ?_; (with_reducible refine (spec_OrOf.calls k _ _ a4 _ _ a5 a8 a9 e8 _ (y1 a3.out) (y2 a3.out) (y1 a2.out) (y2 a2.out) A5.out).mono ?_); rintro e i8 ⟨rfl, hb⟩; refine ⟨_, rfl, ?_⟩; replace a3 := ak (Kd.S_below (xS a3.out) hb); replace a2 := ak (Kd.Q_below (xQ a2.out) hb); replace a1 := ak (blk_below (g := a6) (o := .cells #[.slice b6 a4.length b4, .slice b7 a5.length b5] 26 (0, 0)) (xb a1.out) hb); replace HB := ak (below_step zi_0 hb); (try clear hb); (try clear hb2); (try clear hk); (try clear hi)))
  replace a3 := ak (Kd.S_drew a3.out)
  replace a2 := ak (Kd.Q_drew a2.out)
  replace a1 := ak (blk_drew a1.out)
  replace HB := ak (below_drew1 HB.out)
  refine start_ (n := 24) (S := fun w' => w'.cell? ⟨a6, 0, none⟩ = some (.slice b6 a4.length b4) ∧ w'.cell? ⟨a6, 1, none⟩ = some (.slice b7 a5.length b5)) (ds := []) (bA 24 0) (by kernel_rfl) rfl rfl ⟨(blk_cell a1.out 0).trans rfl, (blk_cell a1.out 1).trans rfl⟩ (fun hHeld => ?_); refine with_tabW laws_FnOrOf.tab9 laws_FnOrOf.bits9 (fun HT_ HW_ => ?_)
  generalize i8.drew = j5 at a3 a2 a1 HB hHeld ⊢
  refine pu_ (i := 1) (N := some 34) (bA 24 2) ?_
  refine pu_ (i := 5) (N := some 38) (bA 24 34) ?_
  refine pu_ (i := 8) (N := some 41) (bA 24 290) ?_
  refine tk_ (i := 0) (N := some 33) (bA 24 291) ?_
  refine tk_ (i := 3) (N := some 36) (bA 24 299) ?_
  refine tk_ (i := 4) (N := some 37) (bA 24 315) ?_
  refine tk_ (i := 7) (N := some 40) (bA 24 443) ?_
  refine one_ (i := 2) (N := some 35) (bA 24 447) rfl rfl (one_of HT_.out (by kernel_rfl)) (by decide) (fun K hK => ?_)
  refine ge_ Try.func29 #[.agg #[.slice b6 a4.length b4, .slice b7 a5.length b5], .int .i64 b8] ?_
  with_reducible refine (impl_NotOf.calls _ _ a4 _ _ a5 b8 f1 _ ?side1 ?side2 ?side3 ?side4 i0.out).mono ?_
  (case side1 => repeat (first | exact (Kd.S_reads' a3.out).2.2 | (with_reducible refine Kd.C_alloc ?_ _) | (with_reducible refine Kd.C_drewN ?_ _) | (with_reducible refine Kd.C_drew ?_)))
  (case side2 => exact (Kd.S_reads' a3.out).2.1)
  (case side3 => repeat (first | exact (Kd.Q_reads' a2.out).2.2 | (with_reducible refine Kd.C_alloc ?_ _) | (with_reducible refine Kd.C_drewN ?_ _) | (with_reducible refine Kd.C_drew ?_)))
  (case side4 => exact (Kd.Q_reads' a2.out).2.1)
  rintro e w' ⟨rfl, hb⟩
  refine ⟨_, rfl, ?_⟩
  replace a3 := ak (Kd.S_below (xS a3.out) hb)
  replace a2 := ak (Kd.Q_below (xQ a2.out) hb)
  replace a1 := ak (blk_below (g := a6) (o := .cells #[.slice b6 a4.length b4, .slice b7 a5.length b5] 26 (0, 0)) (xb a1.out) hb)
  replace HB := ak (below_step zi_0 hb)
  (try clear hb)
  (try clear hb2)
  (try clear hk)
  (try clear hi)
  refine hK.out _ _ ⟨(blk_cell a1.out 0).trans rfl, (blk_cell a1.out 1).trans rfl⟩ (fun hHeld => ?_)
  clear hK K
  refine no_ (N := some 35) ?_
  refine one_ (i := 6) (N := some 39) (bA 24 511) rfl rfl (one_of HT_.out (by kernel_rfl)) (by decide) (fun K hK => ?_)
  refine ge_ Try.func29 #[.agg #[.slice b6 a4.length b4, .slice b7 a5.length b5], .int .i64 a8] ?_
  with_reducible refine (impl_NotOf.calls _ _ a4 _ _ a5 a8 e0 _ ?side1 ?side2 ?side3 ?side4 i1.out).mono ?_
  (case side1 => repeat (first | exact (Kd.S_reads' a3.out).2.2 | (with_reducible refine Kd.C_alloc ?_ _) | (with_reducible refine Kd.C_drewN ?_ _) | (with_reducible refine Kd.C_drew ?_)))
  (case side2 => exact (Kd.S_reads' a3.out).2.1)
  (case side3 => repeat (first | exact (Kd.Q_reads' a2.out).2.2 | (with_reducible refine Kd.C_alloc ?_ _) | (with_reducible refine Kd.C_drewN ?_ _) | (with_reducible refine Kd.C_drew ?_)))
  (case side4 => exact (Kd.Q_reads' a2.out).2.1)
  rintro e w' ⟨rfl, hb⟩
  refine ⟨_, rfl, ?_⟩
  replace a3 := ak (Kd.S_below (xS a3.out) hb)
  replace a2 := ak (Kd.Q_below (xQ a2.out) hb)
  replace a1 := ak (blk_below (g := a6) (o := .cells #[.slice b6 a4.length b4, .slice b7 a5.length b5] 26 (0, 0)) (xb a1.out) hb)
  replace HB := ak (below_step zi_0 hb)
  (try clear hb)
  (try clear hb2)
  (try clear hk)
  (try clear hi)
  refine hK.out _ _ ⟨(blk_cell a1.out 0).trans rfl, (blk_cell a1.out 1).trans rfl⟩ (fun hHeld => ?_)
  clear hK K
  refine no_ (N := some 39) ?_
  refine one_ (i := 9) (N := some 42) (bA 24 1023) rfl rfl (one_of HT_.out (by kernel_rfl)) (by decide) (fun K hK => ?_)
  refine ge_ Try.func29 #[.agg #[.slice b6 a4.length b4, .slice b7 a5.length b5], .int .i64 a9] ?_
  with_reducible refine (impl_NotOf.calls _ _ a4 _ _ a5 a9 e1 _ ?side1 ?side2 ?side3 ?side4 i2.out).mono ?_
  (case side1 => repeat (first | exact (Kd.S_reads' a3.out).2.2 | (with_reducible refine Kd.C_alloc ?_ _) | (with_reducible refine Kd.C_drewN ?_ _) | (with_reducible refine Kd.C_drew ?_)))
  (case side2 => exact (Kd.S_reads' a3.out).2.1)
  (case side3 => repeat (first | exact (Kd.Q_reads' a2.out).2.2 | (with_reducible refine Kd.C_alloc ?_ _) | (with_reducible refine Kd.C_drewN ?_ _) | (with_reducible refine Kd.C_drew ?_)))
  (case side4 => exact (Kd.Q_reads' a2.out).2.1)
  rintro e w' ⟨rfl, hb⟩
  refine ⟨_, rfl, ?_⟩
  replace a3 := ak (Kd.S_below (xS a3.out) hb)
  replace a2 := ak (Kd.Q_below (xQ a2.out) hb)
  replace a1 := ak (blk_below (g := a6) (o := .cells #[.slice b6 a4.length b4, .slice b7 a5.length b5] 26 (0, 0)) (xb a1.out) hb)
  replace HB := ak (below_step zi_0 hb)
  (try clear hb)
  (try clear hb2)
  (try clear hk)
  (try clear hi)
  refine hK.out _ _ ⟨(blk_cell a1.out 0).trans rfl, (blk_cell a1.out 1).trans rfl⟩ (fun hHeld => ?_)
  clear hK K
  refine no_ (N := some 42) ?_
  refine one_ (i := 10) (N := some 43) (bA 24 2047) rfl rfl (one_of HT_.out (by kernel_rfl)) (by decide) (fun K hK => ?_)
  refine ge_ Try.func27 #[.agg #[.slice b6 a4.length b4, .slice b7 a5.length b5], .int .i64 e0, .int .i64 e1] ?_
  with_reducible refine (impl_AndOf.calls _ _ a4 _ _ a5 e0 e1 f2 _ ?side1 ?side2 ?side3 ?side4 i3.out).mono ?_
  (case side1 => repeat (first | exact (Kd.S_reads' a3.out).2.2 | (with_reducible refine Kd.C_alloc ?_ _) | (with_reducible refine Kd.C_drewN ?_ _) | (with_reducible refine Kd.C_drew ?_)))
  (case side2 => exact (Kd.S_reads' a3.out).2.1)
  (case side3 => repeat (first | exact (Kd.Q_reads' a2.out).2.2 | (with_reducible refine Kd.C_alloc ?_ _) | (with_reducible refine Kd.C_drewN ?_ _) | (with_reducible refine Kd.C_drew ?_)))
  (case side4 => exact (Kd.Q_reads' a2.out).2.1)
  rintro e w' ⟨rfl, hb⟩
  refine ⟨_, rfl, ?_⟩
  replace a3 := ak (Kd.S_below (xS a3.out) hb)
  replace a2 := ak (Kd.Q_below (xQ a2.out) hb)
  replace a1 := ak (blk_below (g := a6) (o := .cells #[.slice b6 a4.length b4, .slice b7 a5.length b5] 26 (0, 0)) (xb a1.out) hb)
  replace HB := ak (below_step zi_0 hb)
  (try clear hb)
  (try clear hb2)
  (try clear hk)
  (try clear hi)
  refine hK.out _ _ ⟨(blk_cell a1.out 0).trans rfl, (blk_cell a1.out 1).trans rfl⟩ (fun hHeld => ?_)
  clear hK K
  refine no_ (N := some 43) ?_
  refine pu_ (i := 11) (N := some 44) (bA 24 4095) ?_
  refine pu_ (i := 12) (N := some 45) (bA 24 8191) ?_
  refine of_ (i := 13) (N := some 46) (bA 24 16383) ?_
  refine of_ (i := 14) (N := some 47) (bA 24 32767) ?_
  refine of_ (i := 15) (N := some 48) (bA 24 65535) ?_
  refine of_ (i := 16) (N := some 49) (bA 24 131071) ?_
  refine of_ (i := 17) (N := some 50) (bA 24 262143) ?_
  refine of_ (i := 18) (N := some 51) (bA 24 524287) ?_
  refine of_ (i := 19) (N := some 52) (bA 24 1048575) ?_
  refine of_ (i := 20) (N := some 53) (bA 24 2097151) ?_
  refine of_ (i := 21) (N := some 54) (bA 24 4194303) ?_
  refine pu_ (i := 22) (N := some 55) (bA 24 8388607) ?_
  refine pu_ (i := 23) (N := some 2) (bA 24 16777215) ?_
  refine done_ (done_of HT_.out (by kernel_rfl)) ?_
  try go_wp2
  go_ret
  exact ⟨zi_2, zi_0⟩
 obtain rfl := Option.some.inj H
 go_enter Try.func8, Try.ntmps8
 go_wp2_with (first | ((with_reducible refine gate_callee (f := 33) rfl ?_); refine gl_ (some 12) Try.func33 #[.slice A0 l0.length c0] ?_; (with_reducible refine (spec_DrawOrOf.calls k _ _ l0 a4 a5 a8 a9 _ (y4 HR0.out) f9.out A3.out).mono ?_); rintro e w' ⟨f3, f4, rfl, ho0, ho1, hb⟩; refine ⟨_, rfl, ?_⟩; have a3 := ak (Kd.S_lower ho0 (below_size zi_1)); have a2 := ak (Kd.Q_lower ho1 (below_size zi_1)); replace HB := ak (below_step zi_1 hb); (try clear hb); (try clear hb2); (try clear hk); (try clear hi); (try clear ho0); (try clear ho1)) | ((with_reducible refine gate_dst (N := 3) rfl ?_); refine bx_ (N := 3) (cs := #[.slice none 0 0, .slice none 0 0]) (t := 26) ?_; intro a6 hg j6 hbox hb; replace a3 := ak (Kd.S_below (xS a3.out) hb); replace a2 := ak (Kd.Q_below (xQ a2.out) hb); have a1 := ak (hbox); have e9 := ak ((by rw [hg]; exact (below_size zi_1) : w.heap.size ≤ a6)); have d9 := ak ((by rw [hg]; exact (below_size zi_1) : w.heap.size ≤ a6)); replace HB := ak (below_step zi_1 hb); clear hb hbox hg; obtain ⟨e6, d7, h8⟩ := Kd.S_slice a3.out; subst h8; have b9 := cz20 a1.out; have d0 := cz21 a1.out; have d1 := blk_frozen a1.out 0; have d2 := blk_frozen a1.out 1; obtain ⟨e7, d8, h9, _⟩ := Kd.Q_slice a2.out; subst h9) | ((with_reducible refine gate_callee (f := 30) rfl ?_); refine gl_ (some 19) Try.func30 #[.agg #[.slice e6 a4.length d7, .slice e7 a5.length d8], .int .i64 a8, .int .i64 a9] ?_; (with_reducible refine (impl_OrOf.calls _ _ a4 _ _ a5 a8 a9 b8 _ (by refine (Kd.S_reads' (e := 24) (base := w.heap.size) (ok := fun k_ => some k_ ≠ (.slice e7 a5.length d8 : Value).ownBlock) (n := a4.length) (c := d7) ?_).2.2; exact zi_3) (y2 a3.out) (by refine (Kd.Q_reads' (e := 3) (base := w.heap.size) (ok := fun k_ => True) (n := a5.length) (c := d8) ?_).2.2; exact zi_8) (y2 a2.out) A4.out).mono ?_); rintro e w' ⟨rfl, hb⟩; refine ⟨_, rfl, ?_⟩; replace a3 := ak (Kd.S_below zi_3 hb); replace a2 := ak (Kd.Q_below zi_8 hb); replace a1 := ak (blk_below (g := a6) (o := .cells #[.slice e6 a4.length d7, .slice e7 a5.length d8] 26 (0, 0)) (by (with_reducible repeat (first | refine blk_drewN ?_ _ | refine blk_drew ?_ | refine blk_alloc ?_ _)); refine blk_put (cs := #[.slice e6 a4.length d7, .slice none 0 0]) ?_ 1 _ rfl; (with_reducible repeat (first | refine blk_drewN ?_ _ | refine blk_drew ?_ | refine blk_alloc ?_ _)); refine blk_put (cs := #[.slice none 0 0, .slice none 0 0]) ?_ 0 _ rfl; (with_reducible repeat (first | refine blk_drewN ?_ _ | refine blk_drew ?_ | refine blk_alloc ?_ _)); exact a1.out) hb); replace HB := ak (below_step zi_0 hb); (try clear hb); (try clear hb2); (try clear hk); (try clear hi); have b9 := cz20 a1.out; have d0 := cz21 a1.out; have d1 := blk_frozen a1.out 0; have d2 := blk_frozen a1.out 1) | ((with_reducible refine gate_callee (f := 34) rfl ?_); refine gl_ (some 24) Try.func34 #[.agg #[.slice e6 a4.length d7, .slice e7 a5.length d8], .int .i64 a8, .int .i64 a9] ?_; (with_reducible refine (spec_OrOf.calls k _ _ a4 _ _ a5 a8 a9 e8 _ (y1 a3.out) (y2 a3.out) (y1 a2.out) (y2 a2.out) A5.out).mono ?_); rintro e w' ⟨rfl, hb⟩; refine ⟨_, rfl, ?_⟩; replace a3 := ak (Kd.S_below (xS a3.out) hb); replace a2 := ak (Kd.Q_below (xQ a2.out) hb); replace a1 := ak (blk_below (g := a6) (o := .cells #[.slice e6 a4.length d7, .slice e7 a5.length d8] 26 (0, 0)) (xb a1.out) hb); replace HB := ak (below_step zi_0 hb); (try clear hb); (try clear hb2); (try clear hk); (try clear hi)))
 go_ret
 exact ⟨zi_2, zi_0⟩

theorem laws_FnOrOf.walk (P : laws_FnOrOf.Pure) (a0 : Option Addr) (len0 cap0 : Nat) (z0 : List Int) (w : World) (w0 : (a0 = none ∧ len0 = 0 ∧ cap0 = 0 ∧ z0 = []) ∨ ∃ x, a0 = some x ∧ len0 ≤ cap0 ∧ cap0 ≤ maxLen ∧ z0.length = cap0 ∧ (∀ i, i < z0.length → w.cell? (x.add i) = some (.int .u8 (z0.getD i 0))) ∧ ∀ n ∈ z0, (Lit.int .u8 n).wf = true) (y0 : len0 * 1 ≤ 140737488351232) :
 Calls Try.prog 8 #[.slice a0 len0 cap0] w fun e w' => e = .returned (.bool true) ∧ Below w.heap.size w w' := by
 obtain ⟨l0, rfl, hr0, hm0, hw0, hc0⟩ := ReadsInt.ofRowC w0
 obtain ⟨k, h⟩ := P l0 hm0 y0 hw0
 refine (laws_FnOrOf.calls k _ _ l0 true w (Kd.C_of_reads (d := (0 : Int)) (h1 := fun _ => rfl) hr0) hc0 h).mono ?_
 rintro e w' ⟨rfl, hd⟩
 exact ⟨rfl, hd⟩

end Go.Proofs.Ytjgfpiilfnchnaa.P
