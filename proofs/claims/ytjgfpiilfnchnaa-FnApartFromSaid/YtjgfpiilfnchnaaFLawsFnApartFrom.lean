-- written by gen.py (a program of this session) out of the kit's print of this seat's translation
import Derived.Test.YtjgfpiilfnchnaaPk2
import Derived.Test.YtjgfpiilfnchnaaFLawsAlive
import Derived.Test.YtjgfpiilfnchnaaFSpecApartFrom
import Derived.Test.YtjgfpiilfnchnaaFSpecDrawApartFrom
import Derived.Test.YtjgfpiilfnchnaaV1
import Derived.Test.YtjgfpiilfnchnaaV3
import Derived.Test.YtjgfpiilfnchnaaV4
import Derived.Test.YtjgfpiilfnchnaaV6
namespace Go.Proofs.Ytjgfpiilfnchnaa.P
open Go.RowKit Go.Proofs.YtjgfpiilfnchnaaW.PrintWords Go.Proofs.YtjgfpiilfnchnaaW.PrintLast Go.Proofs.YtjgfpiilfnchnaaW.PrintMore
attribute [local go_sem] max2_int min2_int max_two min_two max_three min_three max_four min_four
set_option linter.unusedVariables false
set_option linter.unusedSimpArgs false
def laws_FnApartFrom.T9 : Bool × List (List Nat × List Nat) := (true, [([], []), ([0], [0]), ([1], [1]), ([2, 1], [2]), ([3], [3]), ([3], [3]), ([5, 3, 3], [3, 5]), ([4, 6, 3], [3, 4, 6]), ([3], [3]), ([3], [3]), ([3], [3]), ([8, 9, 10, 6, 3], [3, 8, 9, 10]), ([7, 11, 3], [3, 7, 11]), ([3, 12], [3, 12]), ([13, 11], [13]), ([14], [14]), ([14], [14]), ([14], [14]), ([15, 16, 17, 14, 14], [14, 15, 16, 17]), ([14], [14]), ([18, 19, 14], [14, 18, 19]), ([14, 20], [14, 20]), ([21, 18], [21]), ([22], [22]), ([22], [22]), ([22], [22]), ([24, 25, 22, 22], [22, 24, 25]), ([22], [22]), ([23, 26, 27, 26, 22], [22, 23, 26, 27]), ([22], [22]), ([28, 29, 22], [22, 28, 29]), ([22, 30], [22, 30]), ([31, 28, 0, 1, 2, 3, 4, 5, 6, 7, 8, 9, 10, 11, 12, 13, 14, 15, 16, 17, 18, 19, 20, 21, 22, 23, 24, 25, 26, 27, 28, 29, 30, 31], [31])])
def laws_FnApartFrom.B9 : List Nat := [0, 1, 3, 7, 15, 15, 47, 127, 15, 15, 15, 1903, 4095, 8191, 16383, 32767, 32767, 32767, 262143, 32767, 1048575, 2097151, 4194303, 8388607, 8388607, 8388607, 58720255, 8388607, 268435455, 8388607, 1073741823, 2147483647, 4294967295]
theorem laws_FnApartFrom.tab9 : rtab .any (opsOf Try.f13 9) = laws_FnApartFrom.T9 := by kernel_rfl
theorem laws_FnApartFrom.bits9 : waitsOk laws_FnApartFrom.T9.2 laws_FnApartFrom.B9 = true := by kernel_rfl
theorem zc_19 {p : Prop} (h : p := by kernel_rfl) : p := h
theorem zc_18 {p : Prop} (h : p := by (with_reducible repeat (first | apply Kd.S_alloc | apply Kd.S_drewN | apply Kd.S_drew)); exact (Kd.S_mono (Kd.S_far (p := ⟨a4, 1, none⟩) (Kd.S_far (p := ⟨a4, 0, none⟩) (Kd.S_types a3.out a1.out (by decide)) (fun _ hk => hk.2) (.slice g0 a5.length f4)) (fun _ hk => hk.2) (.slice g1 a6.length f5)) (fun _ h_ => h_.1))) : p := h
theorem zc_17 {p : Prop} (h : p := by (with_reducible repeat (first | apply Kd.S_alloc | apply Kd.S_drewN | apply Kd.S_drew)); exact (Kd.S_mono (Kd.S_far (p := ⟨a4, 1, none⟩) (Kd.S_far (p := ⟨a4, 0, none⟩) (Kd.S_types a3.out a1.out (by decide)) (fun _ hk => hk.2) (.slice g2 a5.length f6)) (fun _ hk => hk.2) (.slice g3 a6.length f7)) (fun _ h_ => h_.1))) : p := h
theorem zc_16 {p : Prop} (h : p := by (with_reducible repeat (first | apply Kd.S_alloc | apply Kd.S_drewN | apply Kd.S_drew)); exact (Kd.S_mono (Kd.S_far (p := ⟨a4, 1, none⟩) (Kd.S_far (p := ⟨a4, 0, none⟩) (Kd.S_types a3.out a1.out (by decide)) (fun _ hk => hk.2) (.slice b7 a5.length b5)) (fun _ hk => hk.2) (.slice b8 a6.length b6)) (fun _ h_ => h_.1))) : p := h
theorem zc_15 {p : Prop} (h : p := by (with_reducible repeat (first | apply Kd.S_alloc | apply Kd.S_drewN | apply Kd.S_drew)); exact (Kd.S_mono (Kd.S_far (p := ⟨a4, 1, none⟩) (Kd.S_far (p := ⟨a4, 0, none⟩) (Kd.S_types a3.out a1.out (by decide)) (fun _ hk => hk.2) (.slice d6 a5.length d1)) (fun _ hk => hk.2) (.slice d7 a6.length d2)) (fun _ h_ => h_.1))) : p := h
theorem zc_14 {p : Prop} (h : p := by (with_reducible repeat (first | apply Kd.S_alloc | apply Kd.S_drewN | apply Kd.S_drew)); exact (Kd.S_mono (Kd.S_far (p := ⟨a4, 1, none⟩) (Kd.S_far (p := ⟨a4, 0, none⟩) (Kd.S_types a3.out a1.out (by decide)) (fun _ hk => hk.2) (.slice e4 a5.length e1)) (fun _ hk => hk.2) (.slice e5 a6.length e2)) (fun _ h_ => h_.1))) : p := h
theorem zc_13 {p : Prop} (h : p := by (with_reducible repeat (first | apply Kd.S_alloc | apply Kd.S_drewN | apply Kd.S_drew)); exact (Kd.S_mono (Kd.S_far (p := ⟨a4, 1, none⟩) (Kd.S_far (p := ⟨a4, 0, none⟩) (Kd.S_types a3.out a1.out (by decide)) (fun _ hk => hk.2) (.slice d8 a5.length d3)) (fun _ hk => hk.2) (.slice d9 a6.length d4)) (fun _ h_ => h_.1))) : p := h
theorem zc_12 {p : Prop} (h : p := by (with_reducible repeat (first | apply Kd.S_alloc | apply Kd.S_drewN | apply Kd.S_drew)); exact (Kd.S_mono (Kd.S_far (p := ⟨a4, 1, none⟩) (Kd.S_far (p := ⟨a4, 0, none⟩) (Kd.S_types a3.out a1.out (by decide)) (fun _ hk => hk.2) (.slice f0 a5.length e6)) (fun _ hk => hk.2) (.slice f1 a6.length e7)) (fun _ h_ => h_.1))) : p := h
theorem zc_11 {p : Prop} (h : p := by (with_reducible repeat (first | apply Kd.Q_alloc | apply Kd.Q_drewN | apply Kd.Q_drew)); exact (Kd.Q_mono (Kd.Q_far (p := ⟨a4, 1, none⟩) (Kd.Q_far (p := ⟨a4, 0, none⟩) (Kd.Q_types a2.out a1.out (by decide)) (fun _ hk => hk.2) (.slice g0 a5.length f4)) (fun _ hk => hk.2) (.slice g1 a6.length f5)) (fun _ h_ => h_.1))) : p := h
theorem zc_10 {p : Prop} (h : p := by (with_reducible repeat (first | apply Kd.Q_alloc | apply Kd.Q_drewN | apply Kd.Q_drew)); exact (Kd.Q_mono (Kd.Q_far (p := ⟨a4, 1, none⟩) (Kd.Q_far (p := ⟨a4, 0, none⟩) (Kd.Q_types a2.out a1.out (by decide)) (fun _ hk => hk.2) (.slice g2 a5.length f6)) (fun _ hk => hk.2) (.slice g3 a6.length f7)) (fun _ h_ => h_.1))) : p := h
theorem zc_9 {p : Prop} (h : p := by (with_reducible repeat (first | apply Kd.Q_alloc | apply Kd.Q_drewN | apply Kd.Q_drew)); exact (Kd.Q_mono (Kd.Q_far (p := ⟨a4, 1, none⟩) (Kd.Q_far (p := ⟨a4, 0, none⟩) (Kd.Q_types a2.out a1.out (by decide)) (fun _ hk => hk.2) (.slice b7 a5.length b5)) (fun _ hk => hk.2) (.slice b8 a6.length b6)) (fun _ h_ => h_.1))) : p := h
theorem zc_8 {p : Prop} (h : p := by (with_reducible repeat (first | apply Kd.Q_alloc | apply Kd.Q_drewN | apply Kd.Q_drew)); exact (Kd.Q_mono (Kd.Q_far (p := ⟨a4, 1, none⟩) (Kd.Q_far (p := ⟨a4, 0, none⟩) (Kd.Q_types a2.out a1.out (by decide)) (fun _ hk => hk.2) (.slice d6 a5.length d1)) (fun _ hk => hk.2) (.slice d7 a6.length d2)) (fun _ h_ => h_.1))) : p := h
theorem zc_7 {p : Prop} (h : p := by (with_reducible repeat (first | apply Kd.Q_alloc | apply Kd.Q_drewN | apply Kd.Q_drew)); exact (Kd.Q_mono (Kd.Q_far (p := ⟨a4, 1, none⟩) (Kd.Q_far (p := ⟨a4, 0, none⟩) (Kd.Q_types a2.out a1.out (by decide)) (fun _ hk => hk.2) (.slice e4 a5.length e1)) (fun _ hk => hk.2) (.slice e5 a6.length e2)) (fun _ h_ => h_.1))) : p := h
theorem zc_6 {p : Prop} (h : p := by (with_reducible repeat (first | apply Kd.Q_alloc | apply Kd.Q_drewN | apply Kd.Q_drew)); exact (Kd.Q_mono (Kd.Q_far (p := ⟨a4, 1, none⟩) (Kd.Q_far (p := ⟨a4, 0, none⟩) (Kd.Q_types a2.out a1.out (by decide)) (fun _ hk => hk.2) (.slice d8 a5.length d3)) (fun _ hk => hk.2) (.slice d9 a6.length d4)) (fun _ h_ => h_.1))) : p := h
theorem zc_5 {p : Prop} (h : p := by (with_reducible repeat (first | apply Kd.Q_alloc | apply Kd.Q_drewN | apply Kd.Q_drew)); exact (Kd.Q_mono (Kd.Q_far (p := ⟨a4, 1, none⟩) (Kd.Q_far (p := ⟨a4, 0, none⟩) (Kd.Q_types a2.out a1.out (by decide)) (fun _ hk => hk.2) (.slice f0 a5.length e6)) (fun _ hk => hk.2) (.slice f1 a6.length e7)) (fun _ h_ => h_.1))) : p := h
theorem zc_4 {p : Prop} (h : p := by (with_reducible repeat (first | apply Kd.S_alloc | apply Kd.S_drewN | apply Kd.S_drew)); exact (Kd.S_mono (Kd.S_far (p := ⟨a4, 1, none⟩) (Kd.S_far (p := ⟨a4, 0, none⟩) (Kd.S_types a3.out a1.out (by decide)) (fun _ hk => hk.2) (.slice f2 a5.length e8)) (fun _ hk => hk.2) (.slice f3 a6.length e9)) (fun _ h_ => h_.1))) : p := h
theorem zc_3 {p : Prop} (h : p := by (with_reducible repeat (first | apply Kd.Q_alloc | apply Kd.Q_drewN | apply Kd.Q_drew)); exact (Kd.Q_mono (Kd.Q_far (p := ⟨a4, 1, none⟩) (Kd.Q_far (p := ⟨a4, 0, none⟩) (Kd.Q_types a2.out a1.out (by decide)) (fun _ hk => hk.2) (.slice f2 a5.length e8)) (fun _ hk => hk.2) (.slice f3 a6.length e9)) (fun _ h_ => h_.1))) : p := h
theorem zc_2 {p : Prop} (h : p := by first | rfl | (simp [errW_none, errW_some] <;> rfl) | (simp [*, errW_none, errW_some] <;> rfl)) : p := h
theorem zc_1 {p : Prop} (h : p := by repeat (first | (with_reducible first | exact HB.out | apply below_alloc | apply pw_below_drewN | apply below_drew1) | exact HB.out)) : p := h
theorem zc_0 {p : Prop} (h : p := by repeat (first | (with_reducible first | exact HB.out | apply below_alloc | apply pw_below_drewN | apply below_drew1 | refine below_set ?_ d5.out) | exact HB.out)) : p := h
set_option maxHeartbeats 8000000 in
set_option maxRecDepth 100000 in
theorem laws_FnApartFrom.calls (k : Nat) (A0 : Option Addr) (c0 : Nat) (l0 : List Int) (r : Bool) (w : World) (hr0 : Kd.C (Kd.int .u8) w A0 l0.length l0) (hc0 : l0.length ≤ c0) (h : laws_FnApartFrom.f k l0 = some r) :
 Calls Try.prog 13 #[.slice A0 l0.length c0] w fun e w' => e = .returned (.bool r) ∧ Below w.heap.size w w' := by
 have hu26 := Try.underlying26
 have HR0 := ak hr0
 have h3 := ak hc0
 clear hr0 hc0
 have HB := ak (Below.refl w.heap.size w)
 have H : (if (l0.length : Int) > 1048576 then (some true) else ((spec_DrawApartFrom.f k l0).bind fun a9 => ((impl_ApartFrom.f a9.1 a9.2.1 a9.2.2.1 a9.2.2.2).bind fun b0 => ((spec_ApartFrom.f k a9.1 a9.2.1 a9.2.2.1 a9.2.2.2).bind fun e0 => (if b0 = e0 then (if b0 < 0 then (if b0 = (-1) then ((laws_alive.f k).bind fun g8 => (some g8)) else (some false)) else ((impl_KeepsOk.f a9.1 a9.2.1).bind fun h4 => (if h4 = true then ((impl_YesOf.f a9.1 a9.2.1).bind fun b9 => ((impl_WithOk.f a9.1 a9.2.1 a9.2.2.1 a9.2.2.2).bind fun d0 => (if ((b0 == b9) == d0) = true then ((impl_ApartFrom.f a9.1 a9.2.1 a9.2.2.2 a9.2.2.1).bind fun g6 => (if g6 = b0 then ((impl_NotOf.f a9.1 a9.2.1 a9.2.2.1).bind fun f8 => ((impl_ApartFrom.f a9.1 a9.2.1 f8 a9.2.2.2).bind fun g9 => (some (g9 == b0)))) else (some false))) else (some false)))) else ((impl_ApartFrom.f a9.1 a9.2.1 a9.2.2.2 a9.2.2.1).bind fun g7 => (if g7 = b0 then ((impl_NotOf.f a9.1 a9.2.1 a9.2.2.1).bind fun f9 => ((impl_ApartFrom.f a9.1 a9.2.1 f9 a9.2.2.2).bind fun h0 => (some (h0 == b0)))) else (some false)))))) else (some false)))))) = some r := h
 clear h
 replace H := op_ H
 rcases H with ⟨c2, H⟩ | ⟨c2, H⟩
 ·
  have i5 : decide (1048576 < (l0.length : Int)) = true := dT_ c2
  have i6 : decide (1048576 < l0.length) = true := dT_ (by omega)
  clear c2
  obtain rfl := Option.some.inj H
  go_enter Try.func13, Try.ntmps13
  go_wp2
  go_ret
  exact ⟨zc_2, zc_1⟩
 have i5 : decide (1048576 < (l0.length : Int)) = false := dF_ c2
 have i6 : decide (1048576 < l0.length) = false := dF_ (by omega)
 clear c2
 replace H := bd_ H
 obtain ⟨⟨a5, a6, a7, a8⟩, A3, H⟩ := H
 try dsimp only at H
 replace H := bd_ H
 obtain ⟨b0, A4, H⟩ := H
 replace H := bd_ H
 obtain ⟨e0, A5, H⟩ := H
 try dsimp only at H
 replace H := oe2 H
 rcases H with ⟨⟨-, i7, i8⟩, H⟩ | ⟨⟨c6, i7, i8⟩, H⟩
 ·
  replace H := os_ H
  rcases H with ⟨i9, H⟩ | ⟨i9, H⟩
  ·
   replace H := oe2 H
   rcases H with ⟨⟨-, j0, j1⟩, H⟩ | ⟨⟨c8, j0, j1⟩, H⟩
   ·
    replace H := bd_ H
    obtain ⟨g8, A9, H⟩ := H
    try dsimp only at H
    obtain rfl := Option.some.inj H
    go_enter Try.func13, Try.ntmps13
    go_wp2_with (first | ((with_reducible refine gate_callee (f := 51) rfl ?_); refine gl_ (some 12) Try.func51 #[.slice A0 l0.length c0] ?_; (with_reducible refine (spec_DrawApartFrom.calls k _ _ l0 a5 a6 a7 a8 _ (y4 HR0.out) h3.out A3.out).mono ?_); rintro e w' ⟨g4, g5, rfl, ho0, ho1, hb⟩; refine ⟨_, rfl, ?_⟩; have a3 := ak (Kd.S_lower ho0 (below_size zc_1)); have a2 := ak (Kd.Q_lower ho1 (below_size zc_1)); replace HB := ak (below_step zc_1 hb); (try clear hb); (try clear hb2); (try clear hk); (try clear hi); (try clear ho0); (try clear ho1)) | ((with_reducible refine gate_dst (N := 3) rfl ?_); refine bx_ (N := 3) (cs := #[.slice none 0 0, .slice none 0 0]) (t := 26) ?_; intro a4 hg m3 hbox hb; replace a3 := ak (Kd.S_below (xS a3.out) hb); replace a2 := ak (Kd.Q_below (xQ a2.out) hb); have a1 := ak (hbox); have e3 := ak ((by rw [hg]; exact (below_size zc_1) : w.heap.size ≤ a4)); have d5 := ak ((by rw [hg]; exact (below_size zc_1) : w.heap.size ≤ a4)); replace HB := ak (below_step zc_1 hb); clear hb hbox hg; obtain ⟨g0, f4, j2⟩ := Kd.S_slice a3.out; subst j2; have b1 := cz20 a1.out; have b2 := cz21 a1.out; have b3 := blk_frozen a1.out 0; have b4 := blk_frozen a1.out 1; obtain ⟨g1, f5, j3, _⟩ := Kd.Q_slice a2.out; subst j3) | ((with_reducible refine gate_callee (f := 52) rfl ?_); refine gl_ (some 19) Try.func52 #[.agg #[.slice g0 a5.length f4, .slice g1 a6.length f5], .int .i64 a7, .int .i64 a8] ?_; (with_reducible refine (impl_ApartFrom.calls _ _ a5 _ _ a6 a7 a8 b0 _ (by refine (Kd.S_reads' (e := 24) (base := w.heap.size) (ok := fun k_ => some k_ ≠ (.slice g1 a6.length f5 : Value).ownBlock) (n := a5.length) (c := f4) ?_).2.2; exact zc_18) (y2 a3.out) (by refine (Kd.Q_reads' (e := 3) (base := w.heap.size) (ok := fun k_ => True) (n := a6.length) (c := f5) ?_).2.2; exact zc_11) (y2 a2.out) A4.out).mono ?_); rintro e w' ⟨rfl, hb⟩; refine ⟨_, rfl, ?_⟩; replace a3 := ak (Kd.S_below zc_18 hb); replace a2 := ak (Kd.Q_below zc_11 hb); replace a1 := ak (blk_below (g := a4) (o := .cells #[.slice g0 a5.length f4, .slice g1 a6.length f5] 26 (0, 0)) (by (with_reducible repeat (first | refine blk_drewN ?_ _ | refine blk_drew ?_ | refine blk_alloc ?_ _)); refine blk_put (cs := #[.slice g0 a5.length f4, .slice none 0 0]) ?_ 1 _ rfl; (with_reducible repeat (first | refine blk_drewN ?_ _ | refine blk_drew ?_ | refine blk_alloc ?_ _)); refine blk_put (cs := #[.slice none 0 0, .slice none 0 0]) ?_ 0 _ rfl; (with_reducible repeat (first | refine blk_drewN ?_ _ | refine blk_drew ?_ | refine blk_alloc ?_ _)); exact a1.out) hb); replace HB := ak (below_step zc_0 hb); (try clear hb); (try clear hb2); (try clear hk); (try clear hi); have b1 := cz20 a1.out; have b2 := cz21 a1.out; have b3 := blk_frozen a1.out 0; have b4 := blk_frozen a1.out 1) | ((first | ((with_reducible refine gate_callee (f := 53) rfl ?_); refine gl_ (some 24) Try.func53 #[.agg #[.slice g0 a5.length f4, .slice g1 a6.length f5], .int .i64 a7, .int .i64 a8] ?_; (with_reducible refine (spec_ApartFrom.calls k _ _ a5 _ _ a6 a7 a8 e0 _ (y1 a3.out) (y2 a3.out) (y1 a2.out) (y2 a2.out) A5.out).mono ?_); rintro e w' ⟨rfl, hb⟩; refine ⟨_, rfl, ?_⟩) | (go_at_call 17; (with_reducible refine (laws_alive.calls k  g8 _ A9.out).mono ?_); rintro e w' ⟨rfl, hb⟩)); replace a3 := ak (Kd.S_below (xS a3.out) hb); replace a2 := ak (Kd.Q_below (xQ a2.out) hb); replace a1 := ak (blk_below (g := a4) (o := .cells #[.slice g0 a5.length f4, .slice g1 a6.length f5] 26 (0, 0)) (xb a1.out) hb); replace HB := ak (below_step zc_0 hb); (try clear hb); (try clear hb2); (try clear hk); (try clear hi)))
    go_ret
    exact ⟨zc_2, zc_0⟩
   obtain rfl := Option.some.inj H
   go_enter Try.func13, Try.ntmps13
   go_wp2_with (first | ((with_reducible refine gate_callee (f := 51) rfl ?_); refine gl_ (some 12) Try.func51 #[.slice A0 l0.length c0] ?_; (with_reducible refine (spec_DrawApartFrom.calls k _ _ l0 a5 a6 a7 a8 _ (y4 HR0.out) h3.out A3.out).mono ?_); rintro e w' ⟨g4, g5, rfl, ho0, ho1, hb⟩; refine ⟨_, rfl, ?_⟩; have a3 := ak (Kd.S_lower ho0 (below_size zc_1)); have a2 := ak (Kd.Q_lower ho1 (below_size zc_1)); replace HB := ak (below_step zc_1 hb); (try clear hb); (try clear hb2); (try clear hk); (try clear hi); (try clear ho0); (try clear ho1)) | ((with_reducible refine gate_dst (N := 3) rfl ?_); refine bx_ (N := 3) (cs := #[.slice none 0 0, .slice none 0 0]) (t := 26) ?_; intro a4 hg m4 hbox hb; replace a3 := ak (Kd.S_below (xS a3.out) hb); replace a2 := ak (Kd.Q_below (xQ a2.out) hb); have a1 := ak (hbox); have e3 := ak ((by rw [hg]; exact (below_size zc_1) : w.heap.size ≤ a4)); have d5 := ak ((by rw [hg]; exact (below_size zc_1) : w.heap.size ≤ a4)); replace HB := ak (below_step zc_1 hb); clear hb hbox hg; obtain ⟨g2, f6, j4⟩ := Kd.S_slice a3.out; subst j4; have b1 := cz20 a1.out; have b2 := cz21 a1.out; have b3 := blk_frozen a1.out 0; have b4 := blk_frozen a1.out 1; obtain ⟨g3, f7, j5, _⟩ := Kd.Q_slice a2.out; subst j5) | ((with_reducible refine gate_callee (f := 52) rfl ?_); refine gl_ (some 19) Try.func52 #[.agg #[.slice g2 a5.length f6, .slice g3 a6.length f7], .int .i64 a7, .int .i64 a8] ?_; (with_reducible refine (impl_ApartFrom.calls _ _ a5 _ _ a6 a7 a8 b0 _ (by refine (Kd.S_reads' (e := 24) (base := w.heap.size) (ok := fun k_ => some k_ ≠ (.slice g3 a6.length f7 : Value).ownBlock) (n := a5.length) (c := f6) ?_).2.2; exact zc_17) (y2 a3.out) (by refine (Kd.Q_reads' (e := 3) (base := w.heap.size) (ok := fun k_ => True) (n := a6.length) (c := f7) ?_).2.2; exact zc_10) (y2 a2.out) A4.out).mono ?_); rintro e w' ⟨rfl, hb⟩; refine ⟨_, rfl, ?_⟩; replace a3 := ak (Kd.S_below zc_17 hb); replace a2 := ak (Kd.Q_below zc_10 hb); replace a1 := ak (blk_below (g := a4) (o := .cells #[.slice g2 a5.length f6, .slice g3 a6.length f7] 26 (0, 0)) (by (with_reducible repeat (first | refine blk_drewN ?_ _ | refine blk_drew ?_ | refine blk_alloc ?_ _)); refine blk_put (cs := #[.slice g2 a5.length f6, .slice none 0 0]) ?_ 1 _ rfl; (with_reducible repeat (first | refine blk_drewN ?_ _ | refine blk_drew ?_ | refine blk_alloc ?_ _)); refine blk_put (cs := #[.slice none 0 0, .slice none 0 0]) ?_ 0 _ rfl; (with_reducible repeat (first | refine blk_drewN ?_ _ | refine blk_drew ?_ | refine blk_alloc ?_ _)); exact a1.out) hb); replace HB := ak (below_step zc_0 hb); (try clear hb); (try clear hb2); (try clear hk); (try clear hi); have b1 := cz20 a1.out; have b2 := cz21 a1.out; have b3 := blk_frozen a1.out 0; have b4 := blk_frozen a1.out 1) | ((with_reducible refine gate_callee (f := 53) rfl ?_); refine gl_ (some 24) Try.func53 #[.agg #[.slice g2 a5.length f6, .slice g3 a6.length f7], .int .i64 a7, .int .i64 a8] ?_; (with_reducible refine (spec_ApartFrom.calls k _ _ a5 _ _ a6 a7 a8 e0 _ (y1 a3.out) (y2 a3.out) (y1 a2.out) (y2 a2.out) A5.out).mono ?_); rintro e w' ⟨rfl, hb⟩; refine ⟨_, rfl, ?_⟩; replace a3 := ak (Kd.S_below (xS a3.out) hb); replace a2 := ak (Kd.Q_below (xQ a2.out) hb); replace a1 := ak (blk_below (g := a4) (o := .cells #[.slice g2 a5.length f6, .slice g3 a6.length f7] 26 (0, 0)) (xb a1.out) hb); replace HB := ak (below_step zc_0 hb); (try clear hb); (try clear hb2); (try clear hk); (try clear hi)))
   go_ret
   exact ⟨zc_2, zc_0⟩
  replace H := bd_ H
  obtain ⟨h4, h5, H⟩ := H
  try dsimp only at H
  replace H := ox_ H
  rcases H with ⟨rfl, H⟩ | ⟨rfl, H⟩
  ·
   replace H := bd_ H
   obtain ⟨b9, j6, H⟩ := H
   replace H := bd_ H
   obtain ⟨d0, j7, H⟩ := H
   try dsimp only at H
   replace H := op_ H
   rcases H with ⟨h2, H⟩ | ⟨h2, H⟩
   ·
    have h6 : ((b0 == b9) == d0) = true := h2
    (try (have h7 : decide ((b0 == b9) = d0) = true := by simpa using h2))
    (try (have h8 : ((b0 == b9) == d0) = true := by simpa using h2))
    clear h2
    replace H := bd_ H
    obtain ⟨g6, k9, H⟩ := H
    try dsimp only at H
    replace H := oe2 H
    rcases H with ⟨⟨-, h9, i0⟩, H⟩ | ⟨⟨m5, h9, i0⟩, H⟩
    ·
     replace H := bd_ H
     obtain ⟨f8, l3, H⟩ := H
     replace H := bd_ H
     obtain ⟨g9, l4, H⟩ := H
     try dsimp only at H
     obtain rfl := Option.some.inj H
     go_enter Try.func13, Try.ntmps13
     try go_wp2_with (first | ((with_reducible refine gate_callee (f := 51) rfl ?_); refine gl_ (some 12) Try.func51 #[.slice A0 l0.length c0] ?_; (with_reducible refine (spec_DrawApartFrom.calls k _ _ l0 a5 a6 a7 a8 _ (y4 HR0.out) h3.out A3.out).mono ?_); rintro e w' ⟨g4, g5, rfl, ho0, ho1, hb⟩; refine ⟨_, rfl, ?_⟩; have a3 := ak (Kd.S_lower ho0 (below_size zc_1)); have a2 := ak (Kd.Q_lower ho1 (below_size zc_1)); replace HB := ak (below_step zc_1 hb); (try clear hb); (try clear hb2); (try clear hk); (try clear hi); (try clear ho0); (try clear ho1)) | ((with_reducible refine gate_dst (N := 3) rfl ?_); refine bx_ (N := 3) (cs := #[.slice none 0 0, .slice none 0 0]) (t := 26) ?_; intro a4 hg m6 hbox hb; replace a3 := ak (Kd.S_below (xS a3.out) hb); replace a2 := ak (Kd.Q_below (xQ a2.out) hb); have a1 := ak (hbox); have e3 := ak ((by rw [hg]; exact (below_size zc_1) : w.heap.size ≤ a4)); have d5 := ak ((by rw [hg]; exact (below_size zc_1) : w.heap.size ≤ a4)); replace HB := ak (below_step zc_1 hb); clear hb hbox hg; obtain ⟨b7, b5, j8⟩ := Kd.S_slice a3.out; subst j8; have b1 := cz20 a1.out; have b2 := cz21 a1.out; have b3 := blk_frozen a1.out 0; have b4 := blk_frozen a1.out 1; obtain ⟨b8, b6, j9, _⟩ := Kd.Q_slice a2.out; subst j9) | ((with_reducible refine gate_callee (f := 52) rfl ?_); refine gl_ (some 19) Try.func52 #[.agg #[.slice b7 a5.length b5, .slice b8 a6.length b6], .int .i64 a7, .int .i64 a8] ?_; (with_reducible refine (impl_ApartFrom.calls _ _ a5 _ _ a6 a7 a8 b0 _ (by refine (Kd.S_reads' (e := 24) (base := w.heap.size) (ok := fun k_ => some k_ ≠ (.slice b8 a6.length b6 : Value).ownBlock) (n := a5.length) (c := b5) ?_).2.2; exact zc_16) (y2 a3.out) (by refine (Kd.Q_reads' (e := 3) (base := w.heap.size) (ok := fun k_ => True) (n := a6.length) (c := b6) ?_).2.2; exact zc_9) (y2 a2.out) A4.out).mono ?_); rintro e w' ⟨rfl, hb⟩; refine ⟨_, rfl, ?_⟩; replace a3 := ak (Kd.S_below zc_16 hb); replace a2 := ak (Kd.Q_below zc_9 hb); replace a1 := ak (blk_below (g := a4) (o := .cells #[.slice b7 a5.length b5, .slice b8 a6.length b6] 26 (0, 0)) (by (with_reducible repeat (first | refine blk_drewN ?_ _ | refine blk_drew ?_ | refine blk_alloc ?_ _)); refine blk_put (cs := #[.slice b7 a5.length b5, .slice none 0 0]) ?_ 1 _ rfl; (with_reducible repeat (first | refine blk_drewN ?_ _ | refine blk_drew ?_ | refine blk_alloc ?_ _)); refine blk_put (cs := #[.slice none 0 0, .slice none 0 0]) ?_ 0 _ rfl; (with_reducible repeat (first | refine blk_drewN ?_ _ | refine blk_drew ?_ | refine blk_alloc ?_ _)); exact a1.out) hb); replace HB := ak (below_step zc_0 hb); (try clear hb); (try clear hb2); (try clear hk); (try clear hi); have b1 := cz20 a1.out; have b2 := cz21 a1.out; have b3 := blk_frozen a1.out 0; have b4 := blk_frozen a1.out 1) | ((with_reducible refine gate_callee (f := 53) rfl ?_); refine gl_ (some 24) Try.func53 #[.agg #[.slice b7 a5.length b5, .slice b8 a6.length b6], .int .i64 a7, .int .i64 a8] ?_; (with_reducible refine (spec_ApartFrom.calls k _ _ a5 _ _ a6 a7 a8 e0 _ (y1 a3.out) (y2 a3.out) (y1 a2.out) (y2 a2.out) A5.out).mono ?_); rintro e l5 ⟨rfl, hb⟩; refine ⟨_, rfl, ?_⟩; replace a3 := ak (Kd.S_below (xS a3.out) hb); replace a2 := ak (Kd.Q_below (xQ a2.out) hb); replace a1 := ak (blk_below (g := a4) (o := .cells #[.slice b7 a5.length b5, .slice b8 a6.length b6] 26 (0, 0)) (xb a1.out) hb); replace HB := ak (below_step zc_0 hb); (try clear hb); (try clear hb2); (try clear hk); (try clear hi)))
     replace a3 := ak (Kd.S_drew a3.out)
     replace a2 := ak (Kd.Q_drew a2.out)
     replace a1 := ak (blk_drew a1.out)
     replace HB := ak (below_drew1 HB.out)
     refine start_ (n := 33) (S := fun w' => w'.cell? ⟨a4, 0, none⟩ = some (.slice b7 a5.length b5) ∧ w'.cell? ⟨a4, 1, none⟩ = some (.slice b8 a6.length b6)) (ds := []) (bA 33 0) zc_19 rfl rfl ⟨(blk_cell a1.out 0).trans rfl, (blk_cell a1.out 1).trans rfl⟩ (fun hHeld => ?_); refine with_tabW laws_FnApartFrom.tab9 laws_FnApartFrom.bits9 (fun HT_ HW_ => ?_)
     generalize l5.drew = m7 at a3 a2 a1 HB hHeld ⊢
     refine tk_ (i := 0) (N := some 33) (bA 33 1) ?_
     refine one_ (i := 1) (N := some 34) (bA 33 3) rfl rfl (one_of HT_.out zc_19) (by decide) (fun K hK => ?_)
     refine ge_ Try.func42 #[.agg #[.slice b7 a5.length b5, .slice b8 a6.length b6]] ?_
     with_reducible refine (impl_KeepsOk.calls _ _ a5 _ _ a6 true _ ?side1 ?side2 ?side3 ?side4 h5.out).mono ?_
     (case side1 => repeat (first | exact (Kd.S_reads' a3.out).2.2 | (with_reducible refine Kd.C_alloc ?_ _) | (with_reducible refine Kd.C_drewN ?_ _) | (with_reducible refine Kd.C_drew ?_)))
     (case side2 => exact (Kd.S_reads' a3.out).2.1)
     (case side3 => repeat (first | exact (Kd.Q_reads' a2.out).2.2 | (with_reducible refine Kd.C_alloc ?_ _) | (with_reducible refine Kd.C_drewN ?_ _) | (with_reducible refine Kd.C_drew ?_)))
     (case side4 => exact (Kd.Q_reads' a2.out).2.1)
     rintro e w' ⟨rfl, hb⟩
     refine ⟨_, rfl, ?_⟩
     replace a3 := ak (Kd.S_below (xS a3.out) hb)
     replace a2 := ak (Kd.Q_below (xQ a2.out) hb)
     replace a1 := ak (blk_below (g := a4) (o := .cells #[.slice b7 a5.length b5, .slice b8 a6.length b6] 26 (0, 0)) (xb a1.out) hb)
     replace HB := ak (below_step zc_0 hb)
     (try clear hb)
     (try clear hb2)
     (try clear hk)
     (try clear hi)
     refine hK.out _ _ ⟨(blk_cell a1.out 0).trans rfl, (blk_cell a1.out 1).trans rfl⟩ (fun hHeld => ?_)
     clear hK K
     refine no_ (N := some 34) ?_
     refine pu_ (i := 2) (N := some 35) (bA 33 7) ?_
     refine pu_ (i := 3) (N := some 36) (bA 33 15) ?_
     refine pu_ (i := 4) (N := some 37) (bA 33 31) ?_
     refine pu_ (i := 9) (N := some 42) (bA 33 543) ?_
     refine pu_ (i := 10) (N := some 43) (bA 33 1567) ?_
     refine tk_ (i := 5) (N := some 38) (bA 33 1599) ?_
     refine tk_ (i := 8) (N := some 41) (bA 33 1855) ?_
     refine one_ (i := 6) (N := some 39) (bA 33 1919) rfl rfl (one_of HT_.out zc_19) (by decide) (fun K hK => ?_)
     refine ge_ Try.func23 #[.agg #[.slice b7 a5.length b5, .slice b8 a6.length b6]] ?_
     with_reducible refine (impl_YesOf.calls _ _ a5 _ _ a6 b9 _ ?side1 ?side2 ?side3 ?side4 j6.out).mono ?_
     (case side1 => repeat (first | exact (Kd.S_reads' a3.out).2.2 | (with_reducible refine Kd.C_alloc ?_ _) | (with_reducible refine Kd.C_drewN ?_ _) | (with_reducible refine Kd.C_drew ?_)))
     (case side2 => exact (Kd.S_reads' a3.out).2.1)
     (case side3 => repeat (first | exact (Kd.Q_reads' a2.out).2.2 | (with_reducible refine Kd.C_alloc ?_ _) | (with_reducible refine Kd.C_drewN ?_ _) | (with_reducible refine Kd.C_drew ?_)))
     (case side4 => exact (Kd.Q_reads' a2.out).2.1)
     rintro e w' ⟨rfl, hb⟩
     refine ⟨_, rfl, ?_⟩
     replace a3 := ak (Kd.S_below (xS a3.out) hb)
     replace a2 := ak (Kd.Q_below (xQ a2.out) hb)
     replace a1 := ak (blk_below (g := a4) (o := .cells #[.slice b7 a5.length b5, .slice b8 a6.length b6] 26 (0, 0)) (xb a1.out) hb)
     replace HB := ak (below_step zc_0 hb)
     (try clear hb)
     (try clear hb2)
     (try clear hk)
     (try clear hi)
     refine hK.out _ _ ⟨(blk_cell a1.out 0).trans rfl, (blk_cell a1.out 1).trans rfl⟩ (fun hHeld => ?_)
     clear hK K
     refine no_ (N := some 39) ?_
     refine pu_ (i := 7) (N := some 40) (bA 33 2047) ?_
     refine one_ (i := 11) (N := some 44) (bA 33 4095) rfl rfl (one_of HT_.out zc_19) (by decide) (fun K hK => ?_)
     refine ge_ Try.func45 #[.agg #[.slice b7 a5.length b5, .slice b8 a6.length b6], .int .i64 a7, .int .i64 a8] ?_
     with_reducible refine (impl_WithOk.calls _ _ a5 _ _ a6 a7 a8 d0 _ ?side1 ?side2 ?side3 ?side4 j7.out).mono ?_
     (case side1 => repeat (first | exact (Kd.S_reads' a3.out).2.2 | (with_reducible refine Kd.C_alloc ?_ _) | (with_reducible refine Kd.C_drewN ?_ _) | (with_reducible refine Kd.C_drew ?_)))
     (case side2 => exact (Kd.S_reads' a3.out).2.1)
     (case side3 => repeat (first | exact (Kd.Q_reads' a2.out).2.2 | (with_reducible refine Kd.C_alloc ?_ _) | (with_reducible refine Kd.C_drewN ?_ _) | (with_reducible refine Kd.C_drew ?_)))
     (case side4 => exact (Kd.Q_reads' a2.out).2.1)
     rintro e w' ⟨rfl, hb⟩
     refine ⟨_, rfl, ?_⟩
     replace a3 := ak (Kd.S_below (xS a3.out) hb)
     replace a2 := ak (Kd.Q_below (xQ a2.out) hb)
     replace a1 := ak (blk_below (g := a4) (o := .cells #[.slice b7 a5.length b5, .slice b8 a6.length b6] 26 (0, 0)) (xb a1.out) hb)
     replace HB := ak (below_step zc_0 hb)
     (try clear hb)
     (try clear hb2)
     (try clear hk)
     (try clear hi)
     refine hK.out _ _ ⟨(blk_cell a1.out 0).trans rfl, (blk_cell a1.out 1).trans rfl⟩ (fun hHeld => ?_)
     clear hK K
     refine no_ (N := some 44) ?_
     refine pu_ (i := 12) (N := some 45) (bA 33 8191) ?_
     refine pu_ (i := 13) (N := some 46) (bA 33 16383) ?_
     refine pu_ (i := 14) (N := some 47) (bA 33 32767) ?_
     refine pu_ (i := 16) (N := some 49) (bA 33 98303) ?_
     refine pu_ (i := 17) (N := some 50) (bA 33 229375) ?_
     refine pu_ (i := 19) (N := some 52) (bA 33 753663) ?_
     refine tk_ (i := 15) (N := some 48) (bA 33 786431) ?_
     refine one_ (i := 18) (N := some 51) (bA 33 1048575) rfl rfl (one_of HT_.out zc_19) (by decide) (fun K hK => ?_)
     refine ge_ Try.func52 #[.agg #[.slice b7 a5.length b5, .slice b8 a6.length b6], .int .i64 a8, .int .i64 a7] ?_
     with_reducible refine (impl_ApartFrom.calls _ _ a5 _ _ a6 a8 a7 g6 _ ?side1 ?side2 ?side3 ?side4 k9.out).mono ?_
     (case side1 => repeat (first | exact (Kd.S_reads' a3.out).2.2 | (with_reducible refine Kd.C_alloc ?_ _) | (with_reducible refine Kd.C_drewN ?_ _) | (with_reducible refine Kd.C_drew ?_)))
     (case side2 => exact (Kd.S_reads' a3.out).2.1)
     (case side3 => repeat (first | exact (Kd.Q_reads' a2.out).2.2 | (with_reducible refine Kd.C_alloc ?_ _) | (with_reducible refine Kd.C_drewN ?_ _) | (with_reducible refine Kd.C_drew ?_)))
     (case side4 => exact (Kd.Q_reads' a2.out).2.1)
     rintro e w' ⟨rfl, hb⟩
     refine ⟨_, rfl, ?_⟩
     replace a3 := ak (Kd.S_below (xS a3.out) hb)
     replace a2 := ak (Kd.Q_below (xQ a2.out) hb)
     replace a1 := ak (blk_below (g := a4) (o := .cells #[.slice b7 a5.length b5, .slice b8 a6.length b6] 26 (0, 0)) (xb a1.out) hb)
     replace HB := ak (below_step zc_0 hb)
     (try clear hb)
     (try clear hb2)
     (try clear hk)
     (try clear hi)
     refine hK.out _ _ ⟨(blk_cell a1.out 0).trans rfl, (blk_cell a1.out 1).trans rfl⟩ (fun hHeld => ?_)
     clear hK K
     refine no_ (N := some 51) ?_
     refine pu_ (i := 20) (N := some 53) (bA 33 2097151) ?_
     refine pu_ (i := 21) (N := some 54) (bA 33 4194303) ?_
     refine pu_ (i := 22) (N := some 55) (bA 33 8388607) ?_
     refine pu_ (i := 25) (N := some 58) (bA 33 41943039) ?_
     refine pu_ (i := 27) (N := some 60) (bA 33 176160767) ?_
     refine pu_ (i := 29) (N := some 62) (bA 33 713031679) ?_
     refine tk_ (i := 23) (N := some 56) (bA 33 721420287) ?_
     refine tk_ (i := 24) (N := some 57) (bA 33 738197503) ?_
     refine one_ (i := 26) (N := some 59) (bA 33 805306367) rfl rfl (one_of HT_.out zc_19) (by decide) (fun K hK => ?_)
     refine ge_ Try.func29 #[.agg #[.slice b7 a5.length b5, .slice b8 a6.length b6], .int .i64 a7] ?_
     with_reducible refine (impl_NotOf.calls _ _ a5 _ _ a6 a7 f8 _ ?side1 ?side2 ?side3 ?side4 l3.out).mono ?_
     (case side1 => repeat (first | exact (Kd.S_reads' a3.out).2.2 | (with_reducible refine Kd.C_alloc ?_ _) | (with_reducible refine Kd.C_drewN ?_ _) | (with_reducible refine Kd.C_drew ?_)))
     (case side2 => exact (Kd.S_reads' a3.out).2.1)
     (case side3 => repeat (first | exact (Kd.Q_reads' a2.out).2.2 | (with_reducible refine Kd.C_alloc ?_ _) | (with_reducible refine Kd.C_drewN ?_ _) | (with_reducible refine Kd.C_drew ?_)))
     (case side4 => exact (Kd.Q_reads' a2.out).2.1)
     rintro e w' ⟨rfl, hb⟩
     refine ⟨_, rfl, ?_⟩
     replace a3 := ak (Kd.S_below (xS a3.out) hb)
     replace a2 := ak (Kd.Q_below (xQ a2.out) hb)
     replace a1 := ak (blk_below (g := a4) (o := .cells #[.slice b7 a5.length b5, .slice b8 a6.length b6] 26 (0, 0)) (xb a1.out) hb)
     replace HB := ak (below_step zc_0 hb)
     (try clear hb)
     (try clear hb2)
     (try clear hk)
     (try clear hi)
     refine hK.out _ _ ⟨(blk_cell a1.out 0).trans rfl, (blk_cell a1.out 1).trans rfl⟩ (fun hHeld => ?_)
     clear hK K
     refine no_ (N := some 59) ?_
     refine one_ (i := 28) (N := some 61) (bA 33 1073741823) rfl rfl (one_of HT_.out zc_19) (by decide) (fun K hK => ?_)
     refine ge_ Try.func52 #[.agg #[.slice b7 a5.length b5, .slice b8 a6.length b6], .int .i64 f8, .int .i64 a8] ?_
     with_reducible refine (impl_ApartFrom.calls _ _ a5 _ _ a6 f8 a8 g9 _ ?side1 ?side2 ?side3 ?side4 l4.out).mono ?_
     (case side1 => repeat (first | exact (Kd.S_reads' a3.out).2.2 | (with_reducible refine Kd.C_alloc ?_ _) | (with_reducible refine Kd.C_drewN ?_ _) | (with_reducible refine Kd.C_drew ?_)))
     (case side2 => exact (Kd.S_reads' a3.out).2.1)
     (case side3 => repeat (first | exact (Kd.Q_reads' a2.out).2.2 | (with_reducible refine Kd.C_alloc ?_ _) | (with_reducible refine Kd.C_drewN ?_ _) | (with_reducible refine Kd.C_drew ?_)))
     (case side4 => exact (Kd.Q_reads' a2.out).2.1)
     rintro e w' ⟨rfl, hb⟩
     refine ⟨_, rfl, ?_⟩
     replace a3 := ak (Kd.S_below (xS a3.out) hb)
     replace a2 := ak (Kd.Q_below (xQ a2.out) hb)
     replace a1 := ak (blk_below (g := a4) (o := .cells #[.slice b7 a5.length b5, .slice b8 a6.length b6] 26 (0, 0)) (xb a1.out) hb)
     replace HB := ak (below_step zc_0 hb)
     (try clear hb)
     (try clear hb2)
     (try clear hk)
     (try clear hi)
     refine hK.out _ _ ⟨(blk_cell a1.out 0).trans rfl, (blk_cell a1.out 1).trans rfl⟩ (fun hHeld => ?_)
     clear hK K
     refine no_ (N := some 61) ?_
     refine pu_ (i := 30) (N := some 63) (bA 33 2147483647) ?_
     refine pu_ (i := 31) (N := some 64) (bA 33 4294967295) ?_
     refine pu_ (i := 32) (N := some 2) (bA 33 8589934591) ?_
     refine done_ (done_of HT_.out zc_19) ?_
     try go_wp2
     go_ret
     exact ⟨zc_2, zc_0⟩
    obtain rfl := Option.some.inj H
    go_enter Try.func13, Try.ntmps13
    try go_wp2_with (first | ((with_reducible refine gate_callee (f := 51) rfl ?_); refine gl_ (some 12) Try.func51 #[.slice A0 l0.length c0] ?_; (with_reducible refine (spec_DrawApartFrom.calls k _ _ l0 a5 a6 a7 a8 _ (y4 HR0.out) h3.out A3.out).mono ?_); rintro e w' ⟨g4, g5, rfl, ho0, ho1, hb⟩; refine ⟨_, rfl, ?_⟩; have a3 := ak (Kd.S_lower ho0 (below_size zc_1)); have a2 := ak (Kd.Q_lower ho1 (below_size zc_1)); replace HB := ak (below_step zc_1 hb); (try clear hb); (try clear hb2); (try clear hk); (try clear hi); (try clear ho0); (try clear ho1)) | ((with_reducible refine gate_dst (N := 3) rfl ?_); refine bx_ (N := 3) (cs := #[.slice none 0 0, .slice none 0 0]) (t := 26) ?_; intro a4 hg m8 hbox hb; replace a3 := ak (Kd.S_below (xS a3.out) hb); replace a2 := ak (Kd.Q_below (xQ a2.out) hb); have a1 := ak (hbox); have e3 := ak ((by rw [hg]; exact (below_size zc_1) : w.heap.size ≤ a4)); have d5 := ak ((by rw [hg]; exact (below_size zc_1) : w.heap.size ≤ a4)); replace HB := ak (below_step zc_1 hb); clear hb hbox hg; obtain ⟨d6, d1, k0⟩ := Kd.S_slice a3.out; subst k0; have b1 := cz20 a1.out; have b2 := cz21 a1.out; have b3 := blk_frozen a1.out 0; have b4 := blk_frozen a1.out 1; obtain ⟨d7, d2, k1, _⟩ := Kd.Q_slice a2.out; subst k1) | ((with_reducible refine gate_callee (f := 52) rfl ?_); refine gl_ (some 19) Try.func52 #[.agg #[.slice d6 a5.length d1, .slice d7 a6.length d2], .int .i64 a7, .int .i64 a8] ?_; (with_reducible refine (impl_ApartFrom.calls _ _ a5 _ _ a6 a7 a8 b0 _ (by refine (Kd.S_reads' (e := 24) (base := w.heap.size) (ok := fun k_ => some k_ ≠ (.slice d7 a6.length d2 : Value).ownBlock) (n := a5.length) (c := d1) ?_).2.2; exact zc_15) (y2 a3.out) (by refine (Kd.Q_reads' (e := 3) (base := w.heap.size) (ok := fun k_ => True) (n := a6.length) (c := d2) ?_).2.2; exact zc_8) (y2 a2.out) A4.out).mono ?_); rintro e w' ⟨rfl, hb⟩; refine ⟨_, rfl, ?_⟩; replace a3 := ak (Kd.S_below zc_15 hb); replace a2 := ak (Kd.Q_below zc_8 hb); replace a1 := ak (blk_below (g := a4) (o := .cells #[.slice d6 a5.length d1, .slice d7 a6.length d2] 26 (0, 0)) (by (with_reducible repeat (first | refine blk_drewN ?_ _ | refine blk_drew ?_ | refine blk_alloc ?_ _)); refine blk_put (cs := #[.slice d6 a5.length d1, .slice none 0 0]) ?_ 1 _ rfl; (with_reducible repeat (first | refine blk_drewN ?_ _ | refine blk_drew ?_ | refine blk_alloc ?_ _)); refine blk_put (cs := #[.slice none 0 0, .slice none 0 0]) ?_ 0 _ rfl; (with_reducible repeat (first | refine blk_drewN ?_ _ | refine blk_drew ?_ | refine blk_alloc ?_ _)); exact a1.out) hb); replace HB := ak (below_step zc_0 hb); (try clear hb); (try clear hb2); (try clear hk); (try clear hi); have b1 := cz20 a1.out; have b2 := cz21 a1.out; have b3 := blk_frozen a1.out 0; have b4 := blk_frozen a1.out 1) | ((with_reducible refine gate_callee (f := 53) rfl ?_); refine gl_ (some 24) Try.func53 #[.agg #[.slice d6 a5.length d1, .slice d7 a6.length d2], .int .i64 a7, .int .i64 a8] ?_; (with_reducible refine (spec_ApartFrom.calls k _ _ a5 _ _ a6 a7 a8 e0 _ (y1 a3.out) (y2 a3.out) (y1 a2.out) (y2 a2.out) A5.out).mono ?_); rintro e l6 ⟨rfl, hb⟩; refine ⟨_, rfl, ?_⟩; replace a3 := ak (Kd.S_below (xS a3.out) hb); replace a2 := ak (Kd.Q_below (xQ a2.out) hb); replace a1 := ak (blk_below (g := a4) (o := .cells #[.slice d6 a5.length d1, .slice d7 a6.length d2] 26 (0, 0)) (xb a1.out) hb); replace HB := ak (below_step zc_0 hb); (try clear hb); (try clear hb2); (try clear hk); (try clear hi)))
    replace a3 := ak (Kd.S_drew a3.out)
    replace a2 := ak (Kd.Q_drew a2.out)
    replace a1 := ak (blk_drew a1.out)
    replace HB := ak (below_drew1 HB.out)
    refine start_ (n := 33) (S := fun w' => w'.cell? ⟨a4, 0, none⟩ = some (.slice d6 a5.length d1) ∧ w'.cell? ⟨a4, 1, none⟩ = some (.slice d7 a6.length d2)) (ds := []) (bA 33 0) zc_19 rfl rfl ⟨(blk_cell a1.out 0).trans rfl, (blk_cell a1.out 1).trans rfl⟩ (fun hHeld => ?_); refine with_tabW laws_FnApartFrom.tab9 laws_FnApartFrom.bits9 (fun HT_ HW_ => ?_)
    generalize l6.drew = m9 at a3 a2 a1 HB hHeld ⊢
    refine tk_ (i := 0) (N := some 33) (bA 33 1) ?_
    refine one_ (i := 1) (N := some 34) (bA 33 3) rfl rfl (one_of HT_.out zc_19) (by decide) (fun K hK => ?_)
    refine ge_ Try.func42 #[.agg #[.slice d6 a5.length d1, .slice d7 a6.length d2]] ?_
    with_reducible refine (impl_KeepsOk.calls _ _ a5 _ _ a6 true _ ?side1 ?side2 ?side3 ?side4 h5.out).mono ?_
    (case side1 => repeat (first | exact (Kd.S_reads' a3.out).2.2 | (with_reducible refine Kd.C_alloc ?_ _) | (with_reducible refine Kd.C_drewN ?_ _) | (with_reducible refine Kd.C_drew ?_)))
    (case side2 => exact (Kd.S_reads' a3.out).2.1)
    (case side3 => repeat (first | exact (Kd.Q_reads' a2.out).2.2 | (with_reducible refine Kd.C_alloc ?_ _) | (with_reducible refine Kd.C_drewN ?_ _) | (with_reducible refine Kd.C_drew ?_)))
    (case side4 => exact (Kd.Q_reads' a2.out).2.1)
    rintro e w' ⟨rfl, hb⟩
    refine ⟨_, rfl, ?_⟩
    replace a3 := ak (Kd.S_below (xS a3.out) hb)
    replace a2 := ak (Kd.Q_below (xQ a2.out) hb)
    replace a1 := ak (blk_below (g := a4) (o := .cells #[.slice d6 a5.length d1, .slice d7 a6.length d2] 26 (0, 0)) (xb a1.out) hb)
    replace HB := ak (below_step zc_0 hb)
    (try clear hb)
    (try clear hb2)
    (try clear hk)
    (try clear hi)
    refine hK.out _ _ ⟨(blk_cell a1.out 0).trans rfl, (blk_cell a1.out 1).trans rfl⟩ (fun hHeld => ?_)
    clear hK K
    refine no_ (N := some 34) ?_
    refine pu_ (i := 2) (N := some 35) (bA 33 7) ?_
    refine pu_ (i := 3) (N := some 36) (bA 33 15) ?_
    refine pu_ (i := 4) (N := some 37) (bA 33 31) ?_
    refine pu_ (i := 9) (N := some 42) (bA 33 543) ?_
    refine pu_ (i := 10) (N := some 43) (bA 33 1567) ?_
    refine tk_ (i := 5) (N := some 38) (bA 33 1599) ?_
    refine tk_ (i := 8) (N := some 41) (bA 33 1855) ?_
    refine one_ (i := 6) (N := some 39) (bA 33 1919) rfl rfl (one_of HT_.out zc_19) (by decide) (fun K hK => ?_)
    refine ge_ Try.func23 #[.agg #[.slice d6 a5.length d1, .slice d7 a6.length d2]] ?_
    with_reducible refine (impl_YesOf.calls _ _ a5 _ _ a6 b9 _ ?side1 ?side2 ?side3 ?side4 j6.out).mono ?_
    (case side1 => repeat (first | exact (Kd.S_reads' a3.out).2.2 | (with_reducible refine Kd.C_alloc ?_ _) | (with_reducible refine Kd.C_drewN ?_ _) | (with_reducible refine Kd.C_drew ?_)))
    (case side2 => exact (Kd.S_reads' a3.out).2.1)
    (case side3 => repeat (first | exact (Kd.Q_reads' a2.out).2.2 | (with_reducible refine Kd.C_alloc ?_ _) | (with_reducible refine Kd.C_drewN ?_ _) | (with_reducible refine Kd.C_drew ?_)))
    (case side4 => exact (Kd.Q_reads' a2.out).2.1)
    rintro e w' ⟨rfl, hb⟩
    refine ⟨_, rfl, ?_⟩
    replace a3 := ak (Kd.S_below (xS a3.out) hb)
    replace a2 := ak (Kd.Q_below (xQ a2.out) hb)
    replace a1 := ak (blk_below (g := a4) (o := .cells #[.slice d6 a5.length d1, .slice d7 a6.length d2] 26 (0, 0)) (xb a1.out) hb)
    replace HB := ak (below_step zc_0 hb)
    (try clear hb)
    (try clear hb2)
    (try clear hk)
    (try clear hi)
    refine hK.out _ _ ⟨(blk_cell a1.out 0).trans rfl, (blk_cell a1.out 1).trans rfl⟩ (fun hHeld => ?_)
    clear hK K
    refine no_ (N := some 39) ?_
    refine pu_ (i := 7) (N := some 40) (bA 33 2047) ?_
    refine one_ (i := 11) (N := some 44) (bA 33 4095) rfl rfl (one_of HT_.out zc_19) (by decide) (fun K hK => ?_)
    refine ge_ Try.func45 #[.agg #[.slice d6 a5.length d1, .slice d7 a6.length d2], .int .i64 a7, .int .i64 a8] ?_
    with_reducible refine (impl_WithOk.calls _ _ a5 _ _ a6 a7 a8 d0 _ ?side1 ?side2 ?side3 ?side4 j7.out).mono ?_
    (case side1 => repeat (first | exact (Kd.S_reads' a3.out).2.2 | (with_reducible refine Kd.C_alloc ?_ _) | (with_reducible refine Kd.C_drewN ?_ _) | (with_reducible refine Kd.C_drew ?_)))
    (case side2 => exact (Kd.S_reads' a3.out).2.1)
    (case side3 => repeat (first | exact (Kd.Q_reads' a2.out).2.2 | (with_reducible refine Kd.C_alloc ?_ _) | (with_reducible refine Kd.C_drewN ?_ _) | (with_reducible refine Kd.C_drew ?_)))
    (case side4 => exact (Kd.Q_reads' a2.out).2.1)
    rintro e w' ⟨rfl, hb⟩
    refine ⟨_, rfl, ?_⟩
    replace a3 := ak (Kd.S_below (xS a3.out) hb)
    replace a2 := ak (Kd.Q_below (xQ a2.out) hb)
    replace a1 := ak (blk_below (g := a4) (o := .cells #[.slice d6 a5.length d1, .slice d7 a6.length d2] 26 (0, 0)) (xb a1.out) hb)
    replace HB := ak (below_step zc_0 hb)
    (try clear hb)
    (try clear hb2)
    (try clear hk)
    (try clear hi)
    refine hK.out _ _ ⟨(blk_cell a1.out 0).trans rfl, (blk_cell a1.out 1).trans rfl⟩ (fun hHeld => ?_)
    clear hK K
    refine no_ (N := some 44) ?_
    refine pu_ (i := 12) (N := some 45) (bA 33 8191) ?_
    refine pu_ (i := 13) (N := some 46) (bA 33 16383) ?_
    refine pu_ (i := 14) (N := some 47) (bA 33 32767) ?_
    refine pu_ (i := 16) (N := some 49) (bA 33 98303) ?_
    refine pu_ (i := 17) (N := some 50) (bA 33 229375) ?_
    refine pu_ (i := 19) (N := some 52) (bA 33 753663) ?_
    refine tk_ (i := 15) (N := some 48) (bA 33 786431) ?_
    refine one_ (i := 18) (N := some 51) (bA 33 1048575) rfl rfl (one_of HT_.out zc_19) (by decide) (fun K hK => ?_)
    refine ge_ Try.func52 #[.agg #[.slice d6 a5.length d1, .slice d7 a6.length d2], .int .i64 a8, .int .i64 a7] ?_
    with_reducible refine (impl_ApartFrom.calls _ _ a5 _ _ a6 a8 a7 g6 _ ?side1 ?side2 ?side3 ?side4 k9.out).mono ?_
    (case side1 => repeat (first | exact (Kd.S_reads' a3.out).2.2 | (with_reducible refine Kd.C_alloc ?_ _) | (with_reducible refine Kd.C_drewN ?_ _) | (with_reducible refine Kd.C_drew ?_)))
    (case side2 => exact (Kd.S_reads' a3.out).2.1)
    (case side3 => repeat (first | exact (Kd.Q_reads' a2.out).2.2 | (with_reducible refine Kd.C_alloc ?_ _) | (with_reducible refine Kd.C_drewN ?_ _) | (with_reducible refine Kd.C_drew ?_)))
    (case side4 => exact (Kd.Q_reads' a2.out).2.1)
    rintro e w' ⟨rfl, hb⟩
    refine ⟨_, rfl, ?_⟩
    replace a3 := ak (Kd.S_below (xS a3.out) hb)
    replace a2 := ak (Kd.Q_below (xQ a2.out) hb)
    replace a1 := ak (blk_below (g := a4) (o := .cells #[.slice d6 a5.length d1, .slice d7 a6.length d2] 26 (0, 0)) (xb a1.out) hb)
    replace HB := ak (below_step zc_0 hb)
    (try clear hb)
    (try clear hb2)
    (try clear hk)
    (try clear hi)
    refine hK.out _ _ ⟨(blk_cell a1.out 0).trans rfl, (blk_cell a1.out 1).trans rfl⟩ (fun hHeld => ?_)
    clear hK K
    refine no_ (N := some 51) ?_
    refine pu_ (i := 20) (N := some 53) (bA 33 2097151) ?_
    refine pu_ (i := 21) (N := some 54) (bA 33 4194303) ?_
    refine pu_ (i := 22) (N := some 55) (bA 33 8388607) ?_
    refine of_ (i := 23) (N := some 56) (bA 33 16777215) ?_
    refine of_ (i := 24) (N := some 57) (bA 33 33554431) ?_
    refine of_ (i := 25) (N := some 58) (bA 33 67108863) ?_
    refine of_ (i := 26) (N := some 59) (bA 33 134217727) ?_
    refine of_ (i := 27) (N := some 60) (bA 33 268435455) ?_
    refine of_ (i := 28) (N := some 61) (bA 33 536870911) ?_
    refine of_ (i := 29) (N := some 62) (bA 33 1073741823) ?_
    refine of_ (i := 30) (N := some 63) (bA 33 2147483647) ?_
    refine pu_ (i := 31) (N := some 64) (bA 33 4294967295) ?_
    refine pu_ (i := 32) (N := some 2) (bA 33 8589934591) ?_
    refine done_ (done_of HT_.out zc_19) ?_
    try go_wp2
    go_ret
    exact ⟨zc_2, zc_0⟩
   have h6 : ((b0 == b9) == d0) = false := by simpa using h2
   (try (have h7 : decide ((b0 == b9) = d0) = false := by simpa using h2))
   (try (have h8 : ((b0 == b9) == d0) = false := by simpa using h2))
   (try (have l1 : ¬ ((b0 == b9) = d0) := by simpa using h2))
   clear h2
   obtain rfl := Option.some.inj H
   go_enter Try.func13, Try.ntmps13
   try go_wp2_with (first | ((with_reducible refine gate_callee (f := 51) rfl ?_); refine gl_ (some 12) Try.func51 #[.slice A0 l0.length c0] ?_; (with_reducible refine (spec_DrawApartFrom.calls k _ _ l0 a5 a6 a7 a8 _ (y4 HR0.out) h3.out A3.out).mono ?_); rintro e w' ⟨g4, g5, rfl, ho0, ho1, hb⟩; refine ⟨_, rfl, ?_⟩; have a3 := ak (Kd.S_lower ho0 (below_size zc_1)); have a2 := ak (Kd.Q_lower ho1 (below_size zc_1)); replace HB := ak (below_step zc_1 hb); (try clear hb); (try clear hb2); (try clear hk); (try clear hi); (try clear ho0); (try clear ho1)) | ((with_reducible refine gate_dst (N := 3) rfl ?_); refine bx_ (N := 3) (cs := #[.slice none 0 0, .slice none 0 0]) (t := 26) ?_; intro a4 hg n0 hbox hb; replace a3 := ak (Kd.S_below (xS a3.out) hb); replace a2 := ak (Kd.Q_below (xQ a2.out) hb); have a1 := ak (hbox); have e3 := ak ((by rw [hg]; exact (below_size zc_1) : w.heap.size ≤ a4)); have d5 := ak ((by rw [hg]; exact (below_size zc_1) : w.heap.size ≤ a4)); replace HB := ak (below_step zc_1 hb); clear hb hbox hg; obtain ⟨e4, e1, k2⟩ := Kd.S_slice a3.out; subst k2; have b1 := cz20 a1.out; have b2 := cz21 a1.out; have b3 := blk_frozen a1.out 0; have b4 := blk_frozen a1.out 1; obtain ⟨e5, e2, k3, _⟩ := Kd.Q_slice a2.out; subst k3) | ((with_reducible refine gate_callee (f := 52) rfl ?_); refine gl_ (some 19) Try.func52 #[.agg #[.slice e4 a5.length e1, .slice e5 a6.length e2], .int .i64 a7, .int .i64 a8] ?_; (with_reducible refine (impl_ApartFrom.calls _ _ a5 _ _ a6 a7 a8 b0 _ (by refine (Kd.S_reads' (e := 24) (base := w.heap.size) (ok := fun k_ => some k_ ≠ (.slice e5 a6.length e2 : Value).ownBlock) (n := a5.length) (c := e1) ?_).2.2; exact zc_14) (y2 a3.out) (by refine (Kd.Q_reads' (e := 3) (base := w.heap.size) (ok := fun k_ => True) (n := a6.length) (c := e2) ?_).2.2; exact zc_7) (y2 a2.out) A4.out).mono ?_); rintro e w' ⟨rfl, hb⟩; refine ⟨_, rfl, ?_⟩; replace a3 := ak (Kd.S_below zc_14 hb); replace a2 := ak (Kd.Q_below zc_7 hb); replace a1 := ak (blk_below (g := a4) (o := .cells #[.slice e4 a5.length e1, .slice e5 a6.length e2] 26 (0, 0)) (by (with_reducible repeat (first | refine blk_drewN ?_ _ | refine blk_drew ?_ | refine blk_alloc ?_ _)); refine blk_put (cs := #[.slice e4 a5.length e1, .slice none 0 0]) ?_ 1 _ rfl; (with_reducible repeat (first | refine blk_drewN ?_ _ | refine blk_drew ?_ | refine blk_alloc ?_ _)); refine blk_put (cs := #[.slice none 0 0, .slice none 0 0]) ?_ 0 _ rfl; (with_reducible repeat (first | refine blk_drewN ?_ _ | refine blk_drew ?_ | refine blk_alloc ?_ _)); exact a1.out) hb); replace HB := ak (below_step zc_0 hb); (try clear hb); (try clear hb2); (try clear hk); (try clear hi); have b1 := cz20 a1.out; have b2 := cz21 a1.out; have b3 := blk_frozen a1.out 0; have b4 := blk_frozen a1.out 1) | ((with_reducible refine gate_callee (f := 53) rfl ?_); refine gl_ (some 24) Try.func53 #[.agg #[.slice e4 a5.length e1, .slice e5 a6.length e2], .int .i64 a7, .int .i64 a8] ?_; (with_reducible refine (spec_ApartFrom.calls k _ _ a5 _ _ a6 a7 a8 e0 _ (y1 a3.out) (y2 a3.out) (y1 a2.out) (y2 a2.out) A5.out).mono ?_); rintro e l7 ⟨rfl, hb⟩; refine ⟨_, rfl, ?_⟩; replace a3 := ak (Kd.S_below (xS a3.out) hb); replace a2 := ak (Kd.Q_below (xQ a2.out) hb); replace a1 := ak (blk_below (g := a4) (o := .cells #[.slice e4 a5.length e1, .slice e5 a6.length e2] 26 (0, 0)) (xb a1.out) hb); replace HB := ak (below_step zc_0 hb); (try clear hb); (try clear hb2); (try clear hk); (try clear hi)))
   replace a3 := ak (Kd.S_drew a3.out)
   replace a2 := ak (Kd.Q_drew a2.out)
   replace a1 := ak (blk_drew a1.out)
   replace HB := ak (below_drew1 HB.out)
   refine start_ (n := 33) (S := fun w' => w'.cell? ⟨a4, 0, none⟩ = some (.slice e4 a5.length e1) ∧ w'.cell? ⟨a4, 1, none⟩ = some (.slice e5 a6.length e2)) (ds := []) (bA 33 0) zc_19 rfl rfl ⟨(blk_cell a1.out 0).trans rfl, (blk_cell a1.out 1).trans rfl⟩ (fun hHeld => ?_); refine with_tabW laws_FnApartFrom.tab9 laws_FnApartFrom.bits9 (fun HT_ HW_ => ?_)
   generalize l7.drew = n1 at a3 a2 a1 HB hHeld ⊢
   refine tk_ (i := 0) (N := some 33) (bA 33 1) ?_
   refine one_ (i := 1) (N := some 34) (bA 33 3) rfl rfl (one_of HT_.out zc_19) (by decide) (fun K hK => ?_)
   refine ge_ Try.func42 #[.agg #[.slice e4 a5.length e1, .slice e5 a6.length e2]] ?_
   with_reducible refine (impl_KeepsOk.calls _ _ a5 _ _ a6 true _ ?side1 ?side2 ?side3 ?side4 h5.out).mono ?_
   (case side1 => repeat (first | exact (Kd.S_reads' a3.out).2.2 | (with_reducible refine Kd.C_alloc ?_ _) | (with_reducible refine Kd.C_drewN ?_ _) | (with_reducible refine Kd.C_drew ?_)))
   (case side2 => exact (Kd.S_reads' a3.out).2.1)
   (case side3 => repeat (first | exact (Kd.Q_reads' a2.out).2.2 | (with_reducible refine Kd.C_alloc ?_ _) | (with_reducible refine Kd.C_drewN ?_ _) | (with_reducible refine Kd.C_drew ?_)))
   (case side4 => exact (Kd.Q_reads' a2.out).2.1)
   rintro e w' ⟨rfl, hb⟩
   refine ⟨_, rfl, ?_⟩
   replace a3 := ak (Kd.S_below (xS a3.out) hb)
   replace a2 := ak (Kd.Q_below (xQ a2.out) hb)
   replace a1 := ak (blk_below (g := a4) (o := .cells #[.slice e4 a5.length e1, .slice e5 a6.length e2] 26 (0, 0)) (xb a1.out) hb)
   replace HB := ak (below_step zc_0 hb)
   (try clear hb)
   (try clear hb2)
   (try clear hk)
   (try clear hi)
   refine hK.out _ _ ⟨(blk_cell a1.out 0).trans rfl, (blk_cell a1.out 1).trans rfl⟩ (fun hHeld => ?_)
   clear hK K
   refine no_ (N := some 34) ?_
   refine pu_ (i := 2) (N := some 35) (bA 33 7) ?_
   refine pu_ (i := 3) (N := some 36) (bA 33 15) ?_
   refine pu_ (i := 4) (N := some 37) (bA 33 31) ?_
   refine pu_ (i := 9) (N := some 42) (bA 33 543) ?_
   refine pu_ (i := 10) (N := some 43) (bA 33 1567) ?_
   refine tk_ (i := 5) (N := some 38) (bA 33 1599) ?_
   refine tk_ (i := 8) (N := some 41) (bA 33 1855) ?_
   refine one_ (i := 6) (N := some 39) (bA 33 1919) rfl rfl (one_of HT_.out zc_19) (by decide) (fun K hK => ?_)
   refine ge_ Try.func23 #[.agg #[.slice e4 a5.length e1, .slice e5 a6.length e2]] ?_
   with_reducible refine (impl_YesOf.calls _ _ a5 _ _ a6 b9 _ ?side1 ?side2 ?side3 ?side4 j6.out).mono ?_
   (case side1 => repeat (first | exact (Kd.S_reads' a3.out).2.2 | (with_reducible refine Kd.C_alloc ?_ _) | (with_reducible refine Kd.C_drewN ?_ _) | (with_reducible refine Kd.C_drew ?_)))
   (case side2 => exact (Kd.S_reads' a3.out).2.1)
   (case side3 => repeat (first | exact (Kd.Q_reads' a2.out).2.2 | (with_reducible refine Kd.C_alloc ?_ _) | (with_reducible refine Kd.C_drewN ?_ _) | (with_reducible refine Kd.C_drew ?_)))
   (case side4 => exact (Kd.Q_reads' a2.out).2.1)
   rintro e w' ⟨rfl, hb⟩
   refine ⟨_, rfl, ?_⟩
   replace a3 := ak (Kd.S_below (xS a3.out) hb)
   replace a2 := ak (Kd.Q_below (xQ a2.out) hb)
   replace a1 := ak (blk_below (g := a4) (o := .cells #[.slice e4 a5.length e1, .slice e5 a6.length e2] 26 (0, 0)) (xb a1.out) hb)
   replace HB := ak (below_step zc_0 hb)
   (try clear hb)
   (try clear hb2)
   (try clear hk)
   (try clear hi)
   refine hK.out _ _ ⟨(blk_cell a1.out 0).trans rfl, (blk_cell a1.out 1).trans rfl⟩ (fun hHeld => ?_)
   clear hK K
   refine no_ (N := some 39) ?_
   refine pu_ (i := 7) (N := some 40) (bA 33 2047) ?_
   refine one_ (i := 11) (N := some 44) (bA 33 4095) rfl rfl (one_of HT_.out zc_19) (by decide) (fun K hK => ?_)
   refine ge_ Try.func45 #[.agg #[.slice e4 a5.length e1, .slice e5 a6.length e2], .int .i64 a7, .int .i64 a8] ?_
   with_reducible refine (impl_WithOk.calls _ _ a5 _ _ a6 a7 a8 d0 _ ?side1 ?side2 ?side3 ?side4 j7.out).mono ?_
   (case side1 => repeat (first | exact (Kd.S_reads' a3.out).2.2 | (with_reducible refine Kd.C_alloc ?_ _) | (with_reducible refine Kd.C_drewN ?_ _) | (with_reducible refine Kd.C_drew ?_)))
   (case side2 => exact (Kd.S_reads' a3.out).2.1)
   (case side3 => repeat (first | exact (Kd.Q_reads' a2.out).2.2 | (with_reducible refine Kd.C_alloc ?_ _) | (with_reducible refine Kd.C_drewN ?_ _) | (with_reducible refine Kd.C_drew ?_)))
   (case side4 => exact (Kd.Q_reads' a2.out).2.1)
   rintro e w' ⟨rfl, hb⟩
   refine ⟨_, rfl, ?_⟩
   replace a3 := ak (Kd.S_below (xS a3.out) hb)
   replace a2 := ak (Kd.Q_below (xQ a2.out) hb)
   replace a1 := ak (blk_below (g := a4) (o := .cells #[.slice e4 a5.length e1, .slice e5 a6.length e2] 26 (0, 0)) (xb a1.out) hb)
   replace HB := ak (below_step zc_0 hb)
   (try clear hb)
   (try clear hb2)
   (try clear hk)
   (try clear hi)
   refine hK.out _ _ ⟨(blk_cell a1.out 0).trans rfl, (blk_cell a1.out 1).trans rfl⟩ (fun hHeld => ?_)
   clear hK K
   refine no_ (N := some 44) ?_
   refine pu_ (i := 12) (N := some 45) (bA 33 8191) ?_
   refine pu_ (i := 13) (N := some 46) (bA 33 16383) ?_
   refine pu_ (i := 14) (N := some 47) (bA 33 32767) ?_
   refine of_ (i := 15) (N := some 48) (bA 33 65535) ?_
   refine of_ (i := 16) (N := some 49) (bA 33 131071) ?_
   refine of_ (i := 17) (N := some 50) (bA 33 262143) ?_
   refine of_ (i := 18) (N := some 51) (bA 33 524287) ?_
   refine of_ (i := 19) (N := some 52) (bA 33 1048575) ?_
   refine of_ (i := 20) (N := some 53) (bA 33 2097151) ?_
   refine pu_ (i := 21) (N := some 54) (bA 33 4194303) ?_
   refine pu_ (i := 22) (N := some 55) (bA 33 8388607) ?_
   refine of_ (i := 23) (N := some 56) (bA 33 16777215) ?_
   refine of_ (i := 24) (N := some 57) (bA 33 33554431) ?_
   refine of_ (i := 25) (N := some 58) (bA 33 67108863) ?_
   refine of_ (i := 26) (N := some 59) (bA 33 134217727) ?_
   refine of_ (i := 27) (N := some 60) (bA 33 268435455) ?_
   refine of_ (i := 28) (N := some 61) (bA 33 536870911) ?_
   refine of_ (i := 29) (N := some 62) (bA 33 1073741823) ?_
   refine of_ (i := 30) (N := some 63) (bA 33 2147483647) ?_
   refine pu_ (i := 31) (N := some 64) (bA 33 4294967295) ?_
   refine pu_ (i := 32) (N := some 2) (bA 33 8589934591) ?_
   refine done_ (done_of HT_.out zc_19) ?_
   try go_wp2
   go_ret
   exact ⟨zc_2, zc_0⟩
  replace H := bd_ H
  obtain ⟨g7, l2, H⟩ := H
  try dsimp only at H
  replace H := oe2 H
  rcases H with ⟨⟨-, i1, i2⟩, H⟩ | ⟨⟨n2, i1, i2⟩, H⟩
  ·
   replace H := bd_ H
   obtain ⟨f9, l8, H⟩ := H
   replace H := bd_ H
   obtain ⟨h0, l9, H⟩ := H
   try dsimp only at H
   obtain rfl := Option.some.inj H
   go_enter Try.func13, Try.ntmps13
   try go_wp2_with (first | ((with_reducible refine gate_callee (f := 51) rfl ?_); refine gl_ (some 12) Try.func51 #[.slice A0 l0.length c0] ?_; (with_reducible refine (spec_DrawApartFrom.calls k _ _ l0 a5 a6 a7 a8 _ (y4 HR0.out) h3.out A3.out).mono ?_); rintro e w' ⟨g4, g5, rfl, ho0, ho1, hb⟩; refine ⟨_, rfl, ?_⟩; have a3 := ak (Kd.S_lower ho0 (below_size zc_1)); have a2 := ak (Kd.Q_lower ho1 (below_size zc_1)); replace HB := ak (below_step zc_1 hb); (try clear hb); (try clear hb2); (try clear hk); (try clear hi); (try clear ho0); (try clear ho1)) | ((with_reducible refine gate_dst (N := 3) rfl ?_); refine bx_ (N := 3) (cs := #[.slice none 0 0, .slice none 0 0]) (t := 26) ?_; intro a4 hg n3 hbox hb; replace a3 := ak (Kd.S_below (xS a3.out) hb); replace a2 := ak (Kd.Q_below (xQ a2.out) hb); have a1 := ak (hbox); have e3 := ak ((by rw [hg]; exact (below_size zc_1) : w.heap.size ≤ a4)); have d5 := ak ((by rw [hg]; exact (below_size zc_1) : w.heap.size ≤ a4)); replace HB := ak (below_step zc_1 hb); clear hb hbox hg; obtain ⟨d8, d3, k4⟩ := Kd.S_slice a3.out; subst k4; have b1 := cz20 a1.out; have b2 := cz21 a1.out; have b3 := blk_frozen a1.out 0; have b4 := blk_frozen a1.out 1; obtain ⟨d9, d4, k5, _⟩ := Kd.Q_slice a2.out; subst k5) | ((with_reducible refine gate_callee (f := 52) rfl ?_); refine gl_ (some 19) Try.func52 #[.agg #[.slice d8 a5.length d3, .slice d9 a6.length d4], .int .i64 a7, .int .i64 a8] ?_; (with_reducible refine (impl_ApartFrom.calls _ _ a5 _ _ a6 a7 a8 b0 _ (by refine (Kd.S_reads' (e := 24) (base := w.heap.size) (ok := fun k_ => some k_ ≠ (.slice d9 a6.length d4 : Value).ownBlock) (n := a5.length) (c := d3) ?_).2.2; exact zc_13) (y2 a3.out) (by refine (Kd.Q_reads' (e := 3) (base := w.heap.size) (ok := fun k_ => True) (n := a6.length) (c := d4) ?_).2.2; exact zc_6) (y2 a2.out) A4.out).mono ?_); rintro e w' ⟨rfl, hb⟩; refine ⟨_, rfl, ?_⟩; replace a3 := ak (Kd.S_below zc_13 hb); replace a2 := ak (Kd.Q_below zc_6 hb); replace a1 := ak (blk_below (g := a4) (o := .cells #[.slice d8 a5.length d3, .slice d9 a6.length d4] 26 (0, 0)) (by (with_reducible repeat (first | refine blk_drewN ?_ _ | refine blk_drew ?_ | refine blk_alloc ?_ _)); refine blk_put (cs := #[.slice d8 a5.length d3, .slice none 0 0]) ?_ 1 _ rfl; (with_reducible repeat (first | refine blk_drewN ?_ _ | refine blk_drew ?_ | refine blk_alloc ?_ _)); refine blk_put (cs := #[.slice none 0 0, .slice none 0 0]) ?_ 0 _ rfl; (with_reducible repeat (first | refine blk_drewN ?_ _ | refine blk_drew ?_ | refine blk_alloc ?_ _)); exact a1.out) hb); replace HB := ak (below_step zc_0 hb); (try clear hb); (try clear hb2); (try clear hk); (try clear hi); have b1 := cz20 a1.out; have b2 := cz21 a1.out; have b3 := blk_frozen a1.out 0; have b4 := blk_frozen a1.out 1) | ((with_reducible refine gate_callee (f := 53) rfl ?_); refine gl_ (some 24) Try.func53 #[.agg #[.slice d8 a5.length d3, .slice d9 a6.length d4], .int .i64 a7, .int .i64 a8] ?_; (with_reducible refine (spec_ApartFrom.calls k _ _ a5 _ _ a6 a7 a8 e0 _ (y1 a3.out) (y2 a3.out) (y1 a2.out) (y2 a2.out) A5.out).mono ?_); rintro e m0 ⟨rfl, hb⟩; refine ⟨_, rfl, ?_⟩; replace a3 := ak (Kd.S_below (xS a3.out) hb); replace a2 := ak (Kd.Q_below (xQ a2.out) hb); replace a1 := ak (blk_below (g := a4) (o := .cells #[.slice d8 a5.length d3, .slice d9 a6.length d4] 26 (0, 0)) (xb a1.out) hb); replace HB := ak (below_step zc_0 hb); (try clear hb); (try clear hb2); (try clear hk); (try clear hi)))
   replace a3 := ak (Kd.S_drew a3.out)
   replace a2 := ak (Kd.Q_drew a2.out)
   replace a1 := ak (blk_drew a1.out)
   replace HB := ak (below_drew1 HB.out)
   refine start_ (n := 33) (S := fun w' => w'.cell? ⟨a4, 0, none⟩ = some (.slice d8 a5.length d3) ∧ w'.cell? ⟨a4, 1, none⟩ = some (.slice d9 a6.length d4)) (ds := []) (bA 33 0) zc_19 rfl rfl ⟨(blk_cell a1.out 0).trans rfl, (blk_cell a1.out 1).trans rfl⟩ (fun hHeld => ?_); refine with_tabW laws_FnApartFrom.tab9 laws_FnApartFrom.bits9 (fun HT_ HW_ => ?_)
   generalize m0.drew = n4 at a3 a2 a1 HB hHeld ⊢
   refine tk_ (i := 0) (N := some 33) (bA 33 1) ?_
   refine one_ (i := 1) (N := some 34) (bA 33 3) rfl rfl (one_of HT_.out zc_19) (by decide) (fun K hK => ?_)
   refine ge_ Try.func42 #[.agg #[.slice d8 a5.length d3, .slice d9 a6.length d4]] ?_
   with_reducible refine (impl_KeepsOk.calls _ _ a5 _ _ a6 false _ ?side1 ?side2 ?side3 ?side4 h5.out).mono ?_
   (case side1 => repeat (first | exact (Kd.S_reads' a3.out).2.2 | (with_reducible refine Kd.C_alloc ?_ _) | (with_reducible refine Kd.C_drewN ?_ _) | (with_reducible refine Kd.C_drew ?_)))
   (case side2 => exact (Kd.S_reads' a3.out).2.1)
   (case side3 => repeat (first | exact (Kd.Q_reads' a2.out).2.2 | (with_reducible refine Kd.C_alloc ?_ _) | (with_reducible refine Kd.C_drewN ?_ _) | (with_reducible refine Kd.C_drew ?_)))
   (case side4 => exact (Kd.Q_reads' a2.out).2.1)
   rintro e w' ⟨rfl, hb⟩
   refine ⟨_, rfl, ?_⟩
   replace a3 := ak (Kd.S_below (xS a3.out) hb)
   replace a2 := ak (Kd.Q_below (xQ a2.out) hb)
   replace a1 := ak (blk_below (g := a4) (o := .cells #[.slice d8 a5.length d3, .slice d9 a6.length d4] 26 (0, 0)) (xb a1.out) hb)
   replace HB := ak (below_step zc_0 hb)
   (try clear hb)
   (try clear hb2)
   (try clear hk)
   (try clear hi)
   refine hK.out _ _ ⟨(blk_cell a1.out 0).trans rfl, (blk_cell a1.out 1).trans rfl⟩ (fun hHeld => ?_)
   clear hK K
   refine no_ (N := some 34) ?_
   refine pu_ (i := 2) (N := some 35) (bA 33 7) ?_
   refine pu_ (i := 3) (N := some 36) (bA 33 15) ?_
   refine of_ (i := 4) (N := some 37) (bA 33 31) ?_
   refine of_ (i := 5) (N := some 38) (bA 33 63) ?_
   refine of_ (i := 6) (N := some 39) (bA 33 127) ?_
   refine of_ (i := 7) (N := some 40) (bA 33 255) ?_
   refine of_ (i := 8) (N := some 41) (bA 33 511) ?_
   refine of_ (i := 9) (N := some 42) (bA 33 1023) ?_
   refine of_ (i := 10) (N := some 43) (bA 33 2047) ?_
   refine of_ (i := 11) (N := some 44) (bA 33 4095) ?_
   refine of_ (i := 12) (N := some 45) (bA 33 8191) ?_
   refine pu_ (i := 13) (N := some 46) (bA 33 16383) ?_
   refine pu_ (i := 14) (N := some 47) (bA 33 32767) ?_
   refine pu_ (i := 16) (N := some 49) (bA 33 98303) ?_
   refine pu_ (i := 17) (N := some 50) (bA 33 229375) ?_
   refine pu_ (i := 19) (N := some 52) (bA 33 753663) ?_
   refine tk_ (i := 15) (N := some 48) (bA 33 786431) ?_
   refine one_ (i := 18) (N := some 51) (bA 33 1048575) rfl rfl (one_of HT_.out zc_19) (by decide) (fun K hK => ?_)
   refine ge_ Try.func52 #[.agg #[.slice d8 a5.length d3, .slice d9 a6.length d4], .int .i64 a8, .int .i64 a7] ?_
   with_reducible refine (impl_ApartFrom.calls _ _ a5 _ _ a6 a8 a7 g7 _ ?side1 ?side2 ?side3 ?side4 l2.out).mono ?_
   (case side1 => repeat (first | exact (Kd.S_reads' a3.out).2.2 | (with_reducible refine Kd.C_alloc ?_ _) | (with_reducible refine Kd.C_drewN ?_ _) | (with_reducible refine Kd.C_drew ?_)))
   (case side2 => exact (Kd.S_reads' a3.out).2.1)
   (case side3 => repeat (first | exact (Kd.Q_reads' a2.out).2.2 | (with_reducible refine Kd.C_alloc ?_ _) | (with_reducible refine Kd.C_drewN ?_ _) | (with_reducible refine Kd.C_drew ?_)))
   (case side4 => exact (Kd.Q_reads' a2.out).2.1)
   rintro e w' ⟨rfl, hb⟩
   refine ⟨_, rfl, ?_⟩
   replace a3 := ak (Kd.S_below (xS a3.out) hb)
   replace a2 := ak (Kd.Q_below (xQ a2.out) hb)
   replace a1 := ak (blk_below (g := a4) (o := .cells #[.slice d8 a5.length d3, .slice d9 a6.length d4] 26 (0, 0)) (xb a1.out) hb)
   replace HB := ak (below_step zc_0 hb)
   (try clear hb)
   (try clear hb2)
   (try clear hk)
   (try clear hi)
   refine hK.out _ _ ⟨(blk_cell a1.out 0).trans rfl, (blk_cell a1.out 1).trans rfl⟩ (fun hHeld => ?_)
   clear hK K
   refine no_ (N := some 51) ?_
   refine pu_ (i := 20) (N := some 53) (bA 33 2097151) ?_
   refine pu_ (i := 21) (N := some 54) (bA 33 4194303) ?_
   refine pu_ (i := 22) (N := some 55) (bA 33 8388607) ?_
   refine pu_ (i := 25) (N := some 58) (bA 33 41943039) ?_
   refine pu_ (i := 27) (N := some 60) (bA 33 176160767) ?_
   refine pu_ (i := 29) (N := some 62) (bA 33 713031679) ?_
   refine tk_ (i := 23) (N := some 56) (bA 33 721420287) ?_
   refine tk_ (i := 24) (N := some 57) (bA 33 738197503) ?_
   refine one_ (i := 26) (N := some 59) (bA 33 805306367) rfl rfl (one_of HT_.out zc_19) (by decide) (fun K hK => ?_)
   refine ge_ Try.func29 #[.agg #[.slice d8 a5.length d3, .slice d9 a6.length d4], .int .i64 a7] ?_
   with_reducible refine (impl_NotOf.calls _ _ a5 _ _ a6 a7 f9 _ ?side1 ?side2 ?side3 ?side4 l8.out).mono ?_
   (case side1 => repeat (first | exact (Kd.S_reads' a3.out).2.2 | (with_reducible refine Kd.C_alloc ?_ _) | (with_reducible refine Kd.C_drewN ?_ _) | (with_reducible refine Kd.C_drew ?_)))
   (case side2 => exact (Kd.S_reads' a3.out).2.1)
   (case side3 => repeat (first | exact (Kd.Q_reads' a2.out).2.2 | (with_reducible refine Kd.C_alloc ?_ _) | (with_reducible refine Kd.C_drewN ?_ _) | (with_reducible refine Kd.C_drew ?_)))
   (case side4 => exact (Kd.Q_reads' a2.out).2.1)
   rintro e w' ⟨rfl, hb⟩
   refine ⟨_, rfl, ?_⟩
   replace a3 := ak (Kd.S_below (xS a3.out) hb)
   replace a2 := ak (Kd.Q_below (xQ a2.out) hb)
   replace a1 := ak (blk_below (g := a4) (o := .cells #[.slice d8 a5.length d3, .slice d9 a6.length d4] 26 (0, 0)) (xb a1.out) hb)
   replace HB := ak (below_step zc_0 hb)
   (try clear hb)
   (try clear hb2)
   (try clear hk)
   (try clear hi)
   refine hK.out _ _ ⟨(blk_cell a1.out 0).trans rfl, (blk_cell a1.out 1).trans rfl⟩ (fun hHeld => ?_)
   clear hK K
   refine no_ (N := some 59) ?_
   refine one_ (i := 28) (N := some 61) (bA 33 1073741823) rfl rfl (one_of HT_.out zc_19) (by decide) (fun K hK => ?_)
   refine ge_ Try.func52 #[.agg #[.slice d8 a5.length d3, .slice d9 a6.length d4], .int .i64 f9, .int .i64 a8] ?_
   with_reducible refine (impl_ApartFrom.calls _ _ a5 _ _ a6 f9 a8 h0 _ ?side1 ?side2 ?side3 ?side4 l9.out).mono ?_
   (case side1 => repeat (first | exact (Kd.S_reads' a3.out).2.2 | (with_reducible refine Kd.C_alloc ?_ _) | (with_reducible refine Kd.C_drewN ?_ _) | (with_reducible refine Kd.C_drew ?_)))
   (case side2 => exact (Kd.S_reads' a3.out).2.1)
   (case side3 => repeat (first | exact (Kd.Q_reads' a2.out).2.2 | (with_reducible refine Kd.C_alloc ?_ _) | (with_reducible refine Kd.C_drewN ?_ _) | (with_reducible refine Kd.C_drew ?_)))
   (case side4 => exact (Kd.Q_reads' a2.out).2.1)
   rintro e w' ⟨rfl, hb⟩
   refine ⟨_, rfl, ?_⟩
   replace a3 := ak (Kd.S_below (xS a3.out) hb)
   replace a2 := ak (Kd.Q_below (xQ a2.out) hb)
   replace a1 := ak (blk_below (g := a4) (o := .cells #[.slice d8 a5.length d3, .slice d9 a6.length d4] 26 (0, 0)) (xb a1.out) hb)
   replace HB := ak (below_step zc_0 hb)
   (try clear hb)
   (try clear hb2)
   (try clear hk)
   (try clear hi)
   refine hK.out _ _ ⟨(blk_cell a1.out 0).trans rfl, (blk_cell a1.out 1).trans rfl⟩ (fun hHeld => ?_)
   clear hK K
   refine no_ (N := some 61) ?_
   refine pu_ (i := 30) (N := some 63) (bA 33 2147483647) ?_
   refine pu_ (i := 31) (N := some 64) (bA 33 4294967295) ?_
   refine pu_ (i := 32) (N := some 2) (bA 33 8589934591) ?_
   refine done_ (done_of HT_.out zc_19) ?_
   try go_wp2
   go_ret
   exact ⟨zc_2, zc_0⟩
  obtain rfl := Option.some.inj H
  go_enter Try.func13, Try.ntmps13
  try go_wp2_with (first | ((with_reducible refine gate_callee (f := 51) rfl ?_); refine gl_ (some 12) Try.func51 #[.slice A0 l0.length c0] ?_; (with_reducible refine (spec_DrawApartFrom.calls k _ _ l0 a5 a6 a7 a8 _ (y4 HR0.out) h3.out A3.out).mono ?_); rintro e w' ⟨g4, g5, rfl, ho0, ho1, hb⟩; refine ⟨_, rfl, ?_⟩; have a3 := ak (Kd.S_lower ho0 (below_size zc_1)); have a2 := ak (Kd.Q_lower ho1 (below_size zc_1)); replace HB := ak (below_step zc_1 hb); (try clear hb); (try clear hb2); (try clear hk); (try clear hi); (try clear ho0); (try clear ho1)) | ((with_reducible refine gate_dst (N := 3) rfl ?_); refine bx_ (N := 3) (cs := #[.slice none 0 0, .slice none 0 0]) (t := 26) ?_; intro a4 hg n5 hbox hb; replace a3 := ak (Kd.S_below (xS a3.out) hb); replace a2 := ak (Kd.Q_below (xQ a2.out) hb); have a1 := ak (hbox); have e3 := ak ((by rw [hg]; exact (below_size zc_1) : w.heap.size ≤ a4)); have d5 := ak ((by rw [hg]; exact (below_size zc_1) : w.heap.size ≤ a4)); replace HB := ak (below_step zc_1 hb); clear hb hbox hg; obtain ⟨f0, e6, k6⟩ := Kd.S_slice a3.out; subst k6; have b1 := cz20 a1.out; have b2 := cz21 a1.out; have b3 := blk_frozen a1.out 0; have b4 := blk_frozen a1.out 1; obtain ⟨f1, e7, k7, _⟩ := Kd.Q_slice a2.out; subst k7) | ((with_reducible refine gate_callee (f := 52) rfl ?_); refine gl_ (some 19) Try.func52 #[.agg #[.slice f0 a5.length e6, .slice f1 a6.length e7], .int .i64 a7, .int .i64 a8] ?_; (with_reducible refine (impl_ApartFrom.calls _ _ a5 _ _ a6 a7 a8 b0 _ (by refine (Kd.S_reads' (e := 24) (base := w.heap.size) (ok := fun k_ => some k_ ≠ (.slice f1 a6.length e7 : Value).ownBlock) (n := a5.length) (c := e6) ?_).2.2; exact zc_12) (y2 a3.out) (by refine (Kd.Q_reads' (e := 3) (base := w.heap.size) (ok := fun k_ => True) (n := a6.length) (c := e7) ?_).2.2; exact zc_5) (y2 a2.out) A4.out).mono ?_); rintro e w' ⟨rfl, hb⟩; refine ⟨_, rfl, ?_⟩; replace a3 := ak (Kd.S_below zc_12 hb); replace a2 := ak (Kd.Q_below zc_5 hb); replace a1 := ak (blk_below (g := a4) (o := .cells #[.slice f0 a5.length e6, .slice f1 a6.length e7] 26 (0, 0)) (by (with_reducible repeat (first | refine blk_drewN ?_ _ | refine blk_drew ?_ | refine blk_alloc ?_ _)); refine blk_put (cs := #[.slice f0 a5.length e6, .slice none 0 0]) ?_ 1 _ rfl; (with_reducible repeat (first | refine blk_drewN ?_ _ | refine blk_drew ?_ | refine blk_alloc ?_ _)); refine blk_put (cs := #[.slice none 0 0, .slice none 0 0]) ?_ 0 _ rfl; (with_reducible repeat (first | refine blk_drewN ?_ _ | refine blk_drew ?_ | refine blk_alloc ?_ _)); exact a1.out) hb); replace HB := ak (below_step zc_0 hb); (try clear hb); (try clear hb2); (try clear hk); (try clear hi); have b1 := cz20 a1.out; have b2 := cz21 a1.out; have b3 := blk_frozen a1.out 0; have b4 := blk_frozen a1.out 1) | ((with_reducible refine gate_callee (f := 53) rfl ?_); refine gl_ (some 24) Try.func53 #[.agg #[.slice f0 a5.length e6, .slice f1 a6.length e7], .int .i64 a7, .int .i64 a8] ?_; (with_reducible refine (spec_ApartFrom.calls k _ _ a5 _ _ a6 a7 a8 e0 _ (y1 a3.out) (y2 a3.out) (y1 a2.out) (y2 a2.out) A5.out).mono ?_); rintro e k8 ⟨rfl, hb⟩; refine ⟨_, rfl, ?_⟩; replace a3 := ak (Kd.S_below (xS a3.out) hb); replace a2 := ak (Kd.Q_below (xQ a2.out) hb); replace a1 := ak (blk_below (g := a4) (o := .cells #[.slice f0 a5.length e6, .slice f1 a6.length e7] 26 (0, 0)) (xb a1.out) hb); replace HB := ak (below_step zc_0 hb); (try clear hb); (try clear hb2); (try clear hk); (try clear hi)))
  replace a3 := ak (Kd.S_drew a3.out)
  replace a2 := ak (Kd.Q_drew a2.out)
  replace a1 := ak (blk_drew a1.out)
  replace HB := ak (below_drew1 HB.out)
  refine start_ (n := 33) (S := fun w' => w'.cell? ⟨a4, 0, none⟩ = some (.slice f0 a5.length e6) ∧ w'.cell? ⟨a4, 1, none⟩ = some (.slice f1 a6.length e7)) (ds := []) (bA 33 0) zc_19 rfl rfl ⟨(blk_cell a1.out 0).trans rfl, (blk_cell a1.out 1).trans rfl⟩ (fun hHeld => ?_); refine with_tabW laws_FnApartFrom.tab9 laws_FnApartFrom.bits9 (fun HT_ HW_ => ?_)
  generalize k8.drew = m1 at a3 a2 a1 HB hHeld ⊢
  refine tk_ (i := 0) (N := some 33) (bA 33 1) ?_
  refine one_ (i := 1) (N := some 34) (bA 33 3) rfl rfl (one_of HT_.out zc_19) (by decide) (fun K hK => ?_)
  refine ge_ Try.func42 #[.agg #[.slice f0 a5.length e6, .slice f1 a6.length e7]] ?_
  with_reducible refine (impl_KeepsOk.calls _ _ a5 _ _ a6 false _ ?side1 ?side2 ?side3 ?side4 h5.out).mono ?_
  (case side1 => repeat (first | exact (Kd.S_reads' a3.out).2.2 | (with_reducible refine Kd.C_alloc ?_ _) | (with_reducible refine Kd.C_drewN ?_ _) | (with_reducible refine Kd.C_drew ?_)))
  (case side2 => exact (Kd.S_reads' a3.out).2.1)
  (case side3 => repeat (first | exact (Kd.Q_reads' a2.out).2.2 | (with_reducible refine Kd.C_alloc ?_ _) | (with_reducible refine Kd.C_drewN ?_ _) | (with_reducible refine Kd.C_drew ?_)))
  (case side4 => exact (Kd.Q_reads' a2.out).2.1)
  rintro e w' ⟨rfl, hb⟩
  refine ⟨_, rfl, ?_⟩
  replace a3 := ak (Kd.S_below (xS a3.out) hb)
  replace a2 := ak (Kd.Q_below (xQ a2.out) hb)
  replace a1 := ak (blk_below (g := a4) (o := .cells #[.slice f0 a5.length e6, .slice f1 a6.length e7] 26 (0, 0)) (xb a1.out) hb)
  replace HB := ak (below_step zc_0 hb)
  (try clear hb)
  (try clear hb2)
  (try clear hk)
  (try clear hi)
  refine hK.out _ _ ⟨(blk_cell a1.out 0).trans rfl, (blk_cell a1.out 1).trans rfl⟩ (fun hHeld => ?_)
  clear hK K
  refine no_ (N := some 34) ?_
  refine pu_ (i := 2) (N := some 35) (bA 33 7) ?_
  refine pu_ (i := 3) (N := some 36) (bA 33 15) ?_
  refine of_ (i := 4) (N := some 37) (bA 33 31) ?_
  refine of_ (i := 5) (N := some 38) (bA 33 63) ?_
  refine of_ (i := 6) (N := some 39) (bA 33 127) ?_
  refine of_ (i := 7) (N := some 40) (bA 33 255) ?_
  refine of_ (i := 8) (N := some 41) (bA 33 511) ?_
  refine of_ (i := 9) (N := some 42) (bA 33 1023) ?_
  refine of_ (i := 10) (N := some 43) (bA 33 2047) ?_
  refine of_ (i := 11) (N := some 44) (bA 33 4095) ?_
  refine of_ (i := 12) (N := some 45) (bA 33 8191) ?_
  refine pu_ (i := 13) (N := some 46) (bA 33 16383) ?_
  refine pu_ (i := 14) (N := some 47) (bA 33 32767) ?_
  refine pu_ (i := 16) (N := some 49) (bA 33 98303) ?_
  refine pu_ (i := 17) (N := some 50) (bA 33 229375) ?_
  refine pu_ (i := 19) (N := some 52) (bA 33 753663) ?_
  refine tk_ (i := 15) (N := some 48) (bA 33 786431) ?_
  refine one_ (i := 18) (N := some 51) (bA 33 1048575) rfl rfl (one_of HT_.out zc_19) (by decide) (fun K hK => ?_)
  refine ge_ Try.func52 #[.agg #[.slice f0 a5.length e6, .slice f1 a6.length e7], .int .i64 a8, .int .i64 a7] ?_
  with_reducible refine (impl_ApartFrom.calls _ _ a5 _ _ a6 a8 a7 g7 _ ?side1 ?side2 ?side3 ?side4 l2.out).mono ?_
  (case side1 => repeat (first | exact (Kd.S_reads' a3.out).2.2 | (with_reducible refine Kd.C_alloc ?_ _) | (with_reducible refine Kd.C_drewN ?_ _) | (with_reducible refine Kd.C_drew ?_)))
  (case side2 => exact (Kd.S_reads' a3.out).2.1)
  (case side3 => repeat (first | exact (Kd.Q_reads' a2.out).2.2 | (with_reducible refine Kd.C_alloc ?_ _) | (with_reducible refine Kd.C_drewN ?_ _) | (with_reducible refine Kd.C_drew ?_)))
  (case side4 => exact (Kd.Q_reads' a2.out).2.1)
  rintro e w' ⟨rfl, hb⟩
  refine ⟨_, rfl, ?_⟩
  replace a3 := ak (Kd.S_below (xS a3.out) hb)
  replace a2 := ak (Kd.Q_below (xQ a2.out) hb)
  replace a1 := ak (blk_below (g := a4) (o := .cells #[.slice f0 a5.length e6, .slice f1 a6.length e7] 26 (0, 0)) (xb a1.out) hb)
  replace HB := ak (below_step zc_0 hb)
  (try clear hb)
  (try clear hb2)
  (try clear hk)
  (try clear hi)
  refine hK.out _ _ ⟨(blk_cell a1.out 0).trans rfl, (blk_cell a1.out 1).trans rfl⟩ (fun hHeld => ?_)
  clear hK K
  refine no_ (N := some 51) ?_
  refine pu_ (i := 20) (N := some 53) (bA 33 2097151) ?_
  refine pu_ (i := 21) (N := some 54) (bA 33 4194303) ?_
  refine pu_ (i := 22) (N := some 55) (bA 33 8388607) ?_
  refine of_ (i := 23) (N := some 56) (bA 33 16777215) ?_
  refine of_ (i := 24) (N := some 57) (bA 33 33554431) ?_
  refine of_ (i := 25) (N := some 58) (bA 33 67108863) ?_
  refine of_ (i := 26) (N := some 59) (bA 33 134217727) ?_
  refine of_ (i := 27) (N := some 60) (bA 33 268435455) ?_
  refine of_ (i := 28) (N := some 61) (bA 33 536870911) ?_
  refine of_ (i := 29) (N := some 62) (bA 33 1073741823) ?_
  refine of_ (i := 30) (N := some 63) (bA 33 2147483647) ?_
  refine pu_ (i := 31) (N := some 64) (bA 33 4294967295) ?_
  refine pu_ (i := 32) (N := some 2) (bA 33 8589934591) ?_
  refine done_ (done_of HT_.out zc_19) ?_
  try go_wp2
  go_ret
  exact ⟨zc_2, zc_0⟩
 obtain rfl := Option.some.inj H
 go_enter Try.func13, Try.ntmps13
 go_wp2_with (first | ((with_reducible refine gate_callee (f := 51) rfl ?_); refine gl_ (some 12) Try.func51 #[.slice A0 l0.length c0] ?_; (with_reducible refine (spec_DrawApartFrom.calls k _ _ l0 a5 a6 a7 a8 _ (y4 HR0.out) h3.out A3.out).mono ?_); rintro e w' ⟨g4, g5, rfl, ho0, ho1, hb⟩; refine ⟨_, rfl, ?_⟩; have a3 := ak (Kd.S_lower ho0 (below_size zc_1)); have a2 := ak (Kd.Q_lower ho1 (below_size zc_1)); replace HB := ak (below_step zc_1 hb); (try clear hb); (try clear hb2); (try clear hk); (try clear hi); (try clear ho0); (try clear ho1)) | ((with_reducible refine gate_dst (N := 3) rfl ?_); refine bx_ (N := 3) (cs := #[.slice none 0 0, .slice none 0 0]) (t := 26) ?_; intro a4 hg m2 hbox hb; replace a3 := ak (Kd.S_below (xS a3.out) hb); replace a2 := ak (Kd.Q_below (xQ a2.out) hb); have a1 := ak (hbox); have e3 := ak ((by rw [hg]; exact (below_size zc_1) : w.heap.size ≤ a4)); have d5 := ak ((by rw [hg]; exact (below_size zc_1) : w.heap.size ≤ a4)); replace HB := ak (below_step zc_1 hb); clear hb hbox hg; obtain ⟨f2, e8, i3⟩ := Kd.S_slice a3.out; subst i3; have b1 := cz20 a1.out; have b2 := cz21 a1.out; have b3 := blk_frozen a1.out 0; have b4 := blk_frozen a1.out 1; obtain ⟨f3, e9, i4, _⟩ := Kd.Q_slice a2.out; subst i4) | ((with_reducible refine gate_callee (f := 52) rfl ?_); refine gl_ (some 19) Try.func52 #[.agg #[.slice f2 a5.length e8, .slice f3 a6.length e9], .int .i64 a7, .int .i64 a8] ?_; (with_reducible refine (impl_ApartFrom.calls _ _ a5 _ _ a6 a7 a8 b0 _ (by refine (Kd.S_reads' (e := 24) (base := w.heap.size) (ok := fun k_ => some k_ ≠ (.slice f3 a6.length e9 : Value).ownBlock) (n := a5.length) (c := e8) ?_).2.2; exact zc_4) (y2 a3.out) (by refine (Kd.Q_reads' (e := 3) (base := w.heap.size) (ok := fun k_ => True) (n := a6.length) (c := e9) ?_).2.2; exact zc_3) (y2 a2.out) A4.out).mono ?_); rintro e w' ⟨rfl, hb⟩; refine ⟨_, rfl, ?_⟩; replace a3 := ak (Kd.S_below zc_4 hb); replace a2 := ak (Kd.Q_below zc_3 hb); replace a1 := ak (blk_below (g := a4) (o := .cells #[.slice f2 a5.length e8, .slice f3 a6.length e9] 26 (0, 0)) (by (with_reducible repeat (first | refine blk_drewN ?_ _ | refine blk_drew ?_ | refine blk_alloc ?_ _)); refine blk_put (cs := #[.slice f2 a5.length e8, .slice none 0 0]) ?_ 1 _ rfl; (with_reducible repeat (first | refine blk_drewN ?_ _ | refine blk_drew ?_ | refine blk_alloc ?_ _)); refine blk_put (cs := #[.slice none 0 0, .slice none 0 0]) ?_ 0 _ rfl; (with_reducible repeat (first | refine blk_drewN ?_ _ | refine blk_drew ?_ | refine blk_alloc ?_ _)); exact a1.out) hb); replace HB := ak (below_step zc_0 hb); (try clear hb); (try clear hb2); (try clear hk); (try clear hi); have b1 := cz20 a1.out; have b2 := cz21 a1.out; have b3 := blk_frozen a1.out 0; have b4 := blk_frozen a1.out 1) | ((with_reducible refine gate_callee (f := 53) rfl ?_); refine gl_ (some 24) Try.func53 #[.agg #[.slice f2 a5.length e8, .slice f3 a6.length e9], .int .i64 a7, .int .i64 a8] ?_; (with_reducible refine (spec_ApartFrom.calls k _ _ a5 _ _ a6 a7 a8 e0 _ (y1 a3.out) (y2 a3.out) (y1 a2.out) (y2 a2.out) A5.out).mono ?_); rintro e w' ⟨rfl, hb⟩; refine ⟨_, rfl, ?_⟩; replace a3 := ak (Kd.S_below (xS a3.out) hb); replace a2 := ak (Kd.Q_below (xQ a2.out) hb); replace a1 := ak (blk_below (g := a4) (o := .cells #[.slice f2 a5.length e8, .slice f3 a6.length e9] 26 (0, 0)) (xb a1.out) hb); replace HB := ak (below_step zc_0 hb); (try clear hb); (try clear hb2); (try clear hk); (try clear hi)))
 go_ret
 exact ⟨zc_2, zc_0⟩

theorem laws_FnApartFrom.walk (P : laws_FnApartFrom.Pure) (a0 : Option Addr) (len0 cap0 : Nat) (z0 : List Int) (w : World) (w0 : (a0 = none ∧ len0 = 0 ∧ cap0 = 0 ∧ z0 = []) ∨ ∃ x, a0 = some x ∧ len0 ≤ cap0 ∧ cap0 ≤ maxLen ∧ z0.length = cap0 ∧ (∀ i, i < z0.length → w.cell? (x.add i) = some (.int .u8 (z0.getD i 0))) ∧ ∀ n ∈ z0, (Lit.int .u8 n).wf = true) (y0 : len0 * 1 ≤ 140737488351232) :
 Calls Try.prog 13 #[.slice a0 len0 cap0] w fun e w' => e = .returned (.bool true) ∧ Below w.heap.size w w' := by
 obtain ⟨l0, rfl, hr0, hm0, hw0, hc0⟩ := ReadsInt.ofRowC w0
 obtain ⟨k, h⟩ := P l0 hm0 y0 hw0
 refine (laws_FnApartFrom.calls k _ _ l0 true w (Kd.C_of_reads (d := (0 : Int)) (h1 := fun _ => rfl) hr0) hc0 h).mono ?_
 rintro e w' ⟨rfl, hd⟩
 exact ⟨rfl, hd⟩

end Go.Proofs.Ytjgfpiilfnchnaa.P
