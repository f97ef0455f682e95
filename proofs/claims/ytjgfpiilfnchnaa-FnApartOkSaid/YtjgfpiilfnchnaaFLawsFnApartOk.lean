-- written by gen.py (a program of this session) out of the kit's print of this seat's translation
import Derived.Test.YtjgfpiilfnchnaaPk2
import Derived.Test.YtjgfpiilfnchnaaFLawsAlive
import Derived.Test.YtjgfpiilfnchnaaFSpecAndOf
import Derived.Test.YtjgfpiilfnchnaaFSpecApartOk
import Derived.Test.YtjgfpiilfnchnaaFSpecDrawApartOk
import Derived.Test.YtjgfpiilfnchnaaV1
import Derived.Test.YtjgfpiilfnchnaaV5
namespace Go.Proofs.Ytjgfpiilfnchnaa.P
open Go.RowKit Go.Proofs.YtjgfpiilfnchnaaW.PrintWords Go.Proofs.YtjgfpiilfnchnaaW.PrintLast Go.Proofs.YtjgfpiilfnchnaaW.PrintMore
attribute [local go_sem] max2_int min2_int max_two min_two max_three min_three max_four min_four
set_option linter.unusedVariables false
set_option linter.unusedSimpArgs false
def laws_FnApartOk.T9 : Bool × List (List Nat × List Nat) := (true, [([], []), ([], []), ([], []), ([0, 1, 2], [0, 1, 2]), ([], []), ([3, 4], [3, 4]), ([5, 3], [5]), ([6], [6]), ([7, 6], [6, 7]), ([8, 6, 6], [6, 8]), ([9], [9]), ([9], [9]), ([9], [9]), ([10, 11, 12, 9, 9], [9, 10, 11, 12]), ([9], [9]), ([14, 13, 9], [9, 14]), ([13, 15, 9], [9, 13, 15]), ([9, 16, 6], [6, 9, 16]), ([6, 17], [6, 17]), ([18, 15], [18]), ([19], [19]), ([19], [19]), ([19], [19]), ([19], [19]), ([22, 23, 19, 19], [19, 22, 23]), ([20, 21, 24, 24, 19], [19, 20, 21, 24]), ([19, 25], [19, 25]), ([26, 25], [26]), ([27], [27]), ([27], [27]), ([27], [27]), ([28, 29, 30, 27, 27], [27, 28, 29, 30]), ([27], [27]), ([27], [27]), ([33, 31, 27], [27, 33]), ([32, 34, 27], [27, 32, 34]), ([31, 35, 27], [27, 31, 35]), ([27, 36], [27, 36]), ([37, 34, 0, 1, 2, 3, 4, 5, 6, 7, 8, 9, 10, 11, 12, 13, 14, 15, 16, 17, 18, 19, 20, 21, 22, 23, 24, 25, 26, 27, 28, 29, 30, 31, 32, 33, 34, 35, 36, 37], [37])])
def laws_FnApartOk.B9 : List Nat := [0, 0, 0, 7, 0, 31, 63, 127, 255, 511, 1023, 1023, 1023, 8191, 1023, 32767, 65535, 131071, 262143, 524287, 1048575, 1048575, 1048575, 1048575, 13631487, 33554431, 67108863, 134217727, 268435455, 268435455, 268435455, 2147483647, 268435455, 268435455, 12884901887, 34359738367, 68719476735, 137438953471, 274877906943]
theorem laws_FnApartOk.tab9 : rtab .any (opsOf Try.f9 9) = laws_FnApartOk.T9 := by kernel_rfl
theorem laws_FnApartOk.bits9 : waitsOk laws_FnApartOk.T9.2 laws_FnApartOk.B9 = true := by kernel_rfl
theorem zd_21 {p : Prop} (h : p := by kernel_rfl) : p := h
theorem zd_20 {p : Prop} (h : p := by (with_reducible repeat (first | apply Kd.Q_alloc | apply Kd.Q_drewN | apply Kd.Q_drew)); exact (Kd.Q_mono (Kd.Q_far (p := ⟨a6, 1, none⟩) (Kd.Q_far (p := ⟨a6, 0, none⟩) (Kd.Q_types a2.out a1.out (by decide)) (fun _ hk => hk.2) (.slice h6 a4.length h4)) (fun _ hk => hk.2) (.slice g8 a5.length g3)) (fun _ h_ => h_.1))) : p := h
theorem zd_19 {p : Prop} (h : p := by (with_reducible repeat (first | apply Kd.S_alloc | apply Kd.S_drewN | apply Kd.S_drew)); exact (Kd.S_mono (Kd.S_far (p := ⟨a6, 1, none⟩) (Kd.S_far (p := ⟨a6, 0, none⟩) (Kd.S_types a3.out a1.out (by decide)) (fun _ hk => hk.2) (.slice h6 a4.length h4)) (fun _ hk => hk.2) (.slice g8 a5.length g3)) (fun _ h_ => h_.1))) : p := h
theorem zd_18 {p : Prop} (h : p := by (with_reducible repeat (first | apply Kd.Q_alloc | apply Kd.Q_drewN | apply Kd.Q_drew)); exact (Kd.Q_mono (Kd.Q_far (p := ⟨a6, 1, none⟩) (Kd.Q_far (p := ⟨a6, 0, none⟩) (Kd.Q_types a2.out a1.out (by decide)) (fun _ hk => hk.2) (.slice f8 a4.length f3)) (fun _ hk => hk.2) (.slice g0 a5.length f4)) (fun _ h_ => h_.1))) : p := h
theorem zd_17 {p : Prop} (h : p := by (with_reducible repeat (first | apply Kd.Q_alloc | apply Kd.Q_drewN | apply Kd.Q_drew)); exact (Kd.Q_mono (Kd.Q_far (p := ⟨a6, 1, none⟩) (Kd.Q_far (p := ⟨a6, 0, none⟩) (Kd.Q_types a2.out a1.out (by decide)) (fun _ hk => hk.2) (.slice g1 a4.length f5)) (fun _ hk => hk.2) (.slice g2 a5.length f6)) (fun _ h_ => h_.1))) : p := h
theorem zd_16 {p : Prop} (h : p := by (with_reducible repeat (first | apply Kd.Q_alloc | apply Kd.Q_drewN | apply Kd.Q_drew)); exact (Kd.Q_mono (Kd.Q_far (p := ⟨a6, 1, none⟩) (Kd.Q_far (p := ⟨a6, 0, none⟩) (Kd.Q_types a2.out a1.out (by decide)) (fun _ hk => hk.2) (.slice d4 a4.length d0)) (fun _ hk => hk.2) (.slice d5 a5.length d1)) (fun _ h_ => h_.1))) : p := h
theorem zd_15 {p : Prop} (h : p := by (with_reducible repeat (first | apply Kd.Q_alloc | apply Kd.Q_drewN | apply Kd.Q_drew)); exact (Kd.Q_mono (Kd.Q_far (p := ⟨a6, 1, none⟩) (Kd.Q_far (p := ⟨a6, 0, none⟩) (Kd.Q_types a2.out a1.out (by decide)) (fun _ hk => hk.2) (.slice d9 a4.length d6)) (fun _ hk => hk.2) (.slice e0 a5.length d7)) (fun _ h_ => h_.1))) : p := h
theorem zd_14 {p : Prop} (h : p := by (with_reducible repeat (first | apply Kd.Q_alloc | apply Kd.Q_drewN | apply Kd.Q_drew)); exact (Kd.Q_mono (Kd.Q_far (p := ⟨a6, 1, none⟩) (Kd.Q_far (p := ⟨a6, 0, none⟩) (Kd.Q_types a2.out a1.out (by decide)) (fun _ hk => hk.2) (.slice e8 a4.length e6)) (fun _ hk => hk.2) (.slice e9 a5.length e7)) (fun _ h_ => h_.1))) : p := h
theorem zd_13 {p : Prop} (h : p := by (with_reducible repeat (first | apply Kd.S_alloc | apply Kd.S_drewN | apply Kd.S_drew)); exact (Kd.S_mono (Kd.S_far (p := ⟨a6, 1, none⟩) (Kd.S_far (p := ⟨a6, 0, none⟩) (Kd.S_types a3.out a1.out (by decide)) (fun _ hk => hk.2) (.slice f8 a4.length f3)) (fun _ hk => hk.2) (.slice g0 a5.length f4)) (fun _ h_ => h_.1))) : p := h
theorem zd_12 {p : Prop} (h : p := by (with_reducible repeat (first | apply Kd.S_alloc | apply Kd.S_drewN | apply Kd.S_drew)); exact (Kd.S_mono (Kd.S_far (p := ⟨a6, 1, none⟩) (Kd.S_far (p := ⟨a6, 0, none⟩) (Kd.S_types a3.out a1.out (by decide)) (fun _ hk => hk.2) (.slice g1 a4.length f5)) (fun _ hk => hk.2) (.slice g2 a5.length f6)) (fun _ h_ => h_.1))) : p := h
theorem zd_11 {p : Prop} (h : p := by (with_reducible repeat (first | apply Kd.S_alloc | apply Kd.S_drewN | apply Kd.S_drew)); exact (Kd.S_mono (Kd.S_far (p := ⟨a6, 1, none⟩) (Kd.S_far (p := ⟨a6, 0, none⟩) (Kd.S_types a3.out a1.out (by decide)) (fun _ hk => hk.2) (.slice d4 a4.length d0)) (fun _ hk => hk.2) (.slice d5 a5.length d1)) (fun _ h_ => h_.1))) : p := h
theorem zd_10 {p : Prop} (h : p := by (with_reducible repeat (first | apply Kd.S_alloc | apply Kd.S_drewN | apply Kd.S_drew)); exact (Kd.S_mono (Kd.S_far (p := ⟨a6, 1, none⟩) (Kd.S_far (p := ⟨a6, 0, none⟩) (Kd.S_types a3.out a1.out (by decide)) (fun _ hk => hk.2) (.slice d9 a4.length d6)) (fun _ hk => hk.2) (.slice e0 a5.length d7)) (fun _ h_ => h_.1))) : p := h
theorem zd_9 {p : Prop} (h : p := by (with_reducible repeat (first | apply Kd.S_alloc | apply Kd.S_drewN | apply Kd.S_drew)); exact (Kd.S_mono (Kd.S_far (p := ⟨a6, 1, none⟩) (Kd.S_far (p := ⟨a6, 0, none⟩) (Kd.S_types a3.out a1.out (by decide)) (fun _ hk => hk.2) (.slice e8 a4.length e6)) (fun _ hk => hk.2) (.slice e9 a5.length e7)) (fun _ h_ => h_.1))) : p := h
theorem zd_8 {p : Prop} (h : p := by (with_reducible repeat (first | apply Kd.Q_alloc | apply Kd.Q_drewN | apply Kd.Q_drew)); exact (Kd.Q_mono (Kd.Q_far (p := ⟨a6, 1, none⟩) (Kd.Q_far (p := ⟨a6, 0, none⟩) (Kd.Q_types a2.out a1.out (by decide)) (fun _ hk => hk.2) (.slice b6 a4.length b4)) (fun _ hk => hk.2) (.slice b7 a5.length b5)) (fun _ h_ => h_.1))) : p := h
theorem zd_7 {p : Prop} (h : p := by (with_reducible repeat (first | apply Kd.Q_alloc | apply Kd.Q_drewN | apply Kd.Q_drew)); exact (Kd.Q_mono (Kd.Q_far (p := ⟨a6, 1, none⟩) (Kd.Q_far (p := ⟨a6, 0, none⟩) (Kd.Q_types a2.out a1.out (by decide)) (fun _ hk => hk.2) (.slice d2 a4.length b8)) (fun _ hk => hk.2) (.slice d3 a5.length b9)) (fun _ h_ => h_.1))) : p := h
theorem zd_6 {p : Prop} (h : p := by (with_reducible repeat (first | apply Kd.Q_alloc | apply Kd.Q_drewN | apply Kd.Q_drew)); exact (Kd.Q_mono (Kd.Q_far (p := ⟨a6, 1, none⟩) (Kd.Q_far (p := ⟨a6, 0, none⟩) (Kd.Q_types a2.out a1.out (by decide)) (fun _ hk => hk.2) (.slice e3 a4.length e1)) (fun _ hk => hk.2) (.slice e4 a5.length e2)) (fun _ h_ => h_.1))) : p := h
theorem zd_5 {p : Prop} (h : p := by (with_reducible repeat (first | apply Kd.S_alloc | apply Kd.S_drewN | apply Kd.S_drew)); exact (Kd.S_mono (Kd.S_far (p := ⟨a6, 1, none⟩) (Kd.S_far (p := ⟨a6, 0, none⟩) (Kd.S_types a3.out a1.out (by decide)) (fun _ hk => hk.2) (.slice b6 a4.length b4)) (fun _ hk => hk.2) (.slice b7 a5.length b5)) (fun _ h_ => h_.1))) : p := h
theorem zd_4 {p : Prop} (h : p := by (with_reducible repeat (first | apply Kd.S_alloc | apply Kd.S_drewN | apply Kd.S_drew)); exact (Kd.S_mono (Kd.S_far (p := ⟨a6, 1, none⟩) (Kd.S_far (p := ⟨a6, 0, none⟩) (Kd.S_types a3.out a1.out (by decide)) (fun _ hk => hk.2) (.slice d2 a4.length b8)) (fun _ hk => hk.2) (.slice d3 a5.length b9)) (fun _ h_ => h_.1))) : p := h
theorem zd_3 {p : Prop} (h : p := by (with_reducible repeat (first | apply Kd.S_alloc | apply Kd.S_drewN | apply Kd.S_drew)); exact (Kd.S_mono (Kd.S_far (p := ⟨a6, 1, none⟩) (Kd.S_far (p := ⟨a6, 0, none⟩) (Kd.S_types a3.out a1.out (by decide)) (fun _ hk => hk.2) (.slice e3 a4.length e1)) (fun _ hk => hk.2) (.slice e4 a5.length e2)) (fun _ h_ => h_.1))) : p := h
theorem zd_2 {p : Prop} (h : p := by first | rfl | (simp [errW_none, errW_some] <;> rfl) | (simp [*, errW_none, errW_some] <;> rfl)) : p := h
theorem zd_1 {p : Prop} (h : p := by repeat (first | (with_reducible first | exact HB.out | apply below_alloc | apply pw_below_drewN | apply below_drew1) | exact HB.out)) : p := h
theorem zd_0 {p : Prop} (h : p := by repeat (first | (with_reducible first | exact HB.out | apply below_alloc | apply pw_below_drewN | apply below_drew1 | refine below_set ?_ f1.out) | exact HB.out)) : p := h
set_option maxHeartbeats 8000000 in
set_option maxRecDepth 100000 in
theorem laws_FnApartOk.calls (k : Nat) (A0 : Option Addr) (c0 : Nat) (l0 : List Int) (r : Bool) (w : World) (hr0 : Kd.C (Kd.int .u8) w A0 l0.length l0) (hc0 : l0.length ≤ c0) (h : laws_FnApartOk.f k l0 = some r) :
 Calls Try.prog 9 #[.slice A0 l0.length c0] w fun e w' => e = .returned (.bool r) ∧ Below w.heap.size w w' := by
 have hu26 := Try.underlying26
 have HR0 := ak hr0
 have h3 := ak hc0
 clear hr0 hc0
 have HB := ak (Below.refl w.heap.size w)
 have H : (if (l0.length : Int) > 1048576 then (some true) else ((spec_DrawApartOk.f k l0).bind fun a9 => ((impl_ApartOk.f a9.1 a9.2.1 a9.2.2.1 a9.2.2.2).bind fun d8 => ((spec_ApartOk.f k a9.1 a9.2.1 a9.2.2.1 a9.2.2.2).bind fun e5 => (if (d8 != e5) = true then (some false) else ((spec_AndOf.f k a9.1 a9.2.1 a9.2.2.1 a9.2.2.2).bind fun f7 => (if f7 < 0 then (if d8 = true then (some false) else ((laws_alive.f k).bind fun h7 => (some h7))) else ((impl_ApartOk.f a9.1 a9.2.1 a9.2.2.2 a9.2.2.1).bind fun f0 => (if (f0 == d8) = true then (if d8 = true then ((impl_AndOf.f a9.1 a9.2.1 a9.2.2.1 a9.2.2.2).bind fun g9 => ((impl_NoOf.f a9.1 a9.2.1).bind fun h0 => (if g9 = h0 then ((impl_NotOf.f a9.1 a9.2.1 a9.2.2.1).bind fun g4 => ((impl_ApartOk.f a9.1 a9.2.1 a9.2.2.1 g4).bind fun i3 => (if i3 = true then ((impl_ApartOk.f a9.1 a9.2.1 a9.2.2.1 a9.2.2.1).bind fun h8 => ((impl_NoOf.f a9.1 a9.2.1).bind fun h9 => (some (h8 == (a9.2.2.1 == h9))))) else (some false)))) else (some false)))) else ((impl_NotOf.f a9.1 a9.2.1 a9.2.2.1).bind fun g5 => ((impl_ApartOk.f a9.1 a9.2.1 a9.2.2.1 g5).bind fun i4 => (if i4 = true then ((impl_ApartOk.f a9.1 a9.2.1 a9.2.2.1 a9.2.2.1).bind fun i0 => ((impl_NoOf.f a9.1 a9.2.1).bind fun i1 => (some (i0 == (a9.2.2.1 == i1))))) else (some false))))) else (some false)))))))))) = some r := h
 clear h
 replace H := op_ H
 rcases H with ⟨c2, H⟩ | ⟨c2, H⟩
 ·
  have j8 : decide (1048576 < (l0.length : Int)) = true := dT_ c2
  have j9 : decide (1048576 < l0.length) = true := dT_ (by omega)
  clear c2
  obtain rfl := Option.some.inj H
  go_enter Try.func9, Try.ntmps9
  go_wp2
  go_ret
  exact ⟨zd_2, zd_1⟩
 have j8 : decide (1048576 < (l0.length : Int)) = false := dF_ c2
 have j9 : decide (1048576 < l0.length) = false := dF_ (by omega)
 clear c2
 replace H := bd_ H
 obtain ⟨⟨a4, a5, a7, a8⟩, A3, H⟩ := H
 try dsimp only at H
 replace H := bd_ H
 obtain ⟨d8, A4, H⟩ := H
 replace H := bd_ H
 obtain ⟨e5, A5, H⟩ := H
 try dsimp only at H
 replace H := op_ H
 rcases H with ⟨c6, H⟩ | ⟨c6, H⟩
 ·
  have k0 : (d8 != e5) = true := c6
  (try (have k1 : decide (d8 = e5) = false := by simpa using c6))
  (try (have k2 : (d8 == e5) = false := by simpa using c6))
  (try (have m6 : ¬ (d8 = e5) := by simpa using c6))
  clear c6
  obtain rfl := Option.some.inj H
  go_enter Try.func9, Try.ntmps9
  go_wp2_with (first | ((with_reducible refine gate_callee (f := 35) rfl ?_); refine gl_ (some 12) Try.func35 #[.slice A0 l0.length c0] ?_; (with_reducible refine (spec_DrawApartOk.calls k _ _ l0 a4 a5 a7 a8 _ (y4 HR0.out) h3.out A3.out).mono ?_); rintro e w' ⟨g6, g7, rfl, ho0, ho1, hb⟩; refine ⟨_, rfl, ?_⟩; have a3 := ak (Kd.S_lower ho0 (below_size zd_1)); have a2 := ak (Kd.Q_lower ho1 (below_size zd_1)); replace HB := ak (below_step zd_1 hb); (try clear hb); (try clear hb2); (try clear hk); (try clear hi); (try clear ho0); (try clear ho1)) | ((with_reducible refine gate_dst (N := 3) rfl ?_); refine bx_ (N := 3) (cs := #[.slice none 0 0, .slice none 0 0]) (t := 26) ?_; intro a6 hg w8 hbox hb; replace a3 := ak (Kd.S_below (xS a3.out) hb); replace a2 := ak (Kd.Q_below (xQ a2.out) hb); have a1 := ak (hbox); have f2 := ak ((by rw [hg]; exact (below_size zd_1) : w.heap.size ≤ a6)); have f1 := ak ((by rw [hg]; exact (below_size zd_1) : w.heap.size ≤ a6)); replace HB := ak (below_step zd_1 hb); clear hb hbox hg; obtain ⟨h6, h4, m7⟩ := Kd.S_slice a3.out; subst m7; have b0 := cz20 a1.out; have b1 := cz21 a1.out; have b2 := blk_frozen a1.out 0; have b3 := blk_frozen a1.out 1; obtain ⟨g8, g3, k3, _⟩ := Kd.Q_slice a2.out; subst k3) | ((with_reducible refine gate_callee (f := 36) rfl ?_); refine gl_ (some 19) Try.func36 #[.agg #[.slice h6 a4.length h4, .slice g8 a5.length g3], .int .i64 a7, .int .i64 a8] ?_; (with_reducible refine (impl_ApartOk.calls _ _ a4 _ _ a5 a7 a8 d8 _ (by refine (Kd.S_reads' (e := 24) (base := w.heap.size) (ok := fun k_ => some k_ ≠ (.slice g8 a5.length g3 : Value).ownBlock) (n := a4.length) (c := h4) ?_).2.2; exact zd_19) (y2 a3.out) (by refine (Kd.Q_reads' (e := 3) (base := w.heap.size) (ok := fun k_ => True) (n := a5.length) (c := g3) ?_).2.2; exact zd_20) (y2 a2.out) A4.out).mono ?_); rintro e w' ⟨rfl, hb⟩; refine ⟨_, rfl, ?_⟩; replace a3 := ak (Kd.S_below zd_19 hb); replace a2 := ak (Kd.Q_below zd_20 hb); replace a1 := ak (blk_below (g := a6) (o := .cells #[.slice h6 a4.length h4, .slice g8 a5.length g3] 26 (0, 0)) (by (with_reducible repeat (first | refine blk_drewN ?_ _ | refine blk_drew ?_ | refine blk_alloc ?_ _)); refine blk_put (cs := #[.slice h6 a4.length h4, .slice none 0 0]) ?_ 1 _ rfl; (with_reducible repeat (first | refine blk_drewN ?_ _ | refine blk_drew ?_ | refine blk_alloc ?_ _)); refine blk_put (cs := #[.slice none 0 0, .slice none 0 0]) ?_ 0 _ rfl; (with_reducible repeat (first | refine blk_drewN ?_ _ | refine blk_drew ?_ | refine blk_alloc ?_ _)); exact a1.out) hb); replace HB := ak (below_step zd_0 hb); (try clear hb); (try clear hb2); (try clear hk); (try clear hi); have b0 := cz20 a1.out; have b1 := cz21 a1.out; have b2 := blk_frozen a1.out 0; have b3 := blk_frozen a1.out 1) | ((with_reducible refine gate_callee (f := 37) rfl ?_); refine gl_ (some 24) Try.func37 #[.agg #[.slice h6 a4.length h4, .slice g8 a5.length g3], .int .i64 a7, .int .i64 a8] ?_; (with_reducible refine (spec_ApartOk.calls k _ _ a4 _ _ a5 a7 a8 e5 _ (y1 a3.out) (y2 a3.out) (y1 a2.out) (y2 a2.out) A5.out).mono ?_); rintro e w' ⟨rfl, hb⟩; refine ⟨_, rfl, ?_⟩; replace a3 := ak (Kd.S_below (xS a3.out) hb); replace a2 := ak (Kd.Q_below (xQ a2.out) hb); replace a1 := ak (blk_below (g := a6) (o := .cells #[.slice h6 a4.length h4, .slice g8 a5.length g3] 26 (0, 0)) (xb a1.out) hb); replace HB := ak (below_step zd_0 hb); (try clear hb); (try clear hb2); (try clear hk); (try clear hi)))
  go_ret
  exact ⟨zd_2, zd_0⟩
 have k0 : (d8 != e5) = false := by simpa using c6
 (try (have k1 : decide (d8 = e5) = true := by simpa using c6))
 (try (have k2 : (d8 == e5) = true := by simpa using c6))
 clear c6
 replace H := bd_ H
 obtain ⟨f7, h5, H⟩ := H
 try dsimp only at H
 replace H := os_ H
 rcases H with ⟨i5, H⟩ | ⟨i5, H⟩
 ·
  replace H := ox_ H
  rcases H with ⟨rfl, H⟩ | ⟨rfl, H⟩
  ·
   obtain rfl := Option.some.inj H
   go_enter Try.func9, Try.ntmps9
   go_wp2_with (first | ((with_reducible refine gate_callee (f := 35) rfl ?_); refine gl_ (some 12) Try.func35 #[.slice A0 l0.length c0] ?_; (with_reducible refine (spec_DrawApartOk.calls k _ _ l0 a4 a5 a7 a8 _ (y4 HR0.out) h3.out A3.out).mono ?_); rintro e w' ⟨g6, g7, rfl, ho0, ho1, hb⟩; refine ⟨_, rfl, ?_⟩; have a3 := ak (Kd.S_lower ho0 (below_size zd_1)); have a2 := ak (Kd.Q_lower ho1 (below_size zd_1)); replace HB := ak (below_step zd_1 hb); (try clear hb); (try clear hb2); (try clear hk); (try clear hi); (try clear ho0); (try clear ho1)) | ((with_reducible refine gate_dst (N := 3) rfl ?_); refine bx_ (N := 3) (cs := #[.slice none 0 0, .slice none 0 0]) (t := 26) ?_; intro a6 hg o0 hbox hb; replace a3 := ak (Kd.S_below (xS a3.out) hb); replace a2 := ak (Kd.Q_below (xQ a2.out) hb); have a1 := ak (hbox); have f2 := ak ((by rw [hg]; exact (below_size zd_1) : w.heap.size ≤ a6)); have f1 := ak ((by rw [hg]; exact (below_size zd_1) : w.heap.size ≤ a6)); replace HB := ak (below_step zd_1 hb); clear hb hbox hg; obtain ⟨f8, f3, k4⟩ := Kd.S_slice a3.out; subst k4; have b0 := cz20 a1.out; have b1 := cz21 a1.out; have b2 := blk_frozen a1.out 0; have b3 := blk_frozen a1.out 1; obtain ⟨g0, f4, k5, _⟩ := Kd.Q_slice a2.out; subst k5) | ((with_reducible refine gate_callee (f := 36) rfl ?_); refine gl_ (some 19) Try.func36 #[.agg #[.slice f8 a4.length f3, .slice g0 a5.length f4], .int .i64 a7, .int .i64 a8] ?_; (with_reducible refine (impl_ApartOk.calls _ _ a4 _ _ a5 a7 a8 true _ (by refine (Kd.S_reads' (e := 24) (base := w.heap.size) (ok := fun k_ => some k_ ≠ (.slice g0 a5.length f4 : Value).ownBlock) (n := a4.length) (c := f3) ?_).2.2; exact zd_13) (y2 a3.out) (by refine (Kd.Q_reads' (e := 3) (base := w.heap.size) (ok := fun k_ => True) (n := a5.length) (c := f4) ?_).2.2; exact zd_18) (y2 a2.out) A4.out).mono ?_); rintro e w' ⟨rfl, hb⟩; refine ⟨_, rfl, ?_⟩; replace a3 := ak (Kd.S_below zd_13 hb); replace a2 := ak (Kd.Q_below zd_18 hb); replace a1 := ak (blk_below (g := a6) (o := .cells #[.slice f8 a4.length f3, .slice g0 a5.length f4] 26 (0, 0)) (by (with_reducible repeat (first | refine blk_drewN ?_ _ | refine blk_drew ?_ | refine blk_alloc ?_ _)); refine blk_put (cs := #[.slice f8 a4.length f3, .slice none 0 0]) ?_ 1 _ rfl; (with_reducible repeat (first | refine blk_drewN ?_ _ | refine blk_drew ?_ | refine blk_alloc ?_ _)); refine blk_put (cs := #[.slice none 0 0, .slice none 0 0]) ?_ 0 _ rfl; (with_reducible repeat (first | refine blk_drewN ?_ _ | refine blk_drew ?_ | refine blk_alloc ?_ _)); exact a1.out) hb); replace HB := ak (below_step zd_0 hb); (try clear hb); (try clear hb2); (try clear hk); (try clear hi); have b0 := cz20 a1.out; have b1 := cz21 a1.out; have b2 := blk_frozen a1.out 0; have b3 := blk_frozen a1.out 1) | ((with_reducible refine gate_callee (f := 37) rfl ?_); refine gl_ (some 24) Try.func37 #[.agg #[.slice f8 a4.length f3, .slice g0 a5.length f4], .int .i64 a7, .int .i64 a8] ?_; (with_reducible refine (spec_ApartOk.calls k _ _ a4 _ _ a5 a7 a8 e5 _ (y1 a3.out) (y2 a3.out) (y1 a2.out) (y2 a2.out) A5.out).mono ?_); rintro e w' ⟨rfl, hb⟩; refine ⟨_, rfl, ?_⟩; replace a3 := ak (Kd.S_below (xS a3.out) hb); replace a2 := ak (Kd.Q_below (xQ a2.out) hb); replace a1 := ak (blk_below (g := a6) (o := .cells #[.slice f8 a4.length f3, .slice g0 a5.length f4] 26 (0, 0)) (xb a1.out) hb); replace HB := ak (below_step zd_0 hb); (try clear hb); (try clear hb2); (try clear hk); (try clear hi); have b0 := cz20 a1.out; have b1 := cz21 a1.out; have b2 := blk_frozen a1.out 0; have b3 := blk_frozen a1.out 1) | ((with_reducible refine gate_callee (f := 28) rfl ?_); refine gl_ (some 29) Try.func28 #[.agg #[.slice f8 a4.length f3, .slice g0 a5.length f4], .int .i64 a7, .int .i64 a8] ?_; (with_reducible refine (spec_AndOf.calls k _ _ a4 _ _ a5 a7 a8 f7 _ (y1 a3.out) (y2 a3.out) (y1 a2.out) (y2 a2.out) h5.out).mono ?_); rintro e w' ⟨rfl, hb⟩; refine ⟨_, rfl, ?_⟩; replace a3 := ak (Kd.S_below (xS a3.out) hb); replace a2 := ak (Kd.Q_below (xQ a2.out) hb); replace a1 := ak (blk_below (g := a6) (o := .cells #[.slice f8 a4.length f3, .slice g0 a5.length f4] 26 (0, 0)) (xb a1.out) hb); replace HB := ak (below_step zd_0 hb); (try clear hb); (try clear hb2); (try clear hk); (try clear hi)))
   go_ret
   exact ⟨zd_2, zd_0⟩
  replace H := bd_ H
  obtain ⟨h7, m8, H⟩ := H
  try dsimp only at H
  obtain rfl := Option.some.inj H
  go_enter Try.func9, Try.ntmps9
  go_wp2_with (first | ((with_reducible refine gate_callee (f := 35) rfl ?_); refine gl_ (some 12) Try.func35 #[.slice A0 l0.length c0] ?_; (with_reducible refine (spec_DrawApartOk.calls k _ _ l0 a4 a5 a7 a8 _ (y4 HR0.out) h3.out A3.out).mono ?_); rintro e w' ⟨g6, g7, rfl, ho0, ho1, hb⟩; refine ⟨_, rfl, ?_⟩; have a3 := ak (Kd.S_lower ho0 (below_size zd_1)); have a2 := ak (Kd.Q_lower ho1 (below_size zd_1)); replace HB := ak (below_step zd_1 hb); (try clear hb); (try clear hb2); (try clear hk); (try clear hi); (try clear ho0); (try clear ho1)) | ((with_reducible refine gate_dst (N := 3) rfl ?_); refine bx_ (N := 3) (cs := #[.slice none 0 0, .slice none 0 0]) (t := 26) ?_; intro a6 hg o1 hbox hb; replace a3 := ak (Kd.S_below (xS a3.out) hb); replace a2 := ak (Kd.Q_below (xQ a2.out) hb); have a1 := ak (hbox); have f2 := ak ((by rw [hg]; exact (below_size zd_1) : w.heap.size ≤ a6)); have f1 := ak ((by rw [hg]; exact (below_size zd_1) : w.heap.size ≤ a6)); replace HB := ak (below_step zd_1 hb); clear hb hbox hg; obtain ⟨g1, f5, k6⟩ := Kd.S_slice a3.out; subst k6; have b0 := cz20 a1.out; have b1 := cz21 a1.out; have b2 := blk_frozen a1.out 0; have b3 := blk_frozen a1.out 1; obtain ⟨g2, f6, k7, _⟩ := Kd.Q_slice a2.out; subst k7) | ((with_reducible refine gate_callee (f := 36) rfl ?_); refine gl_ (some 19) Try.func36 #[.agg #[.slice g1 a4.length f5, .slice g2 a5.length f6], .int .i64 a7, .int .i64 a8] ?_; (with_reducible refine (impl_ApartOk.calls _ _ a4 _ _ a5 a7 a8 false _ (by refine (Kd.S_reads' (e := 24) (base := w.heap.size) (ok := fun k_ => some k_ ≠ (.slice g2 a5.length f6 : Value).ownBlock) (n := a4.length) (c := f5) ?_).2.2; exact zd_12) (y2 a3.out) (by refine (Kd.Q_reads' (e := 3) (base := w.heap.size) (ok := fun k_ => True) (n := a5.length) (c := f6) ?_).2.2; exact zd_17) (y2 a2.out) A4.out).mono ?_); rintro e w' ⟨rfl, hb⟩; refine ⟨_, rfl, ?_⟩; replace a3 := ak (Kd.S_below zd_12 hb); replace a2 := ak (Kd.Q_below zd_17 hb); replace a1 := ak (blk_below (g := a6) (o := .cells #[.slice g1 a4.length f5, .slice g2 a5.length f6] 26 (0, 0)) (by (with_reducible repeat (first | refine blk_drewN ?_ _ | refine blk_drew ?_ | refine blk_alloc ?_ _)); refine blk_put (cs := #[.slice g1 a4.length f5, .slice none 0 0]) ?_ 1 _ rfl; (with_reducible repeat (first | refine blk_drewN ?_ _ | refine blk_drew ?_ | refine blk_alloc ?_ _)); refine blk_put (cs := #[.slice none 0 0, .slice none 0 0]) ?_ 0 _ rfl; (with_reducible repeat (first | refine blk_drewN ?_ _ | refine blk_drew ?_ | refine blk_alloc ?_ _)); exact a1.out) hb); replace HB := ak (below_step zd_0 hb); (try clear hb); (try clear hb2); (try clear hk); (try clear hi); have b0 := cz20 a1.out; have b1 := cz21 a1.out; have b2 := blk_frozen a1.out 0; have b3 := blk_frozen a1.out 1) | ((with_reducible refine gate_callee (f := 37) rfl ?_); refine gl_ (some 24) Try.func37 #[.agg #[.slice g1 a4.length f5, .slice g2 a5.length f6], .int .i64 a7, .int .i64 a8] ?_; (with_reducible refine (spec_ApartOk.calls k _ _ a4 _ _ a5 a7 a8 e5 _ (y1 a3.out) (y2 a3.out) (y1 a2.out) (y2 a2.out) A5.out).mono ?_); rintro e w' ⟨rfl, hb⟩; refine ⟨_, rfl, ?_⟩; replace a3 := ak (Kd.S_below (xS a3.out) hb); replace a2 := ak (Kd.Q_below (xQ a2.out) hb); replace a1 := ak (blk_below (g := a6) (o := .cells #[.slice g1 a4.length f5, .slice g2 a5.length f6] 26 (0, 0)) (xb a1.out) hb); replace HB := ak (below_step zd_0 hb); (try clear hb); (try clear hb2); (try clear hk); (try clear hi); have b0 := cz20 a1.out; have b1 := cz21 a1.out; have b2 := blk_frozen a1.out 0; have b3 := blk_frozen a1.out 1) | ((first | ((with_reducible refine gate_callee (f := 28) rfl ?_); refine gl_ (some 29) Try.func28 #[.agg #[.slice g1 a4.length f5, .slice g2 a5.length f6], .int .i64 a7, .int .i64 a8] ?_; (with_reducible refine (spec_AndOf.calls k _ _ a4 _ _ a5 a7 a8 f7 _ (y1 a3.out) (y2 a3.out) (y1 a2.out) (y2 a2.out) h5.out).mono ?_); rintro e w' ⟨rfl, hb⟩; refine ⟨_, rfl, ?_⟩) | (go_at_call 17; (with_reducible refine (laws_alive.calls k  h7 _ m8.out).mono ?_); rintro e w' ⟨rfl, hb⟩)); replace a3 := ak (Kd.S_below (xS a3.out) hb); replace a2 := ak (Kd.Q_below (xQ a2.out) hb); replace a1 := ak (blk_below (g := a6) (o := .cells #[.slice g1 a4.length f5, .slice g2 a5.length f6] 26 (0, 0)) (xb a1.out) hb); replace HB := ak (below_step zd_0 hb); (try clear hb); (try clear hb2); (try clear hk); (try clear hi)))
  go_ret
  exact ⟨zd_2, zd_0⟩
 replace H := bd_ H
 obtain ⟨f0, i2, H⟩ := H
 try dsimp only at H
 replace H := op_ H
 rcases H with ⟨h2, H⟩ | ⟨h2, H⟩
 ·
  have i6 : (f0 == d8) = true := h2
  (try (have i7 : decide (f0 = d8) = true := by simpa using h2))
  (try (have i8 : (f0 == d8) = true := by simpa using h2))
  clear h2
  replace H := ox_ H
  rcases H with ⟨rfl, H⟩ | ⟨rfl, H⟩
  ·
   replace H := bd_ H
   obtain ⟨g9, k8, H⟩ := H
   replace H := bd_ H
   obtain ⟨h0, k9, H⟩ := H
   try dsimp only at H
   replace H := oe2 H
   rcases H with ⟨⟨-, i9, j0⟩, H⟩ | ⟨⟨o2, i9, j0⟩, H⟩
   ·
    replace H := bd_ H
    obtain ⟨g4, m2, H⟩ := H
    replace H := bd_ H
    obtain ⟨i3, m3, H⟩ := H
    try dsimp only at H
    replace H := ox_ H
    rcases H with ⟨rfl, H⟩ | ⟨rfl, H⟩
    ·
     replace H := bd_ H
     obtain ⟨h8, m9, H⟩ := H
     replace H := bd_ H
     obtain ⟨h9, n0, H⟩ := H
     try dsimp only at H
     obtain rfl := Option.some.inj H
     go_enter Try.func9, Try.ntmps9
     try go_wp2_with (first | ((with_reducible refine gate_callee (f := 35) rfl ?_); refine gl_ (some 12) Try.func35 #[.slice A0 l0.length c0] ?_; (with_reducible refine (spec_DrawApartOk.calls k _ _ l0 a4 a5 a7 a8 _ (y4 HR0.out) h3.out A3.out).mono ?_); rintro e w' ⟨g6, g7, rfl, ho0, ho1, hb⟩; refine ⟨_, rfl, ?_⟩; have a3 := ak (Kd.S_lower ho0 (below_size zd_1)); have a2 := ak (Kd.Q_lower ho1 (below_size zd_1)); replace HB := ak (below_step zd_1 hb); (try clear hb); (try clear hb2); (try clear hk); (try clear hi); (try clear ho0); (try clear ho1)) | ((with_reducible refine gate_dst (N := 3) rfl ?_); refine bx_ (N := 3) (cs := #[.slice none 0 0, .slice none 0 0]) (t := 26) ?_; intro a6 hg o3 hbox hb; replace a3 := ak (Kd.S_below (xS a3.out) hb); replace a2 := ak (Kd.Q_below (xQ a2.out) hb); have a1 := ak (hbox); have f2 := ak ((by rw [hg]; exact (below_size zd_1) : w.heap.size ≤ a6)); have f1 := ak ((by rw [hg]; exact (below_size zd_1) : w.heap.size ≤ a6)); replace HB := ak (below_step zd_1 hb); clear hb hbox hg; obtain ⟨d4, d0, l1⟩ := Kd.S_slice a3.out; subst l1; have b0 := cz20 a1.out; have b1 := cz21 a1.out; have b2 := blk_frozen a1.out 0; have b3 := blk_frozen a1.out 1; obtain ⟨d5, d1, l2, _⟩ := Kd.Q_slice a2.out; subst l2) | ((with_reducible refine gate_callee (f := 36) rfl ?_); refine gl_ (some 19) Try.func36 #[.agg #[.slice d4 a4.length d0, .slice d5 a5.length d1], .int .i64 a7, .int .i64 a8] ?_; (with_reducible refine (impl_ApartOk.calls _ _ a4 _ _ a5 a7 a8 true _ (by refine (Kd.S_reads' (e := 24) (base := w.heap.size) (ok := fun k_ => some k_ ≠ (.slice d5 a5.length d1 : Value).ownBlock) (n := a4.length) (c := d0) ?_).2.2; exact zd_11) (y2 a3.out) (by refine (Kd.Q_reads' (e := 3) (base := w.heap.size) (ok := fun k_ => True) (n := a5.length) (c := d1) ?_).2.2; exact zd_16) (y2 a2.out) A4.out).mono ?_); rintro e w' ⟨rfl, hb⟩; refine ⟨_, rfl, ?_⟩; replace a3 := ak (Kd.S_below zd_11 hb); replace a2 := ak (Kd.Q_below zd_16 hb); replace a1 := ak (blk_below (g := a6) (o := .cells #[.slice d4 a4.length d0, .slice d5 a5.length d1] 26 (0, 0)) (by (with_reducible repeat (first | refine blk_drewN ?_ _ | refine blk_drew ?_ | refine blk_alloc ?_ _)); refine blk_put (cs := #[.slice d4 a4.length d0, .slice none 0 0]) ?_ 1 _ rfl; (with_reducible repeat (first | refine blk_drewN ?_ _ | refine blk_drew ?_ | refine blk_alloc ?_ _)); refine blk_put (cs := #[.slice none 0 0, .slice none 0 0]) ?_ 0 _ rfl; (with_reducible repeat (first | refine blk_drewN ?_ _ | refine blk_drew ?_ | refine blk_alloc ?_ _)); exact a1.out) hb); replace HB := ak (below_step zd_0 hb); (try clear hb); (try clear hb2); (try clear hk); (try clear hi); have b0 := cz20 a1.out; have b1 := cz21 a1.out; have b2 := blk_frozen a1.out 0; have b3 := blk_frozen a1.out 1) | ((with_reducible refine gate_callee (f := 37) rfl ?_); refine gl_ (some 24) Try.func37 #[.agg #[.slice d4 a4.length d0, .slice d5 a5.length d1], .int .i64 a7, .int .i64 a8] ?_; (with_reducible refine (spec_ApartOk.calls k _ _ a4 _ _ a5 a7 a8 e5 _ (y1 a3.out) (y2 a3.out) (y1 a2.out) (y2 a2.out) A5.out).mono ?_); rintro e w' ⟨rfl, hb⟩; refine ⟨_, rfl, ?_⟩; replace a3 := ak (Kd.S_below (xS a3.out) hb); replace a2 := ak (Kd.Q_below (xQ a2.out) hb); replace a1 := ak (blk_below (g := a6) (o := .cells #[.slice d4 a4.length d0, .slice d5 a5.length d1] 26 (0, 0)) (xb a1.out) hb); replace HB := ak (below_step zd_0 hb); (try clear hb); (try clear hb2); (try clear hk); (try clear hi); have b0 := cz20 a1.out; have b1 := cz21 a1.out; have b2 := blk_frozen a1.out 0; have b3 := blk_frozen a1.out 1) | ((with_reducible refine gate_callee (f := 28) rfl ?_); refine gl_ (some 29) Try.func28 #[.agg #[.slice d4 a4.length d0, .slice d5 a5.length d1], .int .i64 a7, .int .i64 a8] ?_; (with_reducible refine (spec_AndOf.calls k _ _ a4 _ _ a5 a7 a8 f7 _ (y1 a3.out) (y2 a3.out) (y1 a2.out) (y2 a2.out) h5.out).mono ?_); rintro e n1 ⟨rfl, hb⟩; refine ⟨_, rfl, ?_⟩; replace a3 := ak (Kd.S_below (xS a3.out) hb); replace a2 := ak (Kd.Q_below (xQ a2.out) hb); replace a1 := ak (blk_below (g := a6) (o := .cells #[.slice d4 a4.length d0, .slice d5 a5.length d1] 26 (0, 0)) (xb a1.out) hb); replace HB := ak (below_step zd_0 hb); (try clear hb); (try clear hb2); (try clear hk); (try clear hi)))
     replace a3 := ak (Kd.S_drew a3.out)
     replace a2 := ak (Kd.Q_drew a2.out)
     replace a1 := ak (blk_drew a1.out)
     replace HB := ak (below_drew1 HB.out)
     refine start_ (n := 39) (S := fun w' => w'.cell? ⟨a6, 0, none⟩ = some (.slice d4 a4.length d0) ∧ w'.cell? ⟨a6, 1, none⟩ = some (.slice d5 a5.length d1)) (ds := []) (bA 39 0) zd_21 rfl rfl ⟨(blk_cell a1.out 0).trans rfl, (blk_cell a1.out 1).trans rfl⟩ (fun hHeld => ?_); refine with_tabW laws_FnApartOk.tab9 laws_FnApartOk.bits9 (fun HT_ HW_ => ?_)
     generalize n1.drew = o4 at a3 a2 a1 HB hHeld ⊢
     refine pu_ (i := 1) (N := some 37) (bA 39 2) ?_
     refine pu_ (i := 2) (N := some 38) (bA 39 6) ?_
     refine pu_ (i := 4) (N := some 40) (bA 39 22) ?_
     refine tk_ (i := 0) (N := some 36) (bA 39 23) ?_
     refine one_ (i := 3) (N := some 39) (bA 39 31) rfl rfl (one_of HT_.out zd_21) (by decide) (fun K hK => ?_)
     refine ge_ Try.func36 #[.agg #[.slice d4 a4.length d0, .slice d5 a5.length d1], .int .i64 a8, .int .i64 a7] ?_
     with_reducible refine (impl_ApartOk.calls _ _ a4 _ _ a5 a8 a7 f0 _ ?side1 ?side2 ?side3 ?side4 i2.out).mono ?_
     (case side1 => repeat (first | exact (Kd.S_reads' a3.out).2.2 | (with_reducible refine Kd.C_alloc ?_ _) | (with_reducible refine Kd.C_drewN ?_ _) | (with_reducible refine Kd.C_drew ?_)))
     (case side2 => exact (Kd.S_reads' a3.out).2.1)
     (case side3 => repeat (first | exact (Kd.Q_reads' a2.out).2.2 | (with_reducible refine Kd.C_alloc ?_ _) | (with_reducible refine Kd.C_drewN ?_ _) | (with_reducible refine Kd.C_drew ?_)))
     (case side4 => exact (Kd.Q_reads' a2.out).2.1)
     rintro e w' ⟨rfl, hb⟩
     refine ⟨_, rfl, ?_⟩
     replace a3 := ak (Kd.S_below (xS a3.out) hb)
     replace a2 := ak (Kd.Q_below (xQ a2.out) hb)
     replace a1 := ak (blk_below (g := a6) (o := .cells #[.slice d4 a4.length d0, .slice d5 a5.length d1] 26 (0, 0)) (xb a1.out) hb)
     replace HB := ak (below_step zd_0 hb)
     (try clear hb)
     (try clear hb2)
     (try clear hk)
     (try clear hi)
     refine hK.out _ _ ⟨(blk_cell a1.out 0).trans rfl, (blk_cell a1.out 1).trans rfl⟩ (fun hHeld => ?_)
     clear hK K
     refine no_ (N := some 39) ?_
     refine pu_ (i := 5) (N := some 41) (bA 39 63) ?_
     refine pu_ (i := 6) (N := some 42) (bA 39 127) ?_
     refine pu_ (i := 7) (N := some 43) (bA 39 255) ?_
     refine pu_ (i := 8) (N := some 44) (bA 39 511) ?_
     refine pu_ (i := 9) (N := some 45) (bA 39 1023) ?_
     refine pu_ (i := 11) (N := some 47) (bA 39 3071) ?_
     refine pu_ (i := 12) (N := some 48) (bA 39 7167) ?_
     refine tk_ (i := 10) (N := some 46) (bA 39 8191) ?_
     refine tk_ (i := 14) (N := some 50) (bA 39 24575) ?_
     refine one_ (i := 13) (N := some 49) (bA 39 32767) rfl rfl (one_of HT_.out zd_21) (by decide) (fun K hK => ?_)
     refine ge_ Try.func27 #[.agg #[.slice d4 a4.length d0, .slice d5 a5.length d1], .int .i64 a7, .int .i64 a8] ?_
     with_reducible refine (impl_AndOf.calls _ _ a4 _ _ a5 a7 a8 g9 _ ?side1 ?side2 ?side3 ?side4 k8.out).mono ?_
     (case side1 => repeat (first | exact (Kd.S_reads' a3.out).2.2 | (with_reducible refine Kd.C_alloc ?_ _) | (with_reducible refine Kd.C_drewN ?_ _) | (with_reducible refine Kd.C_drew ?_)))
     (case side2 => exact (Kd.S_reads' a3.out).2.1)
     (case side3 => repeat (first | exact (Kd.Q_reads' a2.out).2.2 | (with_reducible refine Kd.C_alloc ?_ _) | (with_reducible refine Kd.C_drewN ?_ _) | (with_reducible refine Kd.C_drew ?_)))
     (case side4 => exact (Kd.Q_reads' a2.out).2.1)
     rintro e w' ⟨rfl, hb⟩
     refine ⟨_, rfl, ?_⟩
     replace a3 := ak (Kd.S_below (xS a3.out) hb)
     replace a2 := ak (Kd.Q_below (xQ a2.out) hb)
     replace a1 := ak (blk_below (g := a6) (o := .cells #[.slice d4 a4.length d0, .slice d5 a5.length d1] 26 (0, 0)) (xb a1.out) hb)
     replace HB := ak (below_step zd_0 hb)
     (try clear hb)
     (try clear hb2)
     (try clear hk)
     (try clear hi)
     refine hK.out _ _ ⟨(blk_cell a1.out 0).trans rfl, (blk_cell a1.out 1).trans rfl⟩ (fun hHeld => ?_)
     clear hK K
     refine no_ (N := some 49) ?_
     refine one_ (i := 15) (N := some 51) (bA 39 65535) rfl rfl (one_of HT_.out zd_21) (by decide) (fun K hK => ?_)
     refine ge_ Try.func19 #[.agg #[.slice d4 a4.length d0, .slice d5 a5.length d1]] ?_
     with_reducible refine (impl_NoOf.calls _ _ a4 _ _ a5 h0 _ ?side1 ?side2 ?side3 ?side4 k9.out).mono ?_
     (case side1 => repeat (first | exact (Kd.S_reads' a3.out).2.2 | (with_reducible refine Kd.C_alloc ?_ _) | (with_reducible refine Kd.C_drewN ?_ _) | (with_reducible refine Kd.C_drew ?_)))
     (case side2 => exact (Kd.S_reads' a3.out).2.1)
     (case side3 => repeat (first | exact (Kd.Q_reads' a2.out).2.2 | (with_reducible refine Kd.C_alloc ?_ _) | (with_reducible refine Kd.C_drewN ?_ _) | (with_reducible refine Kd.C_drew ?_)))
     (case side4 => exact (Kd.Q_reads' a2.out).2.1)
     rintro e w' ⟨rfl, hb⟩
     refine ⟨_, rfl, ?_⟩
     replace a3 := ak (Kd.S_below (xS a3.out) hb)
     replace a2 := ak (Kd.Q_below (xQ a2.out) hb)
     replace a1 := ak (blk_below (g := a6) (o := .cells #[.slice d4 a4.length d0, .slice d5 a5.length d1] 26 (0, 0)) (xb a1.out) hb)
     replace HB := ak (below_step zd_0 hb)
     (try clear hb)
     (try clear hb2)
     (try clear hk)
     (try clear hi)
     refine hK.out _ _ ⟨(blk_cell a1.out 0).trans rfl, (blk_cell a1.out 1).trans rfl⟩ (fun hHeld => ?_)
     clear hK K
     refine no_ (N := some 51) ?_
     refine pu_ (i := 16) (N := some 52) (bA 39 131071) ?_
     refine pu_ (i := 17) (N := some 53) (bA 39 262143) ?_
     refine pu_ (i := 18) (N := some 54) (bA 39 524287) ?_
     refine pu_ (i := 19) (N := some 55) (bA 39 1048575) ?_
     refine pu_ (i := 21) (N := some 57) (bA 39 3145727) ?_
     refine pu_ (i := 23) (N := some 59) (bA 39 11534335) ?_
     refine tk_ (i := 20) (N := some 56) (bA 39 12582911) ?_
     refine tk_ (i := 22) (N := some 58) (bA 39 16777215) ?_
     refine one_ (i := 24) (N := some 60) (bA 39 33554431) rfl rfl (one_of HT_.out zd_21) (by decide) (fun K hK => ?_)
     refine ge_ Try.func29 #[.agg #[.slice d4 a4.length d0, .slice d5 a5.length d1], .int .i64 a7] ?_
     with_reducible refine (impl_NotOf.calls _ _ a4 _ _ a5 a7 g4 _ ?side1 ?side2 ?side3 ?side4 m2.out).mono ?_
     (case side1 => repeat (first | exact (Kd.S_reads' a3.out).2.2 | (with_reducible refine Kd.C_alloc ?_ _) | (with_reducible refine Kd.C_drewN ?_ _) | (with_reducible refine Kd.C_drew ?_)))
     (case side2 => exact (Kd.S_reads' a3.out).2.1)
     (case side3 => repeat (first | exact (Kd.Q_reads' a2.out).2.2 | (with_reducible refine Kd.C_alloc ?_ _) | (with_reducible refine Kd.C_drewN ?_ _) | (with_reducible refine Kd.C_drew ?_)))
     (case side4 => exact (Kd.Q_reads' a2.out).2.1)
     rintro e w' ⟨rfl, hb⟩
     refine ⟨_, rfl, ?_⟩
     replace a3 := ak (Kd.S_below (xS a3.out) hb)
     replace a2 := ak (Kd.Q_below (xQ a2.out) hb)
     replace a1 := ak (blk_below (g := a6) (o := .cells #[.slice d4 a4.length d0, .slice d5 a5.length d1] 26 (0, 0)) (xb a1.out) hb)
     replace HB := ak (below_step zd_0 hb)
     (try clear hb)
     (try clear hb2)
     (try clear hk)
     (try clear hi)
     refine hK.out _ _ ⟨(blk_cell a1.out 0).trans rfl, (blk_cell a1.out 1).trans rfl⟩ (fun hHeld => ?_)
     clear hK K
     refine no_ (N := some 60) ?_
     refine one_ (i := 25) (N := some 61) (bA 39 67108863) rfl rfl (one_of HT_.out zd_21) (by decide) (fun K hK => ?_)
     refine ge_ Try.func36 #[.agg #[.slice d4 a4.length d0, .slice d5 a5.length d1], .int .i64 a7, .int .i64 g4] ?_
     with_reducible refine (impl_ApartOk.calls _ _ a4 _ _ a5 a7 g4 true _ ?side1 ?side2 ?side3 ?side4 m3.out).mono ?_
     (case side1 => repeat (first | exact (Kd.S_reads' a3.out).2.2 | (with_reducible refine Kd.C_alloc ?_ _) | (with_reducible refine Kd.C_drewN ?_ _) | (with_reducible refine Kd.C_drew ?_)))
     (case side2 => exact (Kd.S_reads' a3.out).2.1)
     (case side3 => repeat (first | exact (Kd.Q_reads' a2.out).2.2 | (with_reducible refine Kd.C_alloc ?_ _) | (with_reducible refine Kd.C_drewN ?_ _) | (with_reducible refine Kd.C_drew ?_)))
     (case side4 => exact (Kd.Q_reads' a2.out).2.1)
     rintro e w' ⟨rfl, hb⟩
     refine ⟨_, rfl, ?_⟩
     replace a3 := ak (Kd.S_below (xS a3.out) hb)
     replace a2 := ak (Kd.Q_below (xQ a2.out) hb)
     replace a1 := ak (blk_below (g := a6) (o := .cells #[.slice d4 a4.length d0, .slice d5 a5.length d1] 26 (0, 0)) (xb a1.out) hb)
     replace HB := ak (below_step zd_0 hb)
     (try clear hb)
     (try clear hb2)
     (try clear hk)
     (try clear hi)
     refine hK.out _ _ ⟨(blk_cell a1.out 0).trans rfl, (blk_cell a1.out 1).trans rfl⟩ (fun hHeld => ?_)
     clear hK K
     refine no_ (N := some 61) ?_
     refine pu_ (i := 26) (N := some 62) (bA 39 134217727) ?_
     refine pu_ (i := 27) (N := some 63) (bA 39 268435455) ?_
     refine pu_ (i := 29) (N := some 65) (bA 39 805306367) ?_
     refine pu_ (i := 30) (N := some 66) (bA 39 1879048191) ?_
     refine pu_ (i := 32) (N := some 68) (bA 39 6174015487) ?_
     refine tk_ (i := 28) (N := some 64) (bA 39 6442450943) ?_
     refine tk_ (i := 33) (N := some 69) (bA 39 15032385535) ?_
     refine one_ (i := 31) (N := some 67) (bA 39 17179869183) rfl rfl (one_of HT_.out zd_21) (by decide) (fun K hK => ?_)
     refine ge_ Try.func36 #[.agg #[.slice d4 a4.length d0, .slice d5 a5.length d1], .int .i64 a7, .int .i64 a7] ?_
     with_reducible refine (impl_ApartOk.calls _ _ a4 _ _ a5 a7 a7 h8 _ ?side1 ?side2 ?side3 ?side4 m9.out).mono ?_
     (case side1 => repeat (first | exact (Kd.S_reads' a3.out).2.2 | (with_reducible refine Kd.C_alloc ?_ _) | (with_reducible refine Kd.C_drewN ?_ _) | (with_reducible refine Kd.C_drew ?_)))
     (case side2 => exact (Kd.S_reads' a3.out).2.1)
     (case side3 => repeat (first | exact (Kd.Q_reads' a2.out).2.2 | (with_reducible refine Kd.C_alloc ?_ _) | (with_reducible refine Kd.C_drewN ?_ _) | (with_reducible refine Kd.C_drew ?_)))
     (case side4 => exact (Kd.Q_reads' a2.out).2.1)
     rintro e w' ⟨rfl, hb⟩
     refine ⟨_, rfl, ?_⟩
     replace a3 := ak (Kd.S_below (xS a3.out) hb)
     replace a2 := ak (Kd.Q_below (xQ a2.out) hb)
     replace a1 := ak (blk_below (g := a6) (o := .cells #[.slice d4 a4.length d0, .slice d5 a5.length d1] 26 (0, 0)) (xb a1.out) hb)
     replace HB := ak (below_step zd_0 hb)
     (try clear hb)
     (try clear hb2)
     (try clear hk)
     (try clear hi)
     refine hK.out _ _ ⟨(blk_cell a1.out 0).trans rfl, (blk_cell a1.out 1).trans rfl⟩ (fun hHeld => ?_)
     clear hK K
     refine no_ (N := some 67) ?_
     refine one_ (i := 34) (N := some 70) (bA 39 34359738367) rfl rfl (one_of HT_.out zd_21) (by decide) (fun K hK => ?_)
     refine ge_ Try.func19 #[.agg #[.slice d4 a4.length d0, .slice d5 a5.length d1]] ?_
     with_reducible refine (impl_NoOf.calls _ _ a4 _ _ a5 h9 _ ?side1 ?side2 ?side3 ?side4 n0.out).mono ?_
     (case side1 => repeat (first | exact (Kd.S_reads' a3.out).2.2 | (with_reducible refine Kd.C_alloc ?_ _) | (with_reducible refine Kd.C_drewN ?_ _) | (with_reducible refine Kd.C_drew ?_)))
     (case side2 => exact (Kd.S_reads' a3.out).2.1)
     (case side3 => repeat (first | exact (Kd.Q_reads' a2.out).2.2 | (with_reducible refine Kd.C_alloc ?_ _) | (with_reducible refine Kd.C_drewN ?_ _) | (with_reducible refine Kd.C_drew ?_)))
     (case side4 => exact (Kd.Q_reads' a2.out).2.1)
     rintro e w' ⟨rfl, hb⟩
     refine ⟨_, rfl, ?_⟩
     replace a3 := ak (Kd.S_below (xS a3.out) hb)
     replace a2 := ak (Kd.Q_below (xQ a2.out) hb)
     replace a1 := ak (blk_below (g := a6) (o := .cells #[.slice d4 a4.length d0, .slice d5 a5.length d1] 26 (0, 0)) (xb a1.out) hb)
     replace HB := ak (below_step zd_0 hb)
     (try clear hb)
     (try clear hb2)
     (try clear hk)
     (try clear hi)
     refine hK.out _ _ ⟨(blk_cell a1.out 0).trans rfl, (blk_cell a1.out 1).trans rfl⟩ (fun hHeld => ?_)
     clear hK K
     refine no_ (N := some 70) ?_
     refine pu_ (i := 35) (N := some 71) (bA 39 68719476735) ?_
     refine pu_ (i := 36) (N := some 72) (bA 39 137438953471) ?_
     refine pu_ (i := 37) (N := some 73) (bA 39 274877906943) ?_
     refine pu_ (i := 38) (N := some 2) (bA 39 549755813887) ?_
     refine done_ (done_of HT_.out zd_21) ?_
     try go_wp2
     go_ret
     exact ⟨zd_2, zd_0⟩
    obtain rfl := Option.some.inj H
    go_enter Try.func9, Try.ntmps9
    try go_wp2_with (first | ((with_reducible refine gate_callee (f := 35) rfl ?_); refine gl_ (some 12) Try.func35 #[.slice A0 l0.length c0] ?_; (with_reducible refine (spec_DrawApartOk.calls k _ _ l0 a4 a5 a7 a8 _ (y4 HR0.out) h3.out A3.out).mono ?_); rintro e w' ⟨g6, g7, rfl, ho0, ho1, hb⟩; refine ⟨_, rfl, ?_⟩; have a3 := ak (Kd.S_lower ho0 (below_size zd_1)); have a2 := ak (Kd.Q_lower ho1 (below_size zd_1)); replace HB := ak (below_step zd_1 hb); (try clear hb); (try clear hb2); (try clear hk); (try clear hi); (try clear ho0); (try clear ho1)) | ((with_reducible refine gate_dst (N := 3) rfl ?_); refine bx_ (N := 3) (cs := #[.slice none 0 0, .slice none 0 0]) (t := 26) ?_; intro a6 hg o5 hbox hb; replace a3 := ak (Kd.S_below (xS a3.out) hb); replace a2 := ak (Kd.Q_below (xQ a2.out) hb); have a1 := ak (hbox); have f2 := ak ((by rw [hg]; exact (below_size zd_1) : w.heap.size ≤ a6)); have f1 := ak ((by rw [hg]; exact (below_size zd_1) : w.heap.size ≤ a6)); replace HB := ak (below_step zd_1 hb); clear hb hbox hg; obtain ⟨d9, d6, l3⟩ := Kd.S_slice a3.out; subst l3; have b0 := cz20 a1.out; have b1 := cz21 a1.out; have b2 := blk_frozen a1.out 0; have b3 := blk_frozen a1.out 1; obtain ⟨e0, d7, l4, _⟩ := Kd.Q_slice a2.out; subst l4) | ((with_reducible refine gate_callee (f := 36) rfl ?_); refine gl_ (some 19) Try.func36 #[.agg #[.slice d9 a4.length d6, .slice e0 a5.length d7], .int .i64 a7, .int .i64 a8] ?_; (with_reducible refine (impl_ApartOk.calls _ _ a4 _ _ a5 a7 a8 true _ (by refine (Kd.S_reads' (e := 24) (base := w.heap.size) (ok := fun k_ => some k_ ≠ (.slice e0 a5.length d7 : Value).ownBlock) (n := a4.length) (c := d6) ?_).2.2; exact zd_10) (y2 a3.out) (by refine (Kd.Q_reads' (e := 3) (base := w.heap.size) (ok := fun k_ => True) (n := a5.length) (c := d7) ?_).2.2; exact zd_15) (y2 a2.out) A4.out).mono ?_); rintro e w' ⟨rfl, hb⟩; refine ⟨_, rfl, ?_⟩; replace a3 := ak (Kd.S_below zd_10 hb); replace a2 := ak (Kd.Q_below zd_15 hb); replace a1 := ak (blk_below (g := a6) (o := .cells #[.slice d9 a4.length d6, .slice e0 a5.length d7] 26 (0, 0)) (by (with_reducible repeat (first | refine blk_drewN ?_ _ | refine blk_drew ?_ | refine blk_alloc ?_ _)); refine blk_put (cs := #[.slice d9 a4.length d6, .slice none 0 0]) ?_ 1 _ rfl; (with_reducible repeat (first | refine blk_drewN ?_ _ | refine blk_drew ?_ | refine blk_alloc ?_ _)); refine blk_put (cs := #[.slice none 0 0, .slice none 0 0]) ?_ 0 _ rfl; (with_reducible repeat (first | refine blk_drewN ?_ _ | refine blk_drew ?_ | refine blk_alloc ?_ _)); exact a1.out) hb); replace HB := ak (below_step zd_0 hb); (try clear hb); (try clear hb2); (try clear hk); (try clear hi); have b0 := cz20 a1.out; have b1 := cz21 a1.out; have b2 := blk_frozen a1.out 0; have b3 := blk_frozen a1.out 1) | ((with_reducible refine gate_callee (f := 37) rfl ?_); refine gl_ (some 24) Try.func37 #[.agg #[.slice d9 a4.length d6, .slice e0 a5.length d7], .int .i64 a7, .int .i64 a8] ?_; (with_reducible refine (spec_ApartOk.calls k _ _ a4 _ _ a5 a7 a8 e5 _ (y1 a3.out) (y2 a3.out) (y1 a2.out) (y2 a2.out) A5.out).mono ?_); rintro e w' ⟨rfl, hb⟩; refine ⟨_, rfl, ?_⟩; replace a3 := ak (Kd.S_below (xS a3.out) hb); replace a2 := ak (Kd.Q_below (xQ a2.out) hb); replace a1 := ak (blk_below (g := a6) (o := .cells #[.slice d9 a4.length d6, .slice e0 a5.length d7] 26 (0, 0)) (xb a1.out) hb); replace HB := ak (below_step zd_0 hb); (try clear hb); (try clear hb2); (try clear hk); (try clear hi); have b0 := cz20 a1.out; have b1 := cz21 a1.out; have b2 := blk_frozen a1.out 0; have b3 := blk_frozen a1.out 1) | ((with_reducible refine gate_callee (f := 28) rfl ?_); refine gl_ (some 29) Try.func28 #[.agg #[.slice d9 a4.length d6, .slice e0 a5.length d7], .int .i64 a7, .int .i64 a8] ?_; (with_reducible refine (spec_AndOf.calls k _ _ a4 _ _ a5 a7 a8 f7 _ (y1 a3.out) (y2 a3.out) (y1 a2.out) (y2 a2.out) h5.out).mono ?_); rintro e n2 ⟨rfl, hb⟩; refine ⟨_, rfl, ?_⟩; replace a3 := ak (Kd.S_below (xS a3.out) hb); replace a2 := ak (Kd.Q_below (xQ a2.out) hb); replace a1 := ak (blk_below (g := a6) (o := .cells #[.slice d9 a4.length d6, .slice e0 a5.length d7] 26 (0, 0)) (xb a1.out) hb); replace HB := ak (below_step zd_0 hb); (try clear hb); (try clear hb2); (try clear hk); (try clear hi)))
    replace a3 := ak (Kd.S_drew a3.out)
    replace a2 := ak (Kd.Q_drew a2.out)
    replace a1 := ak (blk_drew a1.out)
    replace HB := ak (below_drew1 HB.out)
    refine start_ (n := 39) (S := fun w' => w'.cell? ⟨a6, 0, none⟩ = some (.slice d9 a4.length d6) ∧ w'.cell? ⟨a6, 1, none⟩ = some (.slice e0 a5.length d7)) (ds := []) (bA 39 0) zd_21 rfl rfl ⟨(blk_cell a1.out 0).trans rfl, (blk_cell a1.out 1).trans rfl⟩ (fun hHeld => ?_); refine with_tabW laws_FnApartOk.tab9 laws_FnApartOk.bits9 (fun HT_ HW_ => ?_)
    generalize n2.drew = o6 at a3 a2 a1 HB hHeld ⊢
    refine pu_ (i := 1) (N := some 37) (bA 39 2) ?_
    refine pu_ (i := 2) (N := some 38) (bA 39 6) ?_
    refine pu_ (i := 4) (N := some 40) (bA 39 22) ?_
    refine tk_ (i := 0) (N := some 36) (bA 39 23) ?_
    refine one_ (i := 3) (N := some 39) (bA 39 31) rfl rfl (one_of HT_.out zd_21) (by decide) (fun K hK => ?_)
    refine ge_ Try.func36 #[.agg #[.slice d9 a4.length d6, .slice e0 a5.length d7], .int .i64 a8, .int .i64 a7] ?_
    with_reducible refine (impl_ApartOk.calls _ _ a4 _ _ a5 a8 a7 f0 _ ?side1 ?side2 ?side3 ?side4 i2.out).mono ?_
    (case side1 => repeat (first | exact (Kd.S_reads' a3.out).2.2 | (with_reducible refine Kd.C_alloc ?_ _) | (with_reducible refine Kd.C_drewN ?_ _) | (with_reducible refine Kd.C_drew ?_)))
    (case side2 => exact (Kd.S_reads' a3.out).2.1)
    (case side3 => repeat (first | exact (Kd.Q_reads' a2.out).2.2 | (with_reducible refine Kd.C_alloc ?_ _) | (with_reducible refine Kd.C_drewN ?_ _) | (with_reducible refine Kd.C_drew ?_)))
    (case side4 => exact (Kd.Q_reads' a2.out).2.1)
    rintro e w' ⟨rfl, hb⟩
    refine ⟨_, rfl, ?_⟩
    replace a3 := ak (Kd.S_below (xS a3.out) hb)
    replace a2 := ak (Kd.Q_below (xQ a2.out) hb)
    replace a1 := ak (blk_below (g := a6) (o := .cells #[.slice d9 a4.length d6, .slice e0 a5.length d7] 26 (0, 0)) (xb a1.out) hb)
    replace HB := ak (below_step zd_0 hb)
    (try clear hb)
    (try clear hb2)
    (try clear hk)
    (try clear hi)
    refine hK.out _ _ ⟨(blk_cell a1.out 0).trans rfl, (blk_cell a1.out 1).trans rfl⟩ (fun hHeld => ?_)
    clear hK K
    refine no_ (N := some 39) ?_
    refine pu_ (i := 5) (N := some 41) (bA 39 63) ?_
    refine pu_ (i := 6) (N := some 42) (bA 39 127) ?_
    refine pu_ (i := 7) (N := some 43) (bA 39 255) ?_
    refine pu_ (i := 8) (N := some 44) (bA 39 511) ?_
    refine pu_ (i := 9) (N := some 45) (bA 39 1023) ?_
    refine pu_ (i := 11) (N := some 47) (bA 39 3071) ?_
    refine pu_ (i := 12) (N := some 48) (bA 39 7167) ?_
    refine tk_ (i := 10) (N := some 46) (bA 39 8191) ?_
    refine tk_ (i := 14) (N := some 50) (bA 39 24575) ?_
    refine one_ (i := 13) (N := some 49) (bA 39 32767) rfl rfl (one_of HT_.out zd_21) (by decide) (fun K hK => ?_)
    refine ge_ Try.func27 #[.agg #[.slice d9 a4.length d6, .slice e0 a5.length d7], .int .i64 a7, .int .i64 a8] ?_
    with_reducible refine (impl_AndOf.calls _ _ a4 _ _ a5 a7 a8 g9 _ ?side1 ?side2 ?side3 ?side4 k8.out).mono ?_
    (case side1 => repeat (first | exact (Kd.S_reads' a3.out).2.2 | (with_reducible refine Kd.C_alloc ?_ _) | (with_reducible refine Kd.C_drewN ?_ _) | (with_reducible refine Kd.C_drew ?_)))
    (case side2 => exact (Kd.S_reads' a3.out).2.1)
    (case side3 => repeat (first | exact (Kd.Q_reads' a2.out).2.2 | (with_reducible refine Kd.C_alloc ?_ _) | (with_reducible refine Kd.C_drewN ?_ _) | (with_reducible refine Kd.C_drew ?_)))
    (case side4 => exact (Kd.Q_reads' a2.out).2.1)
    rintro e w' ⟨rfl, hb⟩
    refine ⟨_, rfl, ?_⟩
    replace a3 := ak (Kd.S_below (xS a3.out) hb)
    replace a2 := ak (Kd.Q_below (xQ a2.out) hb)
    replace a1 := ak (blk_below (g := a6) (o := .cells #[.slice d9 a4.length d6, .slice e0 a5.length d7] 26 (0, 0)) (xb a1.out) hb)
    replace HB := ak (below_step zd_0 hb)
    (try clear hb)
    (try clear hb2)
    (try clear hk)
    (try clear hi)
    refine hK.out _ _ ⟨(blk_cell a1.out 0).trans rfl, (blk_cell a1.out 1).trans rfl⟩ (fun hHeld => ?_)
    clear hK K
    refine no_ (N := some 49) ?_
    refine one_ (i := 15) (N := some 51) (bA 39 65535) rfl rfl (one_of HT_.out zd_21) (by decide) (fun K hK => ?_)
    refine ge_ Try.func19 #[.agg #[.slice d9 a4.length d6, .slice e0 a5.length d7]] ?_
    with_reducible refine (impl_NoOf.calls _ _ a4 _ _ a5 h0 _ ?side1 ?side2 ?side3 ?side4 k9.out).mono ?_
    (case side1 => repeat (first | exact (Kd.S_reads' a3.out).2.2 | (with_reducible refine Kd.C_alloc ?_ _) | (with_reducible refine Kd.C_drewN ?_ _) | (with_reducible refine Kd.C_drew ?_)))
    (case side2 => exact (Kd.S_reads' a3.out).2.1)
    (case side3 => repeat (first | exact (Kd.Q_reads' a2.out).2.2 | (with_reducible refine Kd.C_alloc ?_ _) | (with_reducible refine Kd.C_drewN ?_ _) | (with_reducible refine Kd.C_drew ?_)))
    (case side4 => exact (Kd.Q_reads' a2.out).2.1)
    rintro e w' ⟨rfl, hb⟩
    refine ⟨_, rfl, ?_⟩
    replace a3 := ak (Kd.S_below (xS a3.out) hb)
    replace a2 := ak (Kd.Q_below (xQ a2.out) hb)
    replace a1 := ak (blk_below (g := a6) (o := .cells #[.slice d9 a4.length d6, .slice e0 a5.length d7] 26 (0, 0)) (xb a1.out) hb)
    replace HB := ak (below_step zd_0 hb)
    (try clear hb)
    (try clear hb2)
    (try clear hk)
    (try clear hi)
    refine hK.out _ _ ⟨(blk_cell a1.out 0).trans rfl, (blk_cell a1.out 1).trans rfl⟩ (fun hHeld => ?_)
    clear hK K
    refine no_ (N := some 51) ?_
    refine pu_ (i := 16) (N := some 52) (bA 39 131071) ?_
    refine pu_ (i := 17) (N := some 53) (bA 39 262143) ?_
    refine pu_ (i := 18) (N := some 54) (bA 39 524287) ?_
    refine pu_ (i := 19) (N := some 55) (bA 39 1048575) ?_
    refine pu_ (i := 21) (N := some 57) (bA 39 3145727) ?_
    refine pu_ (i := 23) (N := some 59) (bA 39 11534335) ?_
    refine tk_ (i := 20) (N := some 56) (bA 39 12582911) ?_
    refine tk_ (i := 22) (N := some 58) (bA 39 16777215) ?_
    refine one_ (i := 24) (N := some 60) (bA 39 33554431) rfl rfl (one_of HT_.out zd_21) (by decide) (fun K hK => ?_)
    refine ge_ Try.func29 #[.agg #[.slice d9 a4.length d6, .slice e0 a5.length d7], .int .i64 a7] ?_
    with_reducible refine (impl_NotOf.calls _ _ a4 _ _ a5 a7 g4 _ ?side1 ?side2 ?side3 ?side4 m2.out).mono ?_
    (case side1 => repeat (first | exact (Kd.S_reads' a3.out).2.2 | (with_reducible refine Kd.C_alloc ?_ _) | (with_reducible refine Kd.C_drewN ?_ _) | (with_reducible refine Kd.C_drew ?_)))
    (case side2 => exact (Kd.S_reads' a3.out).2.1)
    (case side3 => repeat (first | exact (Kd.Q_reads' a2.out).2.2 | (with_reducible refine Kd.C_alloc ?_ _) | (with_reducible refine Kd.C_drewN ?_ _) | (with_reducible refine Kd.C_drew ?_)))
    (case side4 => exact (Kd.Q_reads' a2.out).2.1)
    rintro e w' ⟨rfl, hb⟩
    refine ⟨_, rfl, ?_⟩
    replace a3 := ak (Kd.S_below (xS a3.out) hb)
    replace a2 := ak (Kd.Q_below (xQ a2.out) hb)
    replace a1 := ak (blk_below (g := a6) (o := .cells #[.slice d9 a4.length d6, .slice e0 a5.length d7] 26 (0, 0)) (xb a1.out) hb)
    replace HB := ak (below_step zd_0 hb)
    (try clear hb)
    (try clear hb2)
    (try clear hk)
    (try clear hi)
    refine hK.out _ _ ⟨(blk_cell a1.out 0).trans rfl, (blk_cell a1.out 1).trans rfl⟩ (fun hHeld => ?_)
    clear hK K
    refine no_ (N := some 60) ?_
    refine one_ (i := 25) (N := some 61) (bA 39 67108863) rfl rfl (one_of HT_.out zd_21) (by decide) (fun K hK => ?_)
    refine ge_ Try.func36 #[.agg #[.slice d9 a4.length d6, .slice e0 a5.length d7], .int .i64 a7, .int .i64 g4] ?_
    with_reducible refine (impl_ApartOk.calls _ _ a4 _ _ a5 a7 g4 false _ ?side1 ?side2 ?side3 ?side4 m3.out).mono ?_
    (case side1 => repeat (first | exact (Kd.S_reads' a3.out).2.2 | (with_reducible refine Kd.C_alloc ?_ _) | (with_reducible refine Kd.C_drewN ?_ _) | (with_reducible refine Kd.C_drew ?_)))
    (case side2 => exact (Kd.S_reads' a3.out).2.1)
    (case side3 => repeat (first | exact (Kd.Q_reads' a2.out).2.2 | (with_reducible refine Kd.C_alloc ?_ _) | (with_reducible refine Kd.C_drewN ?_ _) | (with_reducible refine Kd.C_drew ?_)))
    (case side4 => exact (Kd.Q_reads' a2.out).2.1)
    rintro e w' ⟨rfl, hb⟩
    refine ⟨_, rfl, ?_⟩
    replace a3 := ak (Kd.S_below (xS a3.out) hb)
    replace a2 := ak (Kd.Q_below (xQ a2.out) hb)
    replace a1 := ak (blk_below (g := a6) (o := .cells #[.slice d9 a4.length d6, .slice e0 a5.length d7] 26 (0, 0)) (xb a1.out) hb)
    replace HB := ak (below_step zd_0 hb)
    (try clear hb)
    (try clear hb2)
    (try clear hk)
    (try clear hi)
    refine hK.out _ _ ⟨(blk_cell a1.out 0).trans rfl, (blk_cell a1.out 1).trans rfl⟩ (fun hHeld => ?_)
    clear hK K
    refine no_ (N := some 61) ?_
    refine pu_ (i := 26) (N := some 62) (bA 39 134217727) ?_
    refine pu_ (i := 27) (N := some 63) (bA 39 268435455) ?_
    refine of_ (i := 28) (N := some 64) (bA 39 536870911) ?_
    refine of_ (i := 29) (N := some 65) (bA 39 1073741823) ?_
    refine of_ (i := 30) (N := some 66) (bA 39 2147483647) ?_
    refine of_ (i := 31) (N := some 67) (bA 39 4294967295) ?_
    refine of_ (i := 32) (N := some 68) (bA 39 8589934591) ?_
    refine of_ (i := 33) (N := some 69) (bA 39 17179869183) ?_
    refine of_ (i := 34) (N := some 70) (bA 39 34359738367) ?_
    refine of_ (i := 35) (N := some 71) (bA 39 68719476735) ?_
    refine of_ (i := 36) (N := some 72) (bA 39 137438953471) ?_
    refine pu_ (i := 37) (N := some 73) (bA 39 274877906943) ?_
    refine pu_ (i := 38) (N := some 2) (bA 39 549755813887) ?_
    refine done_ (done_of HT_.out zd_21) ?_
    try go_wp2
    go_ret
    exact ⟨zd_2, zd_0⟩
   obtain rfl := Option.some.inj H
   go_enter Try.func9, Try.ntmps9
   try go_wp2_with (first | ((with_reducible refine gate_callee (f := 35) rfl ?_); refine gl_ (some 12) Try.func35 #[.slice A0 l0.length c0] ?_; (with_reducible refine (spec_DrawApartOk.calls k _ _ l0 a4 a5 a7 a8 _ (y4 HR0.out) h3.out A3.out).mono ?_); rintro e w' ⟨g6, g7, rfl, ho0, ho1, hb⟩; refine ⟨_, rfl, ?_⟩; have a3 := ak (Kd.S_lower ho0 (below_size zd_1)); have a2 := ak (Kd.Q_lower ho1 (below_size zd_1)); replace HB := ak (below_step zd_1 hb); (try clear hb); (try clear hb2); (try clear hk); (try clear hi); (try clear ho0); (try clear ho1)) | ((with_reducible refine gate_dst (N := 3) rfl ?_); refine bx_ (N := 3) (cs := #[.slice none 0 0, .slice none 0 0]) (t := 26) ?_; intro a6 hg o7 hbox hb; replace a3 := ak (Kd.S_below (xS a3.out) hb); replace a2 := ak (Kd.Q_below (xQ a2.out) hb); have a1 := ak (hbox); have f2 := ak ((by rw [hg]; exact (below_size zd_1) : w.heap.size ≤ a6)); have f1 := ak ((by rw [hg]; exact (below_size zd_1) : w.heap.size ≤ a6)); replace HB := ak (below_step zd_1 hb); clear hb hbox hg; obtain ⟨e8, e6, l5⟩ := Kd.S_slice a3.out; subst l5; have b0 := cz20 a1.out; have b1 := cz21 a1.out; have b2 := blk_frozen a1.out 0; have b3 := blk_frozen a1.out 1; obtain ⟨e9, e7, l6, _⟩ := Kd.Q_slice a2.out; subst l6) | ((with_reducible refine gate_callee (f := 36) rfl ?_); refine gl_ (some 19) Try.func36 #[.agg #[.slice e8 a4.length e6, .slice e9 a5.length e7], .int .i64 a7, .int .i64 a8] ?_; (with_reducible refine (impl_ApartOk.calls _ _ a4 _ _ a5 a7 a8 true _ (by refine (Kd.S_reads' (e := 24) (base := w.heap.size) (ok := fun k_ => some k_ ≠ (.slice e9 a5.length e7 : Value).ownBlock) (n := a4.length) (c := e6) ?_).2.2; exact zd_9) (y2 a3.out) (by refine (Kd.Q_reads' (e := 3) (base := w.heap.size) (ok := fun k_ => True) (n := a5.length) (c := e7) ?_).2.2; exact zd_14) (y2 a2.out) A4.out).mono ?_); rintro e w' ⟨rfl, hb⟩; refine ⟨_, rfl, ?_⟩; replace a3 := ak (Kd.S_below zd_9 hb); replace a2 := ak (Kd.Q_below zd_14 hb); replace a1 := ak (blk_below (g := a6) (o := .cells #[.slice e8 a4.length e6, .slice e9 a5.length e7] 26 (0, 0)) (by (with_reducible repeat (first | refine blk_drewN ?_ _ | refine blk_drew ?_ | refine blk_alloc ?_ _)); refine blk_put (cs := #[.slice e8 a4.length e6, .slice none 0 0]) ?_ 1 _ rfl; (with_reducible repeat (first | refine blk_drewN ?_ _ | refine blk_drew ?_ | refine blk_alloc ?_ _)); refine blk_put (cs := #[.slice none 0 0, .slice none 0 0]) ?_ 0 _ rfl; (with_reducible repeat (first | refine blk_drewN ?_ _ | refine blk_drew ?_ | refine blk_alloc ?_ _)); exact a1.out) hb); replace HB := ak (below_step zd_0 hb); (try clear hb); (try clear hb2); (try clear hk); (try clear hi); have b0 := cz20 a1.out; have b1 := cz21 a1.out; have b2 := blk_frozen a1.out 0; have b3 := blk_frozen a1.out 1) | ((with_reducible refine gate_callee (f := 37) rfl ?_); refine gl_ (some 24) Try.func37 #[.agg #[.slice e8 a4.length e6, .slice e9 a5.length e7], .int .i64 a7, .int .i64 a8] ?_; (with_reducible refine (spec_ApartOk.calls k _ _ a4 _ _ a5 a7 a8 e5 _ (y1 a3.out) (y2 a3.out) (y1 a2.out) (y2 a2.out) A5.out).mono ?_); rintro e w' ⟨rfl, hb⟩; refine ⟨_, rfl, ?_⟩; replace a3 := ak (Kd.S_below (xS a3.out) hb); replace a2 := ak (Kd.Q_below (xQ a2.out) hb); replace a1 := ak (blk_below (g := a6) (o := .cells #[.slice e8 a4.length e6, .slice e9 a5.length e7] 26 (0, 0)) (xb a1.out) hb); replace HB := ak (below_step zd_0 hb); (try clear hb); (try clear hb2); (try clear hk); (try clear hi); have b0 := cz20 a1.out; have b1 := cz21 a1.out; have b2 := blk_frozen a1.out 0; have b3 := blk_frozen a1.out 1) | ((with_reducible refine gate_callee (f := 28) rfl ?_); refine gl_ (some 29) Try.func28 #[.agg #[.slice e8 a4.length e6, .slice e9 a5.length e7], .int .i64 a7, .int .i64 a8] ?_; (with_reducible refine (spec_AndOf.calls k _ _ a4 _ _ a5 a7 a8 f7 _ (y1 a3.out) (y2 a3.out) (y1 a2.out) (y2 a2.out) h5.out).mono ?_); rintro e n3 ⟨rfl, hb⟩; refine ⟨_, rfl, ?_⟩; replace a3 := ak (Kd.S_below (xS a3.out) hb); replace a2 := ak (Kd.Q_below (xQ a2.out) hb); replace a1 := ak (blk_below (g := a6) (o := .cells #[.slice e8 a4.length e6, .slice e9 a5.length e7] 26 (0, 0)) (xb a1.out) hb); replace HB := ak (below_step zd_0 hb); (try clear hb); (try clear hb2); (try clear hk); (try clear hi)))
   replace a3 := ak (Kd.S_drew a3.out)
   replace a2 := ak (Kd.Q_drew a2.out)
   replace a1 := ak (blk_drew a1.out)
   replace HB := ak (below_drew1 HB.out)
   refine start_ (n := 39) (S := fun w' => w'.cell? ⟨a6, 0, none⟩ = some (.slice e8 a4.length e6) ∧ w'.cell? ⟨a6, 1, none⟩ = some (.slice e9 a5.length e7)) (ds := []) (bA 39 0) zd_21 rfl rfl ⟨(blk_cell a1.out 0).trans rfl, (blk_cell a1.out 1).trans rfl⟩ (fun hHeld => ?_); refine with_tabW laws_FnApartOk.tab9 laws_FnApartOk.bits9 (fun HT_ HW_ => ?_)
   generalize n3.drew = o8 at a3 a2 a1 HB hHeld ⊢
   refine pu_ (i := 1) (N := some 37) (bA 39 2) ?_
   refine pu_ (i := 2) (N := some 38) (bA 39 6) ?_
   refine pu_ (i := 4) (N := some 40) (bA 39 22) ?_
   refine tk_ (i := 0) (N := some 36) (bA 39 23) ?_
   refine one_ (i := 3) (N := some 39) (bA 39 31) rfl rfl (one_of HT_.out zd_21) (by decide) (fun K hK => ?_)
   refine ge_ Try.func36 #[.agg #[.slice e8 a4.length e6, .slice e9 a5.length e7], .int .i64 a8, .int .i64 a7] ?_
   with_reducible refine (impl_ApartOk.calls _ _ a4 _ _ a5 a8 a7 f0 _ ?side1 ?side2 ?side3 ?side4 i2.out).mono ?_
   (case side1 => repeat (first | exact (Kd.S_reads' a3.out).2.2 | (with_reducible refine Kd.C_alloc ?_ _) | (with_reducible refine Kd.C_drewN ?_ _) | (with_reducible refine Kd.C_drew ?_)))
   (case side2 => exact (Kd.S_reads' a3.out).2.1)
   (case side3 => repeat (first | exact (Kd.Q_reads' a2.out).2.2 | (with_reducible refine Kd.C_alloc ?_ _) | (with_reducible refine Kd.C_drewN ?_ _) | (with_reducible refine Kd.C_drew ?_)))
   (case side4 => exact (Kd.Q_reads' a2.out).2.1)
   rintro e w' ⟨rfl, hb⟩
   refine ⟨_, rfl, ?_⟩
   replace a3 := ak (Kd.S_below (xS a3.out) hb)
   replace a2 := ak (Kd.Q_below (xQ a2.out) hb)
   replace a1 := ak (blk_below (g := a6) (o := .cells #[.slice e8 a4.length e6, .slice e9 a5.length e7] 26 (0, 0)) (xb a1.out) hb)
   replace HB := ak (below_step zd_0 hb)
   (try clear hb)
   (try clear hb2)
   (try clear hk)
   (try clear hi)
   refine hK.out _ _ ⟨(blk_cell a1.out 0).trans rfl, (blk_cell a1.out 1).trans rfl⟩ (fun hHeld => ?_)
   clear hK K
   refine no_ (N := some 39) ?_
   refine pu_ (i := 5) (N := some 41) (bA 39 63) ?_
   refine pu_ (i := 6) (N := some 42) (bA 39 127) ?_
   refine pu_ (i := 7) (N := some 43) (bA 39 255) ?_
   refine pu_ (i := 8) (N := some 44) (bA 39 511) ?_
   refine pu_ (i := 9) (N := some 45) (bA 39 1023) ?_
   refine pu_ (i := 11) (N := some 47) (bA 39 3071) ?_
   refine pu_ (i := 12) (N := some 48) (bA 39 7167) ?_
   refine tk_ (i := 10) (N := some 46) (bA 39 8191) ?_
   refine tk_ (i := 14) (N := some 50) (bA 39 24575) ?_
   refine one_ (i := 13) (N := some 49) (bA 39 32767) rfl rfl (one_of HT_.out zd_21) (by decide) (fun K hK => ?_)
   refine ge_ Try.func27 #[.agg #[.slice e8 a4.length e6, .slice e9 a5.length e7], .int .i64 a7, .int .i64 a8] ?_
   with_reducible refine (impl_AndOf.calls _ _ a4 _ _ a5 a7 a8 g9 _ ?side1 ?side2 ?side3 ?side4 k8.out).mono ?_
   (case side1 => repeat (first | exact (Kd.S_reads' a3.out).2.2 | (with_reducible refine Kd.C_alloc ?_ _) | (with_reducible refine Kd.C_drewN ?_ _) | (with_reducible refine Kd.C_drew ?_)))
   (case side2 => exact (Kd.S_reads' a3.out).2.1)
   (case side3 => repeat (first | exact (Kd.Q_reads' a2.out).2.2 | (with_reducible refine Kd.C_alloc ?_ _) | (with_reducible refine Kd.C_drewN ?_ _) | (with_reducible refine Kd.C_drew ?_)))
   (case side4 => exact (Kd.Q_reads' a2.out).2.1)
   rintro e w' ⟨rfl, hb⟩
   refine ⟨_, rfl, ?_⟩
   replace a3 := ak (Kd.S_below (xS a3.out) hb)
   replace a2 := ak (Kd.Q_below (xQ a2.out) hb)
   replace a1 := ak (blk_below (g := a6) (o := .cells #[.slice e8 a4.length e6, .slice e9 a5.length e7] 26 (0, 0)) (xb a1.out) hb)
   replace HB := ak (below_step zd_0 hb)
   (try clear hb)
   (try clear hb2)
   (try clear hk)
   (try clear hi)
   refine hK.out _ _ ⟨(blk_cell a1.out 0).trans rfl, (blk_cell a1.out 1).trans rfl⟩ (fun hHeld => ?_)
   clear hK K
   refine no_ (N := some 49) ?_
   refine one_ (i := 15) (N := some 51) (bA 39 65535) rfl rfl (one_of HT_.out zd_21) (by decide) (fun K hK => ?_)
   refine ge_ Try.func19 #[.agg #[.slice e8 a4.length e6, .slice e9 a5.length e7]] ?_
   with_reducible refine (impl_NoOf.calls _ _ a4 _ _ a5 h0 _ ?side1 ?side2 ?side3 ?side4 k9.out).mono ?_
   (case side1 => repeat (first | exact (Kd.S_reads' a3.out).2.2 | (with_reducible refine Kd.C_alloc ?_ _) | (with_reducible refine Kd.C_drewN ?_ _) | (with_reducible refine Kd.C_drew ?_)))
   (case side2 => exact (Kd.S_reads' a3.out).2.1)
   (case side3 => repeat (first | exact (Kd.Q_reads' a2.out).2.2 | (with_reducible refine Kd.C_alloc ?_ _) | (with_reducible refine Kd.C_drewN ?_ _) | (with_reducible refine Kd.C_drew ?_)))
   (case side4 => exact (Kd.Q_reads' a2.out).2.1)
   rintro e w' ⟨rfl, hb⟩
   refine ⟨_, rfl, ?_⟩
   replace a3 := ak (Kd.S_below (xS a3.out) hb)
   replace a2 := ak (Kd.Q_below (xQ a2.out) hb)
   replace a1 := ak (blk_below (g := a6) (o := .cells #[.slice e8 a4.length e6, .slice e9 a5.length e7] 26 (0, 0)) (xb a1.out) hb)
   replace HB := ak (below_step zd_0 hb)
   (try clear hb)
   (try clear hb2)
   (try clear hk)
   (try clear hi)
   refine hK.out _ _ ⟨(blk_cell a1.out 0).trans rfl, (blk_cell a1.out 1).trans rfl⟩ (fun hHeld => ?_)
   clear hK K
   refine no_ (N := some 51) ?_
   refine pu_ (i := 16) (N := some 52) (bA 39 131071) ?_
   refine pu_ (i := 17) (N := some 53) (bA 39 262143) ?_
   refine pu_ (i := 18) (N := some 54) (bA 39 524287) ?_
   refine pu_ (i := 19) (N := some 55) (bA 39 1048575) ?_
   refine of_ (i := 20) (N := some 56) (bA 39 2097151) ?_
   refine of_ (i := 21) (N := some 57) (bA 39 4194303) ?_
   refine of_ (i := 22) (N := some 58) (bA 39 8388607) ?_
   refine of_ (i := 23) (N := some 59) (bA 39 16777215) ?_
   refine of_ (i := 24) (N := some 60) (bA 39 33554431) ?_
   refine of_ (i := 25) (N := some 61) (bA 39 67108863) ?_
   refine pu_ (i := 26) (N := some 62) (bA 39 134217727) ?_
   refine pu_ (i := 27) (N := some 63) (bA 39 268435455) ?_
   refine of_ (i := 28) (N := some 64) (bA 39 536870911) ?_
   refine of_ (i := 29) (N := some 65) (bA 39 1073741823) ?_
   refine of_ (i := 30) (N := some 66) (bA 39 2147483647) ?_
   refine of_ (i := 31) (N := some 67) (bA 39 4294967295) ?_
   refine of_ (i := 32) (N := some 68) (bA 39 8589934591) ?_
   refine of_ (i := 33) (N := some 69) (bA 39 17179869183) ?_
   refine of_ (i := 34) (N := some 70) (bA 39 34359738367) ?_
   refine of_ (i := 35) (N := some 71) (bA 39 68719476735) ?_
   refine of_ (i := 36) (N := some 72) (bA 39 137438953471) ?_
   refine pu_ (i := 37) (N := some 73) (bA 39 274877906943) ?_
   refine pu_ (i := 38) (N := some 2) (bA 39 549755813887) ?_
   refine done_ (done_of HT_.out zd_21) ?_
   try go_wp2
   go_ret
   exact ⟨zd_2, zd_0⟩
  replace H := bd_ H
  obtain ⟨g5, m4, H⟩ := H
  replace H := bd_ H
  obtain ⟨i4, j1, H⟩ := H
  try dsimp only at H
  replace H := ox_ H
  rcases H with ⟨rfl, H⟩ | ⟨rfl, H⟩
  ·
   replace H := bd_ H
   obtain ⟨i0, l7, H⟩ := H
   replace H := bd_ H
   obtain ⟨i1, l8, H⟩ := H
   try dsimp only at H
   obtain rfl := Option.some.inj H
   go_enter Try.func9, Try.ntmps9
   try go_wp2_with (first | ((with_reducible refine gate_callee (f := 35) rfl ?_); refine gl_ (some 12) Try.func35 #[.slice A0 l0.length c0] ?_; (with_reducible refine (spec_DrawApartOk.calls k _ _ l0 a4 a5 a7 a8 _ (y4 HR0.out) h3.out A3.out).mono ?_); rintro e w' ⟨g6, g7, rfl, ho0, ho1, hb⟩; refine ⟨_, rfl, ?_⟩; have a3 := ak (Kd.S_lower ho0 (below_size zd_1)); have a2 := ak (Kd.Q_lower ho1 (below_size zd_1)); replace HB := ak (below_step zd_1 hb); (try clear hb); (try clear hb2); (try clear hk); (try clear hi); (try clear ho0); (try clear ho1)) | ((with_reducible refine gate_dst (N := 3) rfl ?_); refine bx_ (N := 3) (cs := #[.slice none 0 0, .slice none 0 0]) (t := 26) ?_; intro a6 hg n4 hbox hb; replace a3 := ak (Kd.S_below (xS a3.out) hb); replace a2 := ak (Kd.Q_below (xQ a2.out) hb); have a1 := ak (hbox); have f2 := ak ((by rw [hg]; exact (below_size zd_1) : w.heap.size ≤ a6)); have f1 := ak ((by rw [hg]; exact (below_size zd_1) : w.heap.size ≤ a6)); replace HB := ak (below_step zd_1 hb); clear hb hbox hg; obtain ⟨b6, b4, j2⟩ := Kd.S_slice a3.out; subst j2; have b0 := cz20 a1.out; have b1 := cz21 a1.out; have b2 := blk_frozen a1.out 0; have b3 := blk_frozen a1.out 1; obtain ⟨b7, b5, j3, _⟩ := Kd.Q_slice a2.out; subst j3) | ((with_reducible refine gate_callee (f := 36) rfl ?_); refine gl_ (some 19) Try.func36 #[.agg #[.slice b6 a4.length b4, .slice b7 a5.length b5], .int .i64 a7, .int .i64 a8] ?_; (with_reducible refine (impl_ApartOk.calls _ _ a4 _ _ a5 a7 a8 false _ (by refine (Kd.S_reads' (e := 24) (base := w.heap.size) (ok := fun k_ => some k_ ≠ (.slice b7 a5.length b5 : Value).ownBlock) (n := a4.length) (c := b4) ?_).2.2; exact zd_5) (y2 a3.out) (by refine (Kd.Q_reads' (e := 3) (base := w.heap.size) (ok := fun k_ => True) (n := a5.length) (c := b5) ?_).2.2; exact zd_8) (y2 a2.out) A4.out).mono ?_); rintro e w' ⟨rfl, hb⟩; refine ⟨_, rfl, ?_⟩; replace a3 := ak (Kd.S_below zd_5 hb); replace a2 := ak (Kd.Q_below zd_8 hb); replace a1 := ak (blk_below (g := a6) (o := .cells #[.slice b6 a4.length b4, .slice b7 a5.length b5] 26 (0, 0)) (by (with_reducible repeat (first | refine blk_drewN ?_ _ | refine blk_drew ?_ | refine blk_alloc ?_ _)); refine blk_put (cs := #[.slice b6 a4.length b4, .slice none 0 0]) ?_ 1 _ rfl; (with_reducible repeat (first | refine blk_drewN ?_ _ | refine blk_drew ?_ | refine blk_alloc ?_ _)); refine blk_put (cs := #[.slice none 0 0, .slice none 0 0]) ?_ 0 _ rfl; (with_reducible repeat (first | refine blk_drewN ?_ _ | refine blk_drew ?_ | refine blk_alloc ?_ _)); exact a1.out) hb); replace HB := ak (below_step zd_0 hb); (try clear hb); (try clear hb2); (try clear hk); (try clear hi); have b0 := cz20 a1.out; have b1 := cz21 a1.out; have b2 := blk_frozen a1.out 0; have b3 := blk_frozen a1.out 1) | ((with_reducible refine gate_callee (f := 37) rfl ?_); refine gl_ (some 24) Try.func37 #[.agg #[.slice b6 a4.length b4, .slice b7 a5.length b5], .int .i64 a7, .int .i64 a8] ?_; (with_reducible refine (spec_ApartOk.calls k _ _ a4 _ _ a5 a7 a8 e5 _ (y1 a3.out) (y2 a3.out) (y1 a2.out) (y2 a2.out) A5.out).mono ?_); rintro e w' ⟨rfl, hb⟩; refine ⟨_, rfl, ?_⟩; replace a3 := ak (Kd.S_below (xS a3.out) hb); replace a2 := ak (Kd.Q_below (xQ a2.out) hb); replace a1 := ak (blk_below (g := a6) (o := .cells #[.slice b6 a4.length b4, .slice b7 a5.length b5] 26 (0, 0)) (xb a1.out) hb); replace HB := ak (below_step zd_0 hb); (try clear hb); (try clear hb2); (try clear hk); (try clear hi); have b0 := cz20 a1.out; have b1 := cz21 a1.out; have b2 := blk_frozen a1.out 0; have b3 := blk_frozen a1.out 1) | ((with_reducible refine gate_callee (f := 28) rfl ?_); refine gl_ (some 29) Try.func28 #[.agg #[.slice b6 a4.length b4, .slice b7 a5.length b5], .int .i64 a7, .int .i64 a8] ?_; (with_reducible refine (spec_AndOf.calls k _ _ a4 _ _ a5 a7 a8 f7 _ (y1 a3.out) (y2 a3.out) (y1 a2.out) (y2 a2.out) h5.out).mono ?_); rintro e l9 ⟨rfl, hb⟩; refine ⟨_, rfl, ?_⟩; replace a3 := ak (Kd.S_below (xS a3.out) hb); replace a2 := ak (Kd.Q_below (xQ a2.out) hb); replace a1 := ak (blk_below (g := a6) (o := .cells #[.slice b6 a4.length b4, .slice b7 a5.length b5] 26 (0, 0)) (xb a1.out) hb); replace HB := ak (below_step zd_0 hb); (try clear hb); (try clear hb2); (try clear hk); (try clear hi)))
   replace a3 := ak (Kd.S_drew a3.out)
   replace a2 := ak (Kd.Q_drew a2.out)
   replace a1 := ak (blk_drew a1.out)
   replace HB := ak (below_drew1 HB.out)
   refine start_ (n := 39) (S := fun w' => w'.cell? ⟨a6, 0, none⟩ = some (.slice b6 a4.length b4) ∧ w'.cell? ⟨a6, 1, none⟩ = some (.slice b7 a5.length b5)) (ds := []) (bA 39 0) zd_21 rfl rfl ⟨(blk_cell a1.out 0).trans rfl, (blk_cell a1.out 1).trans rfl⟩ (fun hHeld => ?_); refine with_tabW laws_FnApartOk.tab9 laws_FnApartOk.bits9 (fun HT_ HW_ => ?_)
   generalize l9.drew = n5 at a3 a2 a1 HB hHeld ⊢
   refine pu_ (i := 1) (N := some 37) (bA 39 2) ?_
   refine pu_ (i := 2) (N := some 38) (bA 39 6) ?_
   refine pu_ (i := 4) (N := some 40) (bA 39 22) ?_
   refine tk_ (i := 0) (N := some 36) (bA 39 23) ?_
   refine one_ (i := 3) (N := some 39) (bA 39 31) rfl rfl (one_of HT_.out zd_21) (by decide) (fun K hK => ?_)
   refine ge_ Try.func36 #[.agg #[.slice b6 a4.length b4, .slice b7 a5.length b5], .int .i64 a8, .int .i64 a7] ?_
   with_reducible refine (impl_ApartOk.calls _ _ a4 _ _ a5 a8 a7 f0 _ ?side1 ?side2 ?side3 ?side4 i2.out).mono ?_
   (case side1 => repeat (first | exact (Kd.S_reads' a3.out).2.2 | (with_reducible refine Kd.C_alloc ?_ _) | (with_reducible refine Kd.C_drewN ?_ _) | (with_reducible refine Kd.C_drew ?_)))
   (case side2 => exact (Kd.S_reads' a3.out).2.1)
   (case side3 => repeat (first | exact (Kd.Q_reads' a2.out).2.2 | (with_reducible refine Kd.C_alloc ?_ _) | (with_reducible refine Kd.C_drewN ?_ _) | (with_reducible refine Kd.C_drew ?_)))
   (case side4 => exact (Kd.Q_reads' a2.out).2.1)
   rintro e w' ⟨rfl, hb⟩
   refine ⟨_, rfl, ?_⟩
   replace a3 := ak (Kd.S_below (xS a3.out) hb)
   replace a2 := ak (Kd.Q_below (xQ a2.out) hb)
   replace a1 := ak (blk_below (g := a6) (o := .cells #[.slice b6 a4.length b4, .slice b7 a5.length b5] 26 (0, 0)) (xb a1.out) hb)
   replace HB := ak (below_step zd_0 hb)
   (try clear hb)
   (try clear hb2)
   (try clear hk)
   (try clear hi)
   refine hK.out _ _ ⟨(blk_cell a1.out 0).trans rfl, (blk_cell a1.out 1).trans rfl⟩ (fun hHeld => ?_)
   clear hK K
   refine no_ (N := some 39) ?_
   refine pu_ (i := 5) (N := some 41) (bA 39 63) ?_
   refine pu_ (i := 6) (N := some 42) (bA 39 127) ?_
   refine pu_ (i := 7) (N := some 43) (bA 39 255) ?_
   refine pu_ (i := 8) (N := some 44) (bA 39 511) ?_
   refine pu_ (i := 9) (N := some 45) (bA 39 1023) ?_
   refine of_ (i := 10) (N := some 46) (bA 39 2047) ?_
   refine of_ (i := 11) (N := some 47) (bA 39 4095) ?_
   refine of_ (i := 12) (N := some 48) (bA 39 8191) ?_
   refine of_ (i := 13) (N := some 49) (bA 39 16383) ?_
   refine of_ (i := 14) (N := some 50) (bA 39 32767) ?_
   refine of_ (i := 15) (N := some 51) (bA 39 65535) ?_
   refine of_ (i := 16) (N := some 52) (bA 39 131071) ?_
   refine pu_ (i := 17) (N := some 53) (bA 39 262143) ?_
   refine pu_ (i := 18) (N := some 54) (bA 39 524287) ?_
   refine pu_ (i := 19) (N := some 55) (bA 39 1048575) ?_
   refine pu_ (i := 21) (N := some 57) (bA 39 3145727) ?_
   refine pu_ (i := 23) (N := some 59) (bA 39 11534335) ?_
   refine tk_ (i := 20) (N := some 56) (bA 39 12582911) ?_
   refine tk_ (i := 22) (N := some 58) (bA 39 16777215) ?_
   refine one_ (i := 24) (N := some 60) (bA 39 33554431) rfl rfl (one_of HT_.out zd_21) (by decide) (fun K hK => ?_)
   refine ge_ Try.func29 #[.agg #[.slice b6 a4.length b4, .slice b7 a5.length b5], .int .i64 a7] ?_
   with_reducible refine (impl_NotOf.calls _ _ a4 _ _ a5 a7 g5 _ ?side1 ?side2 ?side3 ?side4 m4.out).mono ?_
   (case side1 => repeat (first | exact (Kd.S_reads' a3.out).2.2 | (with_reducible refine Kd.C_alloc ?_ _) | (with_reducible refine Kd.C_drewN ?_ _) | (with_reducible refine Kd.C_drew ?_)))
   (case side2 => exact (Kd.S_reads' a3.out).2.1)
   (case side3 => repeat (first | exact (Kd.Q_reads' a2.out).2.2 | (with_reducible refine Kd.C_alloc ?_ _) | (with_reducible refine Kd.C_drewN ?_ _) | (with_reducible refine Kd.C_drew ?_)))
   (case side4 => exact (Kd.Q_reads' a2.out).2.1)
   rintro e w' ⟨rfl, hb⟩
   refine ⟨_, rfl, ?_⟩
   replace a3 := ak (Kd.S_below (xS a3.out) hb)
   replace a2 := ak (Kd.Q_below (xQ a2.out) hb)
   replace a1 := ak (blk_below (g := a6) (o := .cells #[.slice b6 a4.length b4, .slice b7 a5.length b5] 26 (0, 0)) (xb a1.out) hb)
   replace HB := ak (below_step zd_0 hb)
   (try clear hb)
   (try clear hb2)
   (try clear hk)
   (try clear hi)
   refine hK.out _ _ ⟨(blk_cell a1.out 0).trans rfl, (blk_cell a1.out 1).trans rfl⟩ (fun hHeld => ?_)
   clear hK K
   refine no_ (N := some 60) ?_
   refine one_ (i := 25) (N := some 61) (bA 39 67108863) rfl rfl (one_of HT_.out zd_21) (by decide) (fun K hK => ?_)
   refine ge_ Try.func36 #[.agg #[.slice b6 a4.length b4, .slice b7 a5.length b5], .int .i64 a7, .int .i64 g5] ?_
   with_reducible refine (impl_ApartOk.calls _ _ a4 _ _ a5 a7 g5 true _ ?side1 ?side2 ?side3 ?side4 j1.out).mono ?_
   (case side1 => repeat (first | exact (Kd.S_reads' a3.out).2.2 | (with_reducible refine Kd.C_alloc ?_ _) | (with_reducible refine Kd.C_drewN ?_ _) | (with_reducible refine Kd.C_drew ?_)))
   (case side2 => exact (Kd.S_reads' a3.out).2.1)
   (case side3 => repeat (first | exact (Kd.Q_reads' a2.out).2.2 | (with_reducible refine Kd.C_alloc ?_ _) | (with_reducible refine Kd.C_drewN ?_ _) | (with_reducible refine Kd.C_drew ?_)))
   (case side4 => exact (Kd.Q_reads' a2.out).2.1)
   rintro e w' ⟨rfl, hb⟩
   refine ⟨_, rfl, ?_⟩
   replace a3 := ak (Kd.S_below (xS a3.out) hb)
   replace a2 := ak (Kd.Q_below (xQ a2.out) hb)
   replace a1 := ak (blk_below (g := a6) (o := .cells #[.slice b6 a4.length b4, .slice b7 a5.length b5] 26 (0, 0)) (xb a1.out) hb)
   replace HB := ak (below_step zd_0 hb)
   (try clear hb)
   (try clear hb2)
   (try clear hk)
   (try clear hi)
   refine hK.out _ _ ⟨(blk_cell a1.out 0).trans rfl, (blk_cell a1.out 1).trans rfl⟩ (fun hHeld => ?_)
   clear hK K
   refine no_ (N := some 61) ?_
   refine pu_ (i := 26) (N := some 62) (bA 39 134217727) ?_
   refine pu_ (i := 27) (N := some 63) (bA 39 268435455) ?_
   refine pu_ (i := 29) (N := some 65) (bA 39 805306367) ?_
   refine pu_ (i := 30) (N := some 66) (bA 39 1879048191) ?_
   refine pu_ (i := 32) (N := some 68) (bA 39 6174015487) ?_
   refine tk_ (i := 28) (N := some 64) (bA 39 6442450943) ?_
   refine tk_ (i := 33) (N := some 69) (bA 39 15032385535) ?_
   refine one_ (i := 31) (N := some 67) (bA 39 17179869183) rfl rfl (one_of HT_.out zd_21) (by decide) (fun K hK => ?_)
   refine ge_ Try.func36 #[.agg #[.slice b6 a4.length b4, .slice b7 a5.length b5], .int .i64 a7, .int .i64 a7] ?_
   with_reducible refine (impl_ApartOk.calls _ _ a4 _ _ a5 a7 a7 i0 _ ?side1 ?side2 ?side3 ?side4 l7.out).mono ?_
   (case side1 => repeat (first | exact (Kd.S_reads' a3.out).2.2 | (with_reducible refine Kd.C_alloc ?_ _) | (with_reducible refine Kd.C_drewN ?_ _) | (with_reducible refine Kd.C_drew ?_)))
   (case side2 => exact (Kd.S_reads' a3.out).2.1)
   (case side3 => repeat (first | exact (Kd.Q_reads' a2.out).2.2 | (with_reducible refine Kd.C_alloc ?_ _) | (with_reducible refine Kd.C_drewN ?_ _) | (with_reducible refine Kd.C_drew ?_)))
   (case side4 => exact (Kd.Q_reads' a2.out).2.1)
   rintro e w' ⟨rfl, hb⟩
   refine ⟨_, rfl, ?_⟩
   replace a3 := ak (Kd.S_below (xS a3.out) hb)
   replace a2 := ak (Kd.Q_below (xQ a2.out) hb)
   replace a1 := ak (blk_below (g := a6) (o := .cells #[.slice b6 a4.length b4, .slice b7 a5.length b5] 26 (0, 0)) (xb a1.out) hb)
   replace HB := ak (below_step zd_0 hb)
   (try clear hb)
   (try clear hb2)
   (try clear hk)
   (try clear hi)
   refine hK.out _ _ ⟨(blk_cell a1.out 0).trans rfl, (blk_cell a1.out 1).trans rfl⟩ (fun hHeld => ?_)
   clear hK K
   refine no_ (N := some 67) ?_
   refine one_ (i := 34) (N := some 70) (bA 39 34359738367) rfl rfl (one_of HT_.out zd_21) (by decide) (fun K hK => ?_)
   refine ge_ Try.func19 #[.agg #[.slice b6 a4.length b4, .slice b7 a5.length b5]] ?_
   with_reducible refine (impl_NoOf.calls _ _ a4 _ _ a5 i1 _ ?side1 ?side2 ?side3 ?side4 l8.out).mono ?_
   (case side1 => repeat (first | exact (Kd.S_reads' a3.out).2.2 | (with_reducible refine Kd.C_alloc ?_ _) | (with_reducible refine Kd.C_drewN ?_ _) | (with_reducible refine Kd.C_drew ?_)))
   (case side2 => exact (Kd.S_reads' a3.out).2.1)
   (case side3 => repeat (first | exact (Kd.Q_reads' a2.out).2.2 | (with_reducible refine Kd.C_alloc ?_ _) | (with_reducible refine Kd.C_drewN ?_ _) | (with_reducible refine Kd.C_drew ?_)))
   (case side4 => exact (Kd.Q_reads' a2.out).2.1)
   rintro e w' ⟨rfl, hb⟩
   refine ⟨_, rfl, ?_⟩
   replace a3 := ak (Kd.S_below (xS a3.out) hb)
   replace a2 := ak (Kd.Q_below (xQ a2.out) hb)
   replace a1 := ak (blk_below (g := a6) (o := .cells #[.slice b6 a4.length b4, .slice b7 a5.length b5] 26 (0, 0)) (xb a1.out) hb)
   replace HB := ak (below_step zd_0 hb)
   (try clear hb)
   (try clear hb2)
   (try clear hk)
   (try clear hi)
   refine hK.out _ _ ⟨(blk_cell a1.out 0).trans rfl, (blk_cell a1.out 1).trans rfl⟩ (fun hHeld => ?_)
   clear hK K
   refine no_ (N := some 70) ?_
   refine pu_ (i := 35) (N := some 71) (bA 39 68719476735) ?_
   refine pu_ (i := 36) (N := some 72) (bA 39 137438953471) ?_
   refine pu_ (i := 37) (N := some 73) (bA 39 274877906943) ?_
   refine pu_ (i := 38) (N := some 2) (bA 39 549755813887) ?_
   refine done_ (done_of HT_.out zd_21) ?_
   try go_wp2
   go_ret
   exact ⟨zd_2, zd_0⟩
  obtain rfl := Option.some.inj H
  go_enter Try.func9, Try.ntmps9
  try go_wp2_with (first | ((with_reducible refine gate_callee (f := 35) rfl ?_); refine gl_ (some 12) Try.func35 #[.slice A0 l0.length c0] ?_; (with_reducible refine (spec_DrawApartOk.calls k _ _ l0 a4 a5 a7 a8 _ (y4 HR0.out) h3.out A3.out).mono ?_); rintro e w' ⟨g6, g7, rfl, ho0, ho1, hb⟩; refine ⟨_, rfl, ?_⟩; have a3 := ak (Kd.S_lower ho0 (below_size zd_1)); have a2 := ak (Kd.Q_lower ho1 (below_size zd_1)); replace HB := ak (below_step zd_1 hb); (try clear hb); (try clear hb2); (try clear hk); (try clear hi); (try clear ho0); (try clear ho1)) | ((with_reducible refine gate_dst (N := 3) rfl ?_); refine bx_ (N := 3) (cs := #[.slice none 0 0, .slice none 0 0]) (t := 26) ?_; intro a6 hg n6 hbox hb; replace a3 := ak (Kd.S_below (xS a3.out) hb); replace a2 := ak (Kd.Q_below (xQ a2.out) hb); have a1 := ak (hbox); have f2 := ak ((by rw [hg]; exact (below_size zd_1) : w.heap.size ≤ a6)); have f1 := ak ((by rw [hg]; exact (below_size zd_1) : w.heap.size ≤ a6)); replace HB := ak (below_step zd_1 hb); clear hb hbox hg; obtain ⟨d2, b8, j4⟩ := Kd.S_slice a3.out; subst j4; have b0 := cz20 a1.out; have b1 := cz21 a1.out; have b2 := blk_frozen a1.out 0; have b3 := blk_frozen a1.out 1; obtain ⟨d3, b9, j5, _⟩ := Kd.Q_slice a2.out; subst j5) | ((with_reducible refine gate_callee (f := 36) rfl ?_); refine gl_ (some 19) Try.func36 #[.agg #[.slice d2 a4.length b8, .slice d3 a5.length b9], .int .i64 a7, .int .i64 a8] ?_; (with_reducible refine (impl_ApartOk.calls _ _ a4 _ _ a5 a7 a8 false _ (by refine (Kd.S_reads' (e := 24) (base := w.heap.size) (ok := fun k_ => some k_ ≠ (.slice d3 a5.length b9 : Value).ownBlock) (n := a4.length) (c := b8) ?_).2.2; exact zd_4) (y2 a3.out) (by refine (Kd.Q_reads' (e := 3) (base := w.heap.size) (ok := fun k_ => True) (n := a5.length) (c := b9) ?_).2.2; exact zd_7) (y2 a2.out) A4.out).mono ?_); rintro e w' ⟨rfl, hb⟩; refine ⟨_, rfl, ?_⟩; replace a3 := ak (Kd.S_below zd_4 hb); replace a2 := ak (Kd.Q_below zd_7 hb); replace a1 := ak (blk_below (g := a6) (o := .cells #[.slice d2 a4.length b8, .slice d3 a5.length b9] 26 (0, 0)) (by (with_reducible repeat (first | refine blk_drewN ?_ _ | refine blk_drew ?_ | refine blk_alloc ?_ _)); refine blk_put (cs := #[.slice d2 a4.length b8, .slice none 0 0]) ?_ 1 _ rfl; (with_reducible repeat (first | refine blk_drewN ?_ _ | refine blk_drew ?_ | refine blk_alloc ?_ _)); refine blk_put (cs := #[.slice none 0 0, .slice none 0 0]) ?_ 0 _ rfl; (with_reducible repeat (first | refine blk_drewN ?_ _ | refine blk_drew ?_ | refine blk_alloc ?_ _)); exact a1.out) hb); replace HB := ak (below_step zd_0 hb); (try clear hb); (try clear hb2); (try clear hk); (try clear hi); have b0 := cz20 a1.out; have b1 := cz21 a1.out; have b2 := blk_frozen a1.out 0; have b3 := blk_frozen a1.out 1) | ((with_reducible refine gate_callee (f := 37) rfl ?_); refine gl_ (some 24) Try.func37 #[.agg #[.slice d2 a4.length b8, .slice d3 a5.length b9], .int .i64 a7, .int .i64 a8] ?_; (with_reducible refine (spec_ApartOk.calls k _ _ a4 _ _ a5 a7 a8 e5 _ (y1 a3.out) (y2 a3.out) (y1 a2.out) (y2 a2.out) A5.out).mono ?_); rintro e w' ⟨rfl, hb⟩; refine ⟨_, rfl, ?_⟩; replace a3 := ak (Kd.S_below (xS a3.out) hb); replace a2 := ak (Kd.Q_below (xQ a2.out) hb); replace a1 := ak (blk_below (g := a6) (o := .cells #[.slice d2 a4.length b8, .slice d3 a5.length b9] 26 (0, 0)) (xb a1.out) hb); replace HB := ak (below_step zd_0 hb); (try clear hb); (try clear hb2); (try clear hk); (try clear hi); have b0 := cz20 a1.out; have b1 := cz21 a1.out; have b2 := blk_frozen a1.out 0; have b3 := blk_frozen a1.out 1) | ((with_reducible refine gate_callee (f := 28) rfl ?_); refine gl_ (some 29) Try.func28 #[.agg #[.slice d2 a4.length b8, .slice d3 a5.length b9], .int .i64 a7, .int .i64 a8] ?_; (with_reducible refine (spec_AndOf.calls k _ _ a4 _ _ a5 a7 a8 f7 _ (y1 a3.out) (y2 a3.out) (y1 a2.out) (y2 a2.out) h5.out).mono ?_); rintro e m0 ⟨rfl, hb⟩; refine ⟨_, rfl, ?_⟩; replace a3 := ak (Kd.S_below (xS a3.out) hb); replace a2 := ak (Kd.Q_below (xQ a2.out) hb); replace a1 := ak (blk_below (g := a6) (o := .cells #[.slice d2 a4.length b8, .slice d3 a5.length b9] 26 (0, 0)) (xb a1.out) hb); replace HB := ak (below_step zd_0 hb); (try clear hb); (try clear hb2); (try clear hk); (try clear hi)))
  replace a3 := ak (Kd.S_drew a3.out)
  replace a2 := ak (Kd.Q_drew a2.out)
  replace a1 := ak (blk_drew a1.out)
  replace HB := ak (below_drew1 HB.out)
  refine start_ (n := 39) (S := fun w' => w'.cell? ⟨a6, 0, none⟩ = some (.slice d2 a4.length b8) ∧ w'.cell? ⟨a6, 1, none⟩ = some (.slice d3 a5.length b9)) (ds := []) (bA 39 0) zd_21 rfl rfl ⟨(blk_cell a1.out 0).trans rfl, (blk_cell a1.out 1).trans rfl⟩ (fun hHeld => ?_); refine with_tabW laws_FnApartOk.tab9 laws_FnApartOk.bits9 (fun HT_ HW_ => ?_)
  generalize m0.drew = n7 at a3 a2 a1 HB hHeld ⊢
  refine pu_ (i := 1) (N := some 37) (bA 39 2) ?_
  refine pu_ (i := 2) (N := some 38) (bA 39 6) ?_
  refine pu_ (i := 4) (N := some 40) (bA 39 22) ?_
  refine tk_ (i := 0) (N := some 36) (bA 39 23) ?_
  refine one_ (i := 3) (N := some 39) (bA 39 31) rfl rfl (one_of HT_.out zd_21) (by decide) (fun K hK => ?_)
  refine ge_ Try.func36 #[.agg #[.slice d2 a4.length b8, .slice d3 a5.length b9], .int .i64 a8, .int .i64 a7] ?_
  with_reducible refine (impl_ApartOk.calls _ _ a4 _ _ a5 a8 a7 f0 _ ?side1 ?side2 ?side3 ?side4 i2.out).mono ?_
  (case side1 => repeat (first | exact (Kd.S_reads' a3.out).2.2 | (with_reducible refine Kd.C_alloc ?_ _) | (with_reducible refine Kd.C_drewN ?_ _) | (with_reducible refine Kd.C_drew ?_)))
  (case side2 => exact (Kd.S_reads' a3.out).2.1)
  (case side3 => repeat (first | exact (Kd.Q_reads' a2.out).2.2 | (with_reducible refine Kd.C_alloc ?_ _) | (with_reducible refine Kd.C_drewN ?_ _) | (with_reducible refine Kd.C_drew ?_)))
  (case side4 => exact (Kd.Q_reads' a2.out).2.1)
  rintro e w' ⟨rfl, hb⟩
  refine ⟨_, rfl, ?_⟩
  replace a3 := ak (Kd.S_below (xS a3.out) hb)
  replace a2 := ak (Kd.Q_below (xQ a2.out) hb)
  replace a1 := ak (blk_below (g := a6) (o := .cells #[.slice d2 a4.length b8, .slice d3 a5.length b9] 26 (0, 0)) (xb a1.out) hb)
  replace HB := ak (below_step zd_0 hb)
  (try clear hb)
  (try clear hb2)
  (try clear hk)
  (try clear hi)
  refine hK.out _ _ ⟨(blk_cell a1.out 0).trans rfl, (blk_cell a1.out 1).trans rfl⟩ (fun hHeld => ?_)
  clear hK K
  refine no_ (N := some 39) ?_
  refine pu_ (i := 5) (N := some 41) (bA 39 63) ?_
  refine pu_ (i := 6) (N := some 42) (bA 39 127) ?_
  refine pu_ (i := 7) (N := some 43) (bA 39 255) ?_
  refine pu_ (i := 8) (N := some 44) (bA 39 511) ?_
  refine pu_ (i := 9) (N := some 45) (bA 39 1023) ?_
  refine of_ (i := 10) (N := some 46) (bA 39 2047) ?_
  refine of_ (i := 11) (N := some 47) (bA 39 4095) ?_
  refine of_ (i := 12) (N := some 48) (bA 39 8191) ?_
  refine of_ (i := 13) (N := some 49) (bA 39 16383) ?_
  refine of_ (i := 14) (N := some 50) (bA 39 32767) ?_
  refine of_ (i := 15) (N := some 51) (bA 39 65535) ?_
  refine of_ (i := 16) (N := some 52) (bA 39 131071) ?_
  refine pu_ (i := 17) (N := some 53) (bA 39 262143) ?_
  refine pu_ (i := 18) (N := some 54) (bA 39 524287) ?_
  refine pu_ (i := 19) (N := some 55) (bA 39 1048575) ?_
  refine pu_ (i := 21) (N := some 57) (bA 39 3145727) ?_
  refine pu_ (i := 23) (N := some 59) (bA 39 11534335) ?_
  refine tk_ (i := 20) (N := some 56) (bA 39 12582911) ?_
  refine tk_ (i := 22) (N := some 58) (bA 39 16777215) ?_
  refine one_ (i := 24) (N := some 60) (bA 39 33554431) rfl rfl (one_of HT_.out zd_21) (by decide) (fun K hK => ?_)
  refine ge_ Try.func29 #[.agg #[.slice d2 a4.length b8, .slice d3 a5.length b9], .int .i64 a7] ?_
  with_reducible refine (impl_NotOf.calls _ _ a4 _ _ a5 a7 g5 _ ?side1 ?side2 ?side3 ?side4 m4.out).mono ?_
  (case side1 => repeat (first | exact (Kd.S_reads' a3.out).2.2 | (with_reducible refine Kd.C_alloc ?_ _) | (with_reducible refine Kd.C_drewN ?_ _) | (with_reducible refine Kd.C_drew ?_)))
  (case side2 => exact (Kd.S_reads' a3.out).2.1)
  (case side3 => repeat (first | exact (Kd.Q_reads' a2.out).2.2 | (with_reducible refine Kd.C_alloc ?_ _) | (with_reducible refine Kd.C_drewN ?_ _) | (with_reducible refine Kd.C_drew ?_)))
  (case side4 => exact (Kd.Q_reads' a2.out).2.1)
  rintro e w' ⟨rfl, hb⟩
  refine ⟨_, rfl, ?_⟩
  replace a3 := ak (Kd.S_below (xS a3.out) hb)
  replace a2 := ak (Kd.Q_below (xQ a2.out) hb)
  replace a1 := ak (blk_below (g := a6) (o := .cells #[.slice d2 a4.length b8, .slice d3 a5.length b9] 26 (0, 0)) (xb a1.out) hb)
  replace HB := ak (below_step zd_0 hb)
  (try clear hb)
  (try clear hb2)
  (try clear hk)
  (try clear hi)
  refine hK.out _ _ ⟨(blk_cell a1.out 0).trans rfl, (blk_cell a1.out 1).trans rfl⟩ (fun hHeld => ?_)
  clear hK K
  refine no_ (N := some 60) ?_
  refine one_ (i := 25) (N := some 61) (bA 39 67108863) rfl rfl (one_of HT_.out zd_21) (by decide) (fun K hK => ?_)
  refine ge_ Try.func36 #[.agg #[.slice d2 a4.length b8, .slice d3 a5.length b9], .int .i64 a7, .int .i64 g5] ?_
  with_reducible refine (impl_ApartOk.calls _ _ a4 _ _ a5 a7 g5 false _ ?side1 ?side2 ?side3 ?side4 j1.out).mono ?_
  (case side1 => repeat (first | exact (Kd.S_reads' a3.out).2.2 | (with_reducible refine Kd.C_alloc ?_ _) | (with_reducible refine Kd.C_drewN ?_ _) | (with_reducible refine Kd.C_drew ?_)))
  (case side2 => exact (Kd.S_reads' a3.out).2.1)
  (case side3 => repeat (first | exact (Kd.Q_reads' a2.out).2.2 | (with_reducible refine Kd.C_alloc ?_ _) | (with_reducible refine Kd.C_drewN ?_ _) | (with_reducible refine Kd.C_drew ?_)))
  (case side4 => exact (Kd.Q_reads' a2.out).2.1)
  rintro e w' ⟨rfl, hb⟩
  refine ⟨_, rfl, ?_⟩
  replace a3 := ak (Kd.S_below (xS a3.out) hb)
  replace a2 := ak (Kd.Q_below (xQ a2.out) hb)
  replace a1 := ak (blk_below (g := a6) (o := .cells #[.slice d2 a4.length b8, .slice d3 a5.length b9] 26 (0, 0)) (xb a1.out) hb)
  replace HB := ak (below_step zd_0 hb)
  (try clear hb)
  (try clear hb2)
  (try clear hk)
  (try clear hi)
  refine hK.out _ _ ⟨(blk_cell a1.out 0).trans rfl, (blk_cell a1.out 1).trans rfl⟩ (fun hHeld => ?_)
  clear hK K
  refine no_ (N := some 61) ?_
  refine pu_ (i := 26) (N := some 62) (bA 39 134217727) ?_
  refine pu_ (i := 27) (N := some 63) (bA 39 268435455) ?_
  refine of_ (i := 28) (N := some 64) (bA 39 536870911) ?_
  refine of_ (i := 29) (N := some 65) (bA 39 1073741823) ?_
  refine of_ (i := 30) (N := some 66) (bA 39 2147483647) ?_
  refine of_ (i := 31) (N := some 67) (bA 39 4294967295) ?_
  refine of_ (i := 32) (N := some 68) (bA 39 8589934591) ?_
  refine of_ (i := 33) (N := some 69) (bA 39 17179869183) ?_
  refine of_ (i := 34) (N := some 70) (bA 39 34359738367) ?_
  refine of_ (i := 35) (N := some 71) (bA 39 68719476735) ?_
  refine of_ (i := 36) (N := some 72) (bA 39 137438953471) ?_
  refine pu_ (i := 37) (N := some 73) (bA 39 274877906943) ?_
  refine pu_ (i := 38) (N := some 2) (bA 39 549755813887) ?_
  refine done_ (done_of HT_.out zd_21) ?_
  try go_wp2
  go_ret
  exact ⟨zd_2, zd_0⟩
 have i6 : (f0 == d8) = false := by simpa using h2
 (try (have i7 : decide (f0 = d8) = false := by simpa using h2))
 (try (have i8 : (f0 == d8) = false := by simpa using h2))
 (try (have m5 : ¬ (f0 = d8) := by simpa using h2))
 clear h2
 obtain rfl := Option.some.inj H
 go_enter Try.func9, Try.ntmps9
 try go_wp2_with (first | ((with_reducible refine gate_callee (f := 35) rfl ?_); refine gl_ (some 12) Try.func35 #[.slice A0 l0.length c0] ?_; (with_reducible refine (spec_DrawApartOk.calls k _ _ l0 a4 a5 a7 a8 _ (y4 HR0.out) h3.out A3.out).mono ?_); rintro e w' ⟨g6, g7, rfl, ho0, ho1, hb⟩; refine ⟨_, rfl, ?_⟩; have a3 := ak (Kd.S_lower ho0 (below_size zd_1)); have a2 := ak (Kd.Q_lower ho1 (below_size zd_1)); replace HB := ak (below_step zd_1 hb); (try clear hb); (try clear hb2); (try clear hk); (try clear hi); (try clear ho0); (try clear ho1)) | ((with_reducible refine gate_dst (N := 3) rfl ?_); refine bx_ (N := 3) (cs := #[.slice none 0 0, .slice none 0 0]) (t := 26) ?_; intro a6 hg n8 hbox hb; replace a3 := ak (Kd.S_below (xS a3.out) hb); replace a2 := ak (Kd.Q_below (xQ a2.out) hb); have a1 := ak (hbox); have f2 := ak ((by rw [hg]; exact (below_size zd_1) : w.heap.size ≤ a6)); have f1 := ak ((by rw [hg]; exact (below_size zd_1) : w.heap.size ≤ a6)); replace HB := ak (below_step zd_1 hb); clear hb hbox hg; obtain ⟨e3, e1, j6⟩ := Kd.S_slice a3.out; subst j6; have b0 := cz20 a1.out; have b1 := cz21 a1.out; have b2 := blk_frozen a1.out 0; have b3 := blk_frozen a1.out 1; obtain ⟨e4, e2, j7, _⟩ := Kd.Q_slice a2.out; subst j7) | ((with_reducible refine gate_callee (f := 36) rfl ?_); refine gl_ (some 19) Try.func36 #[.agg #[.slice e3 a4.length e1, .slice e4 a5.length e2], .int .i64 a7, .int .i64 a8] ?_; (with_reducible refine (impl_ApartOk.calls _ _ a4 _ _ a5 a7 a8 d8 _ (by refine (Kd.S_reads' (e := 24) (base := w.heap.size) (ok := fun k_ => some k_ ≠ (.slice e4 a5.length e2 : Value).ownBlock) (n := a4.length) (c := e1) ?_).2.2; exact zd_3) (y2 a3.out) (by refine (Kd.Q_reads' (e := 3) (base := w.heap.size) (ok := fun k_ => True) (n := a5.length) (c := e2) ?_).2.2; exact zd_6) (y2 a2.out) A4.out).mono ?_); rintro e w' ⟨rfl, hb⟩; refine ⟨_, rfl, ?_⟩; replace a3 := ak (Kd.S_below zd_3 hb); replace a2 := ak (Kd.Q_below zd_6 hb); replace a1 := ak (blk_below (g := a6) (o := .cells #[.slice e3 a4.length e1, .slice e4 a5.length e2] 26 (0, 0)) (by (with_reducible repeat (first | refine blk_drewN ?_ _ | refine blk_drew ?_ | refine blk_alloc ?_ _)); refine blk_put (cs := #[.slice e3 a4.length e1, .slice none 0 0]) ?_ 1 _ rfl; (with_reducible repeat (first | refine blk_drewN ?_ _ | refine blk_drew ?_ | refine blk_alloc ?_ _)); refine blk_put (cs := #[.slice none 0 0, .slice none 0 0]) ?_ 0 _ rfl; (with_reducible repeat (first | refine blk_drewN ?_ _ | refine blk_drew ?_ | refine blk_alloc ?_ _)); exact a1.out) hb); replace HB := ak (below_step zd_0 hb); (try clear hb); (try clear hb2); (try clear hk); (try clear hi); have b0 := cz20 a1.out; have b1 := cz21 a1.out; have b2 := blk_frozen a1.out 0; have b3 := blk_frozen a1.out 1) | ((with_reducible refine gate_callee (f := 37) rfl ?_); refine gl_ (some 24) Try.func37 #[.agg #[.slice e3 a4.length e1, .slice e4 a5.length e2], .int .i64 a7, .int .i64 a8] ?_; (with_reducible refine (spec_ApartOk.calls k _ _ a4 _ _ a5 a7 a8 e5 _ (y1 a3.out) (y2 a3.out) (y1 a2.out) (y2 a2.out) A5.out).mono ?_); rintro e w' ⟨rfl, hb⟩; refine ⟨_, rfl, ?_⟩; replace a3 := ak (Kd.S_below (xS a3.out) hb); replace a2 := ak (Kd.Q_below (xQ a2.out) hb); replace a1 := ak (blk_below (g := a6) (o := .cells #[.slice e3 a4.length e1, .slice e4 a5.length e2] 26 (0, 0)) (xb a1.out) hb); replace HB := ak (below_step zd_0 hb); (try clear hb); (try clear hb2); (try clear hk); (try clear hi); have b0 := cz20 a1.out; have b1 := cz21 a1.out; have b2 := blk_frozen a1.out 0; have b3 := blk_frozen a1.out 1) | ((with_reducible refine gate_callee (f := 28) rfl ?_); refine gl_ (some 29) Try.func28 #[.agg #[.slice e3 a4.length e1, .slice e4 a5.length e2], .int .i64 a7, .int .i64 a8] ?_; (with_reducible refine (spec_AndOf.calls k _ _ a4 _ _ a5 a7 a8 f7 _ (y1 a3.out) (y2 a3.out) (y1 a2.out) (y2 a2.out) h5.out).mono ?_); rintro e m1 ⟨rfl, hb⟩; refine ⟨_, rfl, ?_⟩; replace a3 := ak (Kd.S_below (xS a3.out) hb); replace a2 := ak (Kd.Q_below (xQ a2.out) hb); replace a1 := ak (blk_below (g := a6) (o := .cells #[.slice e3 a4.length e1, .slice e4 a5.length e2] 26 (0, 0)) (xb a1.out) hb); replace HB := ak (below_step zd_0 hb); (try clear hb); (try clear hb2); (try clear hk); (try clear hi)))
 replace a3 := ak (Kd.S_drew a3.out)
 replace a2 := ak (Kd.Q_drew a2.out)
 replace a1 := ak (blk_drew a1.out)
 replace HB := ak (below_drew1 HB.out)
 refine start_ (n := 39) (S := fun w' => w'.cell? ⟨a6, 0, none⟩ = some (.slice e3 a4.length e1) ∧ w'.cell? ⟨a6, 1, none⟩ = some (.slice e4 a5.length e2)) (ds := []) (bA 39 0) zd_21 rfl rfl ⟨(blk_cell a1.out 0).trans rfl, (blk_cell a1.out 1).trans rfl⟩ (fun hHeld => ?_); refine with_tabW laws_FnApartOk.tab9 laws_FnApartOk.bits9 (fun HT_ HW_ => ?_)
 generalize m1.drew = n9 at a3 a2 a1 HB hHeld ⊢
 refine pu_ (i := 1) (N := some 37) (bA 39 2) ?_
 refine pu_ (i := 2) (N := some 38) (bA 39 6) ?_
 refine pu_ (i := 4) (N := some 40) (bA 39 22) ?_
 refine tk_ (i := 0) (N := some 36) (bA 39 23) ?_
 refine one_ (i := 3) (N := some 39) (bA 39 31) rfl rfl (one_of HT_.out zd_21) (by decide) (fun K hK => ?_)
 refine ge_ Try.func36 #[.agg #[.slice e3 a4.length e1, .slice e4 a5.length e2], .int .i64 a8, .int .i64 a7] ?_
 with_reducible refine (impl_ApartOk.calls _ _ a4 _ _ a5 a8 a7 f0 _ ?side1 ?side2 ?side3 ?side4 i2.out).mono ?_
 (case side1 => repeat (first | exact (Kd.S_reads' a3.out).2.2 | (with_reducible refine Kd.C_alloc ?_ _) | (with_reducible refine Kd.C_drewN ?_ _) | (with_reducible refine Kd.C_drew ?_)))
 (case side2 => exact (Kd.S_reads' a3.out).2.1)
 (case side3 => repeat (first | exact (Kd.Q_reads' a2.out).2.2 | (with_reducible refine Kd.C_alloc ?_ _) | (with_reducible refine Kd.C_drewN ?_ _) | (with_reducible refine Kd.C_drew ?_)))
 (case side4 => exact (Kd.Q_reads' a2.out).2.1)
 rintro e w' ⟨rfl, hb⟩
 refine ⟨_, rfl, ?_⟩
 replace a3 := ak (Kd.S_below (xS a3.out) hb)
 replace a2 := ak (Kd.Q_below (xQ a2.out) hb)
 replace a1 := ak (blk_below (g := a6) (o := .cells #[.slice e3 a4.length e1, .slice e4 a5.length e2] 26 (0, 0)) (xb a1.out) hb)
 replace HB := ak (below_step zd_0 hb)
 (try clear hb)
 (try clear hb2)
 (try clear hk)
 (try clear hi)
 refine hK.out _ _ ⟨(blk_cell a1.out 0).trans rfl, (blk_cell a1.out 1).trans rfl⟩ (fun hHeld => ?_)
 clear hK K
 refine no_ (N := some 39) ?_
 refine pu_ (i := 5) (N := some 41) (bA 39 63) ?_
 refine pu_ (i := 6) (N := some 42) (bA 39 127) ?_
 refine of_ (i := 7) (N := some 43) (bA 39 255) ?_
 refine of_ (i := 8) (N := some 44) (bA 39 511) ?_
 refine of_ (i := 9) (N := some 45) (bA 39 1023) ?_
 refine of_ (i := 10) (N := some 46) (bA 39 2047) ?_
 refine of_ (i := 11) (N := some 47) (bA 39 4095) ?_
 refine of_ (i := 12) (N := some 48) (bA 39 8191) ?_
 refine of_ (i := 13) (N := some 49) (bA 39 16383) ?_
 refine of_ (i := 14) (N := some 50) (bA 39 32767) ?_
 refine of_ (i := 15) (N := some 51) (bA 39 65535) ?_
 refine of_ (i := 16) (N := some 52) (bA 39 131071) ?_
 refine of_ (i := 17) (N := some 53) (bA 39 262143) ?_
 refine pu_ (i := 18) (N := some 54) (bA 39 524287) ?_
 refine pu_ (i := 19) (N := some 55) (bA 39 1048575) ?_
 refine of_ (i := 20) (N := some 56) (bA 39 2097151) ?_
 refine of_ (i := 21) (N := some 57) (bA 39 4194303) ?_
 refine of_ (i := 22) (N := some 58) (bA 39 8388607) ?_
 refine of_ (i := 23) (N := some 59) (bA 39 16777215) ?_
 refine of_ (i := 24) (N := some 60) (bA 39 33554431) ?_
 refine of_ (i := 25) (N := some 61) (bA 39 67108863) ?_
 refine pu_ (i := 26) (N := some 62) (bA 39 134217727) ?_
 refine pu_ (i := 27) (N := some 63) (bA 39 268435455) ?_
 refine of_ (i := 28) (N := some 64) (bA 39 536870911) ?_
 refine of_ (i := 29) (N := some 65) (bA 39 1073741823) ?_
 refine of_ (i := 30) (N := some 66) (bA 39 2147483647) ?_
 refine of_ (i := 31) (N := some 67) (bA 39 4294967295) ?_
 refine of_ (i := 32) (N := some 68) (bA 39 8589934591) ?_
 refine of_ (i := 33) (N := some 69) (bA 39 17179869183) ?_
 refine of_ (i := 34) (N := some 70) (bA 39 34359738367) ?_
 refine of_ (i := 35) (N := some 71) (bA 39 68719476735) ?_
 refine of_ (i := 36) (N := some 72) (bA 39 137438953471) ?_
 refine pu_ (i := 37) (N := some 73) (bA 39 274877906943) ?_
 refine pu_ (i := 38) (N := some 2) (bA 39 549755813887) ?_
 refine done_ (done_of HT_.out zd_21) ?_
 try go_wp2
 go_ret
 exact ⟨zd_2, zd_0⟩

theorem laws_FnApartOk.walk (P : laws_FnApartOk.Pure) (a0 : Option Addr) (len0 cap0 : Nat) (z0 : List Int) (w : World) (w0 : (a0 = none ∧ len0 = 0 ∧ cap0 = 0 ∧ z0 = []) ∨ ∃ x, a0 = some x ∧ len0 ≤ cap0 ∧ cap0 ≤ maxLen ∧ z0.length = cap0 ∧ (∀ i, i < z0.length → w.cell? (x.add i) = some (.int .u8 (z0.getD i 0))) ∧ ∀ n ∈ z0, (Lit.int .u8 n).wf = true) (y0 : len0 * 1 ≤ 140737488351232) :
 Calls Try.prog 9 #[.slice a0 len0 cap0] w fun e w' => e = .returned (.bool true) ∧ Below w.heap.size w w' := by
 obtain ⟨l0, rfl, hr0, hm0, hw0, hc0⟩ := ReadsInt.ofRowC w0
 obtain ⟨k, h⟩ := P l0 hm0 y0 hw0
 refine (laws_FnApartOk.calls k _ _ l0 true w (Kd.C_of_reads (d := (0 : Int)) (h1 := fun _ => rfl) hr0) hc0 h).mono ?_
 rintro e w' ⟨rfl, hd⟩
 exact ⟨rfl, hd⟩

end Go.Proofs.Ytjgfpiilfnchnaa.P
