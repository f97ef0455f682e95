-- written by gen.py (a program of this session) out of the kit's print of this seat's translation
import Derived.Test.YtacifhahfamipaaPk2
import Derived.Test.YtacifhahfamipaaFSpecDrawSubOk
import Derived.Test.YtacifhahfamipaaPk4
import Derived.Test.YtacifhahfamipaaFSpecNoOf
import Derived.Test.YtacifhahfamipaaFSpecSubOk
import Derived.Test.YtacifhahfamipaaFSpecYesOf
import Derived.Test.YtacifhahfamipaaPk6
namespace Go.Proofs.Ytacifhahfamipaa.P
open Go.RowKit Go.Proofs.YtacifhahfamipaaW.PrintWords Go.Proofs.YtacifhahfamipaaW.PrintLast Go.Proofs.YtacifhahfamipaaW.PrintMore
attribute [local go_sem] max2_int min2_int max_two min_two max_three min_three max_four min_four
set_option linter.unusedVariables false
set_option linter.unusedSimpArgs false
def laws_FnSubOk.T9 : Bool × List (List Nat × List Nat) := (true, [([], []), ([0], [0]), ([1], [1]), ([], []), ([3, 1], [3]), ([4], [4]), ([2, 5], [2, 5]), ([6, 4, 0, 1, 2, 3, 4, 5, 6], [6])])
def laws_FnSubOk.B9 : List Nat := [0, 1, 3, 0, 11, 27, 63, 127]
theorem laws_FnSubOk.tab9 : rtab .any (opsOf Try.f7 9) = laws_FnSubOk.T9 := by kernel_rfl
theorem laws_FnSubOk.bits9 : waitsOk laws_FnSubOk.T9.2 laws_FnSubOk.B9 = true := by kernel_rfl
def laws_FnSubOk.T10 : Bool × List (List Nat × List Nat) := (true, [([], []), ([0], [0]), ([1], [1]), ([2], [2]), ([2], [2]), ([3, 4, 2], [2, 3, 4]), ([2], [2]), ([5, 6, 2], [2, 5, 6]), ([2, 7], [2, 7]), ([8, 2], [8]), ([9], [9]), ([9], [9]), ([10, 11, 9, 9], [9, 10, 11]), ([9, 12], [9, 12]), ([13, 12], [13]), ([14], [14]), ([14], [14]), ([16, 14], [14, 16]), ([17, 14], [14, 17]), ([18, 14], [14, 18]), ([19, 14], [14, 19]), ([15, 20, 14, 14], [14, 15, 20]), ([14, 21], [14, 21]), ([22, 21, 0, 1, 2, 3, 4, 5, 6, 7, 8, 9, 10, 11, 12, 13, 14, 15, 16, 17, 18, 19, 20, 21, 22], [22])])
def laws_FnSubOk.B10 : List Nat := [0, 1, 3, 7, 7, 31, 7, 127, 255, 511, 1023, 1023, 4095, 8191, 16383, 32767, 32767, 98303, 229375, 491519, 1015807, 2097151, 4194303, 8388607]
theorem laws_FnSubOk.tab10 : rtab .any (opsOf Try.f7 10) = laws_FnSubOk.T10 := by kernel_rfl
theorem laws_FnSubOk.bits10 : waitsOk laws_FnSubOk.T10.2 laws_FnSubOk.B10 = true := by kernel_rfl
theorem zi_21 {p : Prop} (h : p := by first | rfl | (simp [errW_none, errW_some] <;> rfl) | (simp [*, errW_none, errW_some] <;> rfl)) : p := h
theorem zi_20 {p : Prop} (h : p := by kernel_rfl) : p := h
theorem zi_19 {p : Prop} (h : p := by (with_reducible repeat (first | apply Kd.Q_alloc | apply Kd.Q_drewN | apply Kd.Q_drew)); exact (Kd.Q_mono (Kd.Q_far (p := ⟨a6, 1, none⟩) (Kd.Q_far (p := ⟨a6, 0, none⟩) (Kd.Q_types a2.out a1.out (by decide)) (fun _ hk => hk.2) (.slice h2 a5.length g8)) (fun _ hk => hk.2) (.slice g1 a4.length g0)) (fun _ h_ => h_.1))) : p := h
theorem zi_18 {p : Prop} (h : p := by (with_reducible repeat (first | apply Kd.S_alloc | apply Kd.S_drewN | apply Kd.S_drew)); exact (Kd.S_mono (Kd.S_far (p := ⟨a6, 1, none⟩) (Kd.S_far (p := ⟨a6, 0, none⟩) (Kd.S_types a3.out a1.out (by decide)) (fun _ hk => hk.2) (.slice h2 a5.length g8)) (fun _ hk => hk.2) (.slice g1 a4.length g0)) (fun _ h_ => h_.1))) : p := h
theorem zi_17 {p : Prop} (h : p := by (with_reducible repeat (first | apply Kd.Q_alloc | apply Kd.Q_drewN | apply Kd.Q_drew)); exact (Kd.Q_mono (Kd.Q_far (p := ⟨a6, 1, none⟩) (Kd.Q_far (p := ⟨a6, 0, none⟩) (Kd.Q_types a2.out a1.out (by decide)) (fun _ hk => hk.2) (.slice b9 a5.length b5)) (fun _ hk => hk.2) (.slice d0 a4.length b6)) (fun _ h_ => h_.1))) : p := h
theorem zi_16 {p : Prop} (h : p := by (with_reducible repeat (first | apply Kd.Q_alloc | apply Kd.Q_drewN | apply Kd.Q_drew)); exact (Kd.Q_mono (Kd.Q_far (p := ⟨a6, 1, none⟩) (Kd.Q_far (p := ⟨a6, 0, none⟩) (Kd.Q_types a2.out a1.out (by decide)) (fun _ hk => hk.2) (.slice d7 a5.length d3)) (fun _ hk => hk.2) (.slice d8 a4.length d4)) (fun _ h_ => h_.1))) : p := h
theorem zi_15 {p : Prop} (h : p := by (with_reducible repeat (first | apply Kd.Q_alloc | apply Kd.Q_drewN | apply Kd.Q_drew)); exact (Kd.Q_mono (Kd.Q_far (p := ⟨a6, 1, none⟩) (Kd.Q_far (p := ⟨a6, 0, none⟩) (Kd.Q_types a2.out a1.out (by decide)) (fun _ hk => hk.2) (.slice e8 a5.length e6)) (fun _ hk => hk.2) (.slice e9 a4.length e7)) (fun _ h_ => h_.1))) : p := h
theorem zi_14 {p : Prop} (h : p := by (with_reducible repeat (first | apply Kd.Q_alloc | apply Kd.Q_drewN | apply Kd.Q_drew)); exact (Kd.Q_mono (Kd.Q_far (p := ⟨a6, 1, none⟩) (Kd.Q_far (p := ⟨a6, 0, none⟩) (Kd.Q_types a2.out a1.out (by decide)) (fun _ hk => hk.2) (.slice d1 a5.length b7)) (fun _ hk => hk.2) (.slice d2 a4.length b8)) (fun _ h_ => h_.1))) : p := h
theorem zi_13 {p : Prop} (h : p := by (with_reducible repeat (first | apply Kd.Q_alloc | apply Kd.Q_drewN | apply Kd.Q_drew)); exact (Kd.Q_mono (Kd.Q_far (p := ⟨a6, 1, none⟩) (Kd.Q_far (p := ⟨a6, 0, none⟩) (Kd.Q_types a2.out a1.out (by decide)) (fun _ hk => hk.2) (.slice d9 a5.length d5)) (fun _ hk => hk.2) (.slice e0 a4.length d6)) (fun _ h_ => h_.1))) : p := h
theorem zi_12 {p : Prop} (h : p := by (with_reducible repeat (first | apply Kd.S_alloc | apply Kd.S_drewN | apply Kd.S_drew)); exact (Kd.S_mono (Kd.S_far (p := ⟨a6, 1, none⟩) (Kd.S_far (p := ⟨a6, 0, none⟩) (Kd.S_types a3.out a1.out (by decide)) (fun _ hk => hk.2) (.slice b9 a5.length b5)) (fun _ hk => hk.2) (.slice d0 a4.length b6)) (fun _ h_ => h_.1))) : p := h
theorem zi_11 {p : Prop} (h : p := by (with_reducible repeat (first | apply Kd.S_alloc | apply Kd.S_drewN | apply Kd.S_drew)); exact (Kd.S_mono (Kd.S_far (p := ⟨a6, 1, none⟩) (Kd.S_far (p := ⟨a6, 0, none⟩) (Kd.S_types a3.out a1.out (by decide)) (fun _ hk => hk.2) (.slice d7 a5.length d3)) (fun _ hk => hk.2) (.slice d8 a4.length d4)) (fun _ h_ => h_.1))) : p := h
theorem zi_10 {p : Prop} (h : p := by (with_reducible repeat (first | apply Kd.S_alloc | apply Kd.S_drewN | apply Kd.S_drew)); exact (Kd.S_mono (Kd.S_far (p := ⟨a6, 1, none⟩) (Kd.S_far (p := ⟨a6, 0, none⟩) (Kd.S_types a3.out a1.out (by decide)) (fun _ hk => hk.2) (.slice e8 a5.length e6)) (fun _ hk => hk.2) (.slice e9 a4.length e7)) (fun _ h_ => h_.1))) : p := h
theorem zi_9 {p : Prop} (h : p := by (with_reducible repeat (first | apply Kd.S_alloc | apply Kd.S_drewN | apply Kd.S_drew)); exact (Kd.S_mono (Kd.S_far (p := ⟨a6, 1, none⟩) (Kd.S_far (p := ⟨a6, 0, none⟩) (Kd.S_types a3.out a1.out (by decide)) (fun _ hk => hk.2) (.slice d1 a5.length b7)) (fun _ hk => hk.2) (.slice d2 a4.length b8)) (fun _ h_ => h_.1))) : p := h
theorem zi_8 {p : Prop} (h : p := by (with_reducible repeat (first | apply Kd.S_alloc | apply Kd.S_drewN | apply Kd.S_drew)); exact (Kd.S_mono (Kd.S_far (p := ⟨a6, 1, none⟩) (Kd.S_far (p := ⟨a6, 0, none⟩) (Kd.S_types a3.out a1.out (by decide)) (fun _ hk => hk.2) (.slice d9 a5.length d5)) (fun _ hk => hk.2) (.slice e0 a4.length d6)) (fun _ h_ => h_.1))) : p := h
theorem zi_7 {p : Prop} (h : p := by (with_reducible repeat (first | apply Kd.Q_alloc | apply Kd.Q_drewN | apply Kd.Q_drew)); exact (Kd.Q_mono (Kd.Q_far (p := ⟨a6, 1, none⟩) (Kd.Q_far (p := ⟨a6, 0, none⟩) (Kd.Q_types a2.out a1.out (by decide)) (fun _ hk => hk.2) (.slice f0 a5.length e2)) (fun _ hk => hk.2) (.slice f1 a4.length e3)) (fun _ h_ => h_.1))) : p := h
theorem zi_6 {p : Prop} (h : p := by (with_reducible repeat (first | apply Kd.Q_alloc | apply Kd.Q_drewN | apply Kd.Q_drew)); exact (Kd.Q_mono (Kd.Q_far (p := ⟨a6, 1, none⟩) (Kd.Q_far (p := ⟨a6, 0, none⟩) (Kd.Q_types a2.out a1.out (by decide)) (fun _ hk => hk.2) (.slice f2 a5.length e4)) (fun _ hk => hk.2) (.slice f3 a4.length e5)) (fun _ h_ => h_.1))) : p := h
theorem zi_5 {p : Prop} (h : p := by (with_reducible repeat (first | apply Kd.S_alloc | apply Kd.S_drewN | apply Kd.S_drew)); exact (Kd.S_mono (Kd.S_far (p := ⟨a6, 1, none⟩) (Kd.S_far (p := ⟨a6, 0, none⟩) (Kd.S_types a3.out a1.out (by decide)) (fun _ hk => hk.2) (.slice f0 a5.length e2)) (fun _ hk => hk.2) (.slice f1 a4.length e3)) (fun _ h_ => h_.1))) : p := h
theorem zi_4 {p : Prop} (h : p := by (with_reducible repeat (first | apply Kd.S_alloc | apply Kd.S_drewN | apply Kd.S_drew)); exact (Kd.S_mono (Kd.S_far (p := ⟨a6, 1, none⟩) (Kd.S_far (p := ⟨a6, 0, none⟩) (Kd.S_types a3.out a1.out (by decide)) (fun _ hk => hk.2) (.slice f2 a5.length e4)) (fun _ hk => hk.2) (.slice f3 a4.length e5)) (fun _ h_ => h_.1))) : p := h
theorem zi_3 {p : Prop} (h : p := by first | rfl | (simp [errW_none, errW_some] <;> rfl) | (simp only [← hji19, ← hji22]; first | rfl | (simp [errW_none, errW_some] <;> rfl)) | (simp [*, errW_none, errW_some] <;> rfl)) : p := h
theorem zi_2 {p : Prop} (h : p := by (try simp only [List.map_toArray, List.map_cons, List.map_nil]); first | done | (simp only [hji19, hji22]; rfl) | rfl | (simp only [List.length_drop, List.length_take]; rfl)) : p := h
theorem zi_1 {p : Prop} (h : p := by repeat (first | (with_reducible first | exact HB.out | apply below_alloc | apply pw_below_drewN | apply below_drew1) | exact HB.out)) : p := h
theorem zi_0 {p : Prop} (h : p := by repeat (first | (with_reducible first | exact HB.out | apply below_alloc | apply pw_below_drewN | apply below_drew1 | refine below_set ?_ f5.out) | exact HB.out)) : p := h
set_option maxHeartbeats 8000000 in
set_option maxRecDepth 100000 in
theorem laws_FnSubOk.calls (k : Nat) (A0 : Option Addr) (c0 : Nat) (l0 : List Int) (r : Bool) (w : World) (hr0 : Kd.C (Kd.int .u8) w A0 l0.length l0) (hc0 : l0.length ≤ c0) (h : laws_FnSubOk.f k l0 = some r) :
 Calls Try.prog 7 #[.slice A0 l0.length c0] w fun e w' => e = .returned (.bool r) ∧ Below w.heap.size w w' := by
 have hu27 := Try.underlying27
 have HR0 := ak hr0
 have g9 := ak hc0
 clear hr0 hc0
 have HB := ak (Below.refl w.heap.size w)
 have H : (if (l0.length : Int) > 1048576 then (some true) else ((spec_DrawSubOk.f k l0).bind fun a8 => ((impl_SubOk.f a8.1 a8.2.1 a8.2.2).bind fun f4 => ((spec_SubOk.f k a8.1 a8.2.1 a8.2.2).bind fun e1 => (if (f4 != e1) = true then (some false) else ((spec_LogicOk.f k a8.1 a8.2.1).bind fun h4 => (if h4 = true then ((spec_NoOf.f k a8.1 a8.2.1).bind fun b4 => (if 0 ≤ b4 then ((spec_YesOf.f k a8.1 a8.2.1).bind fun b3 => (if 0 ≤ b3 then (if f4 = true then (if (Go.bits .and .i64 a8.2.2 (Go.bits .or .i64 (shl .i64 1 b4) (shl .i64 1 b3))) = (Go.bits .or .i64 (shl .i64 1 b4) (shl .i64 1 b3)) then ((impl_SubOk.f a8.1 a8.2.1 (Go.bits .or .i64 (shl .i64 1 b4) (shl .i64 1 b3))).bind fun g4 => (if g4 = true then ((impl_SubOk.f a8.1 a8.2.1 (wrap64 ((shl .i64 1 (a8.2.1.length : Int)) - 1))).bind fun f8 => (some f8)) else (some false))) else (some false)) else ((impl_SubOk.f a8.1 a8.2.1 (Go.bits .or .i64 (shl .i64 1 b4) (shl .i64 1 b3))).bind fun g5 => (if g5 = true then ((impl_SubOk.f a8.1 a8.2.1 (wrap64 ((shl .i64 1 (a8.2.1.length : Int)) - 1))).bind fun f9 => (some f9)) else (some false)))) else (none))) else (none))) else (if f4 = true then (some false) else ((laws_alive.f k).bind fun h3 => (some h3)))))))))) = some r := h
 clear h
 replace H := op_ H
 rcases H with ⟨c2, H⟩ | ⟨c2, H⟩
 ·
  have i1 : decide (1048576 < (l0.length : Int)) = true := dT_ c2
  have i2 : decide (1048576 < l0.length) = true := dT_ (by omega)
  clear c2
  obtain rfl := Option.some.inj H
  go_enter Try.func7, Try.ntmps7
  go_wp2
  go_ret
  exact ⟨zi_21, zi_1⟩
 have i1 : decide (1048576 < (l0.length : Int)) = false := dF_ c2
 have i2 : decide (1048576 < l0.length) = false := dF_ (by omega)
 clear c2
 replace H := bd_ H
 obtain ⟨⟨a5, a4, a7⟩, A3, H⟩ := H
 try dsimp only at H
 replace H := bd_ H
 obtain ⟨f4, A4, H⟩ := H
 replace H := bd_ H
 obtain ⟨e1, A5, H⟩ := H
 try dsimp only at H
 replace H := op_ H
 rcases H with ⟨c6, H⟩ | ⟨c6, H⟩
 ·
  have i3 : (f4 != e1) = true := c6
  (try (have i4 : decide (f4 = e1) = false := by simpa using c6))
  (try (have i5 : (f4 == e1) = false := by simpa using c6))
  (try (have k8 : ¬ (f4 = e1) := by simpa using c6))
  clear c6
  obtain rfl := Option.some.inj H
  go_enter Try.func7, Try.ntmps7
  go_wp2_with (first | ((with_reducible refine gate_callee (f := 35) rfl ?_); refine gl_ (some 12) Try.func35 #[.slice A0 l0.length c0] ?_; (with_reducible refine (spec_DrawSubOk.calls k _ _ l0 a5 a4 a7 _ (y4 HR0.out) g9.out A3.out).mono ?_); rintro e w' ⟨g2, g3, rfl, ho0, ho1, hb⟩; refine ⟨_, rfl, ?_⟩; have a3 := ak (Kd.S_lower ho0 (below_size zi_1)); have a2 := ak (Kd.Q_lower ho1 (below_size zi_1)); replace HB := ak (below_step zi_1 hb); (try clear hb); (try clear hb2); (try clear hk); (try clear hi); (try clear ho0); (try clear ho1)) | ((with_reducible refine gate_dst (N := 3) rfl ?_); (try (refine gate_guard (by rfl) ?_; dsimp only)); refine box_event ?hg (N := 3) ?hd (cs := #[.slice none 0 0, .slice none 0 0]) (t := 27) ?hr ?_; (case hd => rfl); (case hg => rfl); (case hr => first | (go_simp; done) | (go_simp; rfl)); intro a6 hg w8 hbox hb; replace a3 := ak (Kd.S_below (xS a3.out) hb); replace a2 := ak (Kd.Q_below (xQ a2.out) hb); have a1 := ak (hbox); have f6 := ak ((by rw [hg]; exact (below_size zi_1) : w.heap.size ≤ a6)); have f5 := ak ((by rw [hg]; exact (below_size zi_1) : w.heap.size ≤ a6)); replace HB := ak (below_step zi_1 hb); clear hb hbox hg; obtain ⟨h2, g8, k9⟩ := Kd.S_slice a3.out; subst k9; have a9 := cz20 a1.out; have b0 := cz21 a1.out; have b1 := blk_frozen a1.out 0; have b2 := blk_frozen a1.out 1; obtain ⟨g1, g0, i6, _⟩ := Kd.Q_slice a2.out; subst i6) | ((with_reducible refine gate_callee (f := 34) rfl ?_); refine gl_ (some 17) Try.func34 #[.agg #[.slice h2 a5.length g8, .slice g1 a4.length g0], .int .i64 a7] ?_; (with_reducible refine (impl_SubOk.calls _ _ a5 _ _ a4 a7 f4 _ (by refine (Kd.S_reads' (e := 25) (base := w.heap.size) (ok := fun k_ => some k_ ≠ (.slice g1 a4.length g0 : Value).ownBlock) (n := a5.length) (c := g8) ?_).2.2; exact zi_18) (y2 a3.out) (by refine (Kd.Q_reads' (e := 3) (base := w.heap.size) (ok := fun k_ => True) (n := a4.length) (c := g0) ?_).2.2; exact zi_19) (y2 a2.out) A4.out).mono ?_); rintro e w' ⟨rfl, hb⟩; refine ⟨_, rfl, ?_⟩; replace a3 := ak (Kd.S_below zi_18 hb); replace a2 := ak (Kd.Q_below zi_19 hb); replace a1 := ak (blk_below (g := a6) (o := .cells #[.slice h2 a5.length g8, .slice g1 a4.length g0] 27 (0, 0)) (by (with_reducible repeat (first | refine blk_drewN ?_ _ | refine blk_drew ?_ | refine blk_alloc ?_ _)); refine blk_put (cs := #[.slice h2 a5.length g8, .slice none 0 0]) ?_ 1 _ rfl; (with_reducible repeat (first | refine blk_drewN ?_ _ | refine blk_drew ?_ | refine blk_alloc ?_ _)); refine blk_put (cs := #[.slice none 0 0, .slice none 0 0]) ?_ 0 _ rfl; (with_reducible repeat (first | refine blk_drewN ?_ _ | refine blk_drew ?_ | refine blk_alloc ?_ _)); exact a1.out) hb); replace HB := ak (below_step zi_0 hb); (try clear hb); (try clear hb2); (try clear hk); (try clear hi); have a9 := cz20 a1.out; have b0 := cz21 a1.out; have b1 := blk_frozen a1.out 0; have b2 := blk_frozen a1.out 1) | ((with_reducible refine gate_callee (f := 36) rfl ?_); refine gl_ (some 21) Try.func36 #[.agg #[.slice h2 a5.length g8, .slice g1 a4.length g0], .int .i64 a7] ?_; (with_reducible refine (spec_SubOk.calls k _ _ a5 _ _ a4 a7 e1 _ (y1 a3.out) (y2 a3.out) (y1 a2.out) (y2 a2.out) A5.out).mono ?_); rintro e w' ⟨rfl, hb⟩; refine ⟨_, rfl, ?_⟩; replace a3 := ak (Kd.S_below (xS a3.out) hb); replace a2 := ak (Kd.Q_below (xQ a2.out) hb); replace a1 := ak (blk_below (g := a6) (o := .cells #[.slice h2 a5.length g8, .slice g1 a4.length g0] 27 (0, 0)) (xb a1.out) hb); replace HB := ak (below_step zi_0 hb); (try clear hb); (try clear hb2); (try clear hk); (try clear hi)))
  go_ret
  exact ⟨zi_21, zi_0⟩
 have i3 : (f4 != e1) = false := by simpa using c6
 (try (have i4 : decide (f4 = e1) = true := by simpa using c6))
 (try (have i5 : (f4 == e1) = true := by simpa using c6))
 clear c6
 replace H := bd_ H
 obtain ⟨h4, g6, H⟩ := H
 try dsimp only at H
 replace H := ox_ H
 rcases H with ⟨rfl, H⟩ | ⟨rfl, H⟩
 ·
  replace H := bd_ H
  obtain ⟨b4, g7, H⟩ := H
  replace H := ok_ H
  obtain ⟨i7, H⟩ := H
  have k4 := eq_true i7
  have k5 : decide (0 ≤ b4) = true := dT_ i7
  clear i7
  obtain ⟨ji19, hji19⟩ : ∃ j_ : Int, (shl .i64 1 b4) = j_ := ⟨_, rfl⟩
  replace H : ((spec_YesOf.f k a5 a4).bind fun b3 => (if 0 ≤ b3 then (if f4 = true then (if (Go.bits .and .i64 a7 (Go.bits .or .i64 (ji19) (shl .i64 1 b3))) = (Go.bits .or .i64 (ji19) (shl .i64 1 b3)) then ((impl_SubOk.f a5 a4 (Go.bits .or .i64 (ji19) (shl .i64 1 b3))).bind fun g4 => (if g4 = true then ((impl_SubOk.f a5 a4 (wrap64 ((shl .i64 1 (a4.length : Int)) - 1))).bind fun f8 => (some f8)) else (some false))) else (some false)) else ((impl_SubOk.f a5 a4 (Go.bits .or .i64 (ji19) (shl .i64 1 b3))).bind fun g5 => (if g5 = true then ((impl_SubOk.f a5 a4 (wrap64 ((shl .i64 1 (a4.length : Int)) - 1))).bind fun f9 => (some f9)) else (some false)))) else (none))) = some r := by first | (rw [hji19] at H; exact H) | (simp only [hji19] at H ⊢; exact H)
  (try rw [hji19] at A3)
  (try rw [hji19] at A4)
  (try rw [hji19] at A5)
  (try rw [hji19] at g6)
  (try rw [hji19] at g7)
  have hji19_ : (IntKind.i64.wrap (1 * 2 ^ min b4.toNat 64)) = ji19 := hji19
  have hji19z : b4 ≤ 64 → (IntKind.i64.wrap (1 * 2 ^ b4.toNat)) = ji19 := shl_small hji19
  have hji19u : (IntKind.i64.wrap (2 ^ min b4.toNat 64)) = ji19 := by have h_ := hji19_; rw [Int.one_mul] at h_; exact h_
  have hji19v : b4 ≤ 64 → (IntKind.i64.wrap (2 ^ b4.toNat)) = ji19 := fun hle_ => by have h_ := hji19z hle_; rw [Int.one_mul] at h_; exact h_
  have hji19y : (wrap64 (1 * 2 ^ min b4.toNat 64)) = ji19 := (i64_w _).symm.trans hji19_
  have hji19x : b4 ≤ 64 → (wrap64 (1 * 2 ^ b4.toNat)) = ji19 := fun h_ => (i64_w _).symm.trans (hji19z h_)
  replace H := bd_ H
  obtain ⟨b3, h0, H⟩ := H
  replace H := ok_ H
  obtain ⟨i8, H⟩ := H
  have k6 := eq_true i8
  have k7 : decide (0 ≤ b3) = true := dT_ i8
  clear i8
  obtain ⟨ji22, hji22⟩ : ∃ j_ : Int, (shl .i64 1 b3) = j_ := ⟨_, rfl⟩
  replace H : (if f4 = true then (if (Go.bits .and .i64 a7 (Go.bits .or .i64 (ji19) (ji22))) = (Go.bits .or .i64 (ji19) (ji22)) then ((impl_SubOk.f a5 a4 (Go.bits .or .i64 (ji19) (ji22))).bind fun g4 => (if g4 = true then ((impl_SubOk.f a5 a4 (wrap64 ((shl .i64 1 (a4.length : Int)) - 1))).bind fun f8 => (some f8)) else (some false))) else (some false)) else ((impl_SubOk.f a5 a4 (Go.bits .or .i64 (ji19) (ji22))).bind fun g5 => (if g5 = true then ((impl_SubOk.f a5 a4 (wrap64 ((shl .i64 1 (a4.length : Int)) - 1))).bind fun f9 => (some f9)) else (some false)))) = some r := by first | (rw [hji22] at H; exact H) | (simp only [hji22] at H ⊢; exact H)
  (try rw [hji22] at A3)
  (try rw [hji22] at A4)
  (try rw [hji22] at A5)
  (try rw [hji22] at g6)
  (try rw [hji22] at g7)
  (try rw [hji22] at h0)
  have hji22_ : (IntKind.i64.wrap (1 * 2 ^ min b3.toNat 64)) = ji22 := hji22
  have hji22z : b3 ≤ 64 → (IntKind.i64.wrap (1 * 2 ^ b3.toNat)) = ji22 := shl_small hji22
  have hji22u : (IntKind.i64.wrap (2 ^ min b3.toNat 64)) = ji22 := by have h_ := hji22_; rw [Int.one_mul] at h_; exact h_
  have hji22v : b3 ≤ 64 → (IntKind.i64.wrap (2 ^ b3.toNat)) = ji22 := fun hle_ => by have h_ := hji22z hle_; rw [Int.one_mul] at h_; exact h_
  have hji22y : (wrap64 (1 * 2 ^ min b3.toNat 64)) = ji22 := (i64_w _).symm.trans hji22_
  have hji22x : b3 ≤ 64 → (wrap64 (1 * 2 ^ b3.toNat)) = ji22 := fun h_ => (i64_w _).symm.trans (hji22z h_)
  replace H := ox_ H
  rcases H with ⟨rfl, H⟩ | ⟨rfl, H⟩
  ·
   replace H := oe2 H
   rcases H with ⟨⟨-, h5, h6⟩, H⟩ | ⟨⟨m5, h5, h6⟩, H⟩
   ·
    replace H := bd_ H
    obtain ⟨g4, i9, H⟩ := H
    try dsimp only at H
    replace H := ox_ H
    rcases H with ⟨rfl, H⟩ | ⟨rfl, H⟩
    ·
     obtain ⟨ji27, hji27⟩ : ∃ j_ : Int, (shl .i64 1 (a4.length : Int)) = j_ := ⟨_, rfl⟩
     replace H : ((impl_SubOk.f a5 a4 (wrap64 ((ji27) - 1))).bind fun f8 => (some f8)) = some r := by first | (rw [hji27] at H; exact H) | (simp only [hji27] at H ⊢; exact H)
     (try rw [hji27] at A3)
     (try rw [hji27] at A4)
     (try rw [hji27] at A5)
     (try rw [hji27] at g6)
     (try rw [hji27] at g7)
     (try rw [hji27] at h0)
     (try rw [hji27] at i9)
     have hji27_ : (IntKind.i64.wrap (1 * 2 ^ min (a4.length : Int).toNat 64)) = ji27 := hji27
     have hji27z : (a4.length : Int) ≤ 64 → (IntKind.i64.wrap (1 * 2 ^ (a4.length : Int).toNat)) = ji27 := shl_small hji27
     have hji27p : (IntKind.i64.wrap (1 * 2 ^ min a4.length 64)) = ji27 := hji27_
     have hji27q : (a4.length : Int) ≤ 64 → (IntKind.i64.wrap (1 * 2 ^ a4.length)) = ji27 := hji27z
     have hji27r : (IntKind.i64.wrap (2 ^ min a4.length 64)) = ji27 := by have h_ := hji27p; rw [Int.one_mul] at h_; exact h_
     have hji27s : (a4.length : Int) ≤ 64 → (IntKind.i64.wrap (2 ^ a4.length)) = ji27 := fun hle_ => by have h_ := hji27q hle_; rw [Int.one_mul] at h_; exact h_
     have hji27u : (IntKind.i64.wrap (2 ^ min (a4.length : Int).toNat 64)) = ji27 := by have h_ := hji27_; rw [Int.one_mul] at h_; exact h_
     have hji27v : (a4.length : Int) ≤ 64 → (IntKind.i64.wrap (2 ^ (a4.length : Int).toNat)) = ji27 := fun hle_ => by have h_ := hji27z hle_; rw [Int.one_mul] at h_; exact h_
     have hji27y : (wrap64 (1 * 2 ^ min (a4.length : Int).toNat 64)) = ji27 := (i64_w _).symm.trans hji27_
     have hji27x : (a4.length : Int) ≤ 64 → (wrap64 (1 * 2 ^ (a4.length : Int).toNat)) = ji27 := fun h_ => (i64_w _).symm.trans (hji27z h_)
     replace H := bd_ H
     obtain ⟨f8, l1, H⟩ := H
     try dsimp only at H
     obtain rfl := Option.some.inj H
     go_enter Try.func7, Try.ntmps7
     try go_wp2_with (first | ((with_reducible refine gate_callee (f := 35) rfl ?_); refine gl_ (some 12) Try.func35 #[.slice A0 l0.length c0] ?_; (with_reducible refine (spec_DrawSubOk.calls k _ _ l0 a5 a4 a7 _ (y4 HR0.out) g9.out A3.out).mono ?_); rintro e w' ⟨g2, g3, rfl, ho0, ho1, hb⟩; refine ⟨_, rfl, ?_⟩; have a3 := ak (Kd.S_lower ho0 (below_size zi_1)); have a2 := ak (Kd.Q_lower ho1 (below_size zi_1)); replace HB := ak (below_step zi_1 hb); (try clear hb); (try clear hb2); (try clear hk); (try clear hi); (try clear ho0); (try clear ho1)) | ((with_reducible refine gate_dst (N := 3) rfl ?_); (try (refine gate_guard (by rfl) ?_; dsimp only)); refine box_event ?hg (N := 3) ?hd (cs := #[.slice none 0 0, .slice none 0 0]) (t := 27) ?hr ?_; (case hd => rfl); (case hg => rfl); (case hr => first | (go_simp; done) | (go_simp; rfl)); intro a6 hg m6 hbox hb; replace a3 := ak (Kd.S_below (xS a3.out) hb); replace a2 := ak (Kd.Q_below (xQ a2.out) hb); have a1 := ak (hbox); have f6 := ak ((by rw [hg]; exact (below_size zi_1) : w.heap.size ≤ a6)); have f5 := ak ((by rw [hg]; exact (below_size zi_1) : w.heap.size ≤ a6)); replace HB := ak (below_step zi_1 hb); clear hb hbox hg; obtain ⟨b9, b5, j0⟩ := Kd.S_slice a3.out; subst j0; have a9 := cz20 a1.out; have b0 := cz21 a1.out; have b1 := blk_frozen a1.out 0; have b2 := blk_frozen a1.out 1; obtain ⟨d0, b6, j1, _⟩ := Kd.Q_slice a2.out; subst j1) | ((with_reducible refine gate_callee (f := 34) rfl ?_); refine gl_ (some 17) Try.func34 #[.agg #[.slice b9 a5.length b5, .slice d0 a4.length b6], .int .i64 a7] ?_; (with_reducible refine (impl_SubOk.calls _ _ a5 _ _ a4 a7 true _ (by refine (Kd.S_reads' (e := 25) (base := w.heap.size) (ok := fun k_ => some k_ ≠ (.slice d0 a4.length b6 : Value).ownBlock) (n := a5.length) (c := b5) ?_).2.2; exact zi_12) (y2 a3.out) (by refine (Kd.Q_reads' (e := 3) (base := w.heap.size) (ok := fun k_ => True) (n := a4.length) (c := b6) ?_).2.2; exact zi_17) (y2 a2.out) A4.out).mono ?_); rintro e w' ⟨rfl, hb⟩; refine ⟨_, rfl, ?_⟩; replace a3 := ak (Kd.S_below zi_12 hb); replace a2 := ak (Kd.Q_below zi_17 hb); replace a1 := ak (blk_below (g := a6) (o := .cells #[.slice b9 a5.length b5, .slice d0 a4.length b6] 27 (0, 0)) (by (with_reducible repeat (first | refine blk_drewN ?_ _ | refine blk_drew ?_ | refine blk_alloc ?_ _)); refine blk_put (cs := #[.slice b9 a5.length b5, .slice none 0 0]) ?_ 1 _ rfl; (with_reducible repeat (first | refine blk_drewN ?_ _ | refine blk_drew ?_ | refine blk_alloc ?_ _)); refine blk_put (cs := #[.slice none 0 0, .slice none 0 0]) ?_ 0 _ rfl; (with_reducible repeat (first | refine blk_drewN ?_ _ | refine blk_drew ?_ | refine blk_alloc ?_ _)); exact a1.out) hb); replace HB := ak (below_step zi_0 hb); (try clear hb); (try clear hb2); (try clear hk); (try clear hi); have a9 := cz20 a1.out; have b0 := cz21 a1.out; have b1 := blk_frozen a1.out 0; have b2 := blk_frozen a1.out 1) | ((with_reducible refine gate_callee (f := 36) rfl ?_); refine gl_ (some 21) Try.func36 #[.agg #[.slice b9 a5.length b5, .slice d0 a4.length b6], .int .i64 a7] ?_; (with_reducible refine (spec_SubOk.calls k _ _ a5 _ _ a4 a7 e1 _ (y1 a3.out) (y2 a3.out) (y1 a2.out) (y2 a2.out) A5.out).mono ?_); rintro e w' ⟨rfl, hb⟩; refine ⟨_, rfl, ?_⟩; replace a3 := ak (Kd.S_below (xS a3.out) hb); replace a2 := ak (Kd.Q_below (xQ a2.out) hb); replace a1 := ak (blk_below (g := a6) (o := .cells #[.slice b9 a5.length b5, .slice d0 a4.length b6] 27 (0, 0)) (xb a1.out) hb); replace HB := ak (below_step zi_0 hb); (try clear hb); (try clear hb2); (try clear hk); (try clear hi); have a9 := cz20 a1.out; have b0 := cz21 a1.out; have b1 := blk_frozen a1.out 0; have b2 := blk_frozen a1.out 1) | ((with_reducible refine gate_callee (f := 30) rfl ?_); refine gl_ (some 24) Try.func30 #[.agg #[.slice b9 a5.length b5, .slice d0 a4.length b6]] ?_; (with_reducible refine (spec_LogicOk.calls k _ _ a5 _ _ a4 true _ (y1 a3.out) (y2 a3.out) (y1 a2.out) (y2 a2.out) g6.out).mono ?_); rintro e l2 ⟨rfl, hb⟩; refine ⟨_, rfl, ?_⟩; replace a3 := ak (Kd.S_below (xS a3.out) hb); replace a2 := ak (Kd.Q_below (xQ a2.out) hb); replace a1 := ak (blk_below (g := a6) (o := .cells #[.slice b9 a5.length b5, .slice d0 a4.length b6] 27 (0, 0)) (xb a1.out) hb); replace HB := ak (below_step zi_0 hb); (try clear hb); (try clear hb2); (try clear hk); (try clear hi)))
     replace a3 := ak (Kd.S_drew a3.out)
     replace a2 := ak (Kd.Q_drew a2.out)
     replace a1 := ak (blk_drew a1.out)
     replace HB := ak (below_drew1 HB.out)
     refine start_ (n := 8) (S := fun w' => w'.cell? ⟨a6, 0, none⟩ = some (.slice b9 a5.length b5) ∧ w'.cell? ⟨a6, 1, none⟩ = some (.slice d0 a4.length b6)) (ds := []) (bA 8 0) zi_20 rfl rfl ⟨(blk_cell a1.out 0).trans rfl, (blk_cell a1.out 1).trans rfl⟩ (fun hHeld => ?_); refine with_tabW laws_FnSubOk.tab9 laws_FnSubOk.bits9 (fun HT_ HW_ => ?_)
     generalize l2.drew = m7 at a3 a2 a1 HB hHeld ⊢
     refine tk_ (i := 0) (N := some 31) (bA 8 1) ?_
     refine tk_ (i := 3) (N := some 34) (bA 8 9) ?_
     refine one_ (i := 1) (N := some 32) (bA 8 11) rfl rfl (one_of HT_.out zi_20) (by decide) (fun K hK => ?_)
     refine ge_ Try.func37 #[.agg #[.slice b9 a5.length b5, .slice d0 a4.length b6]] ?_
     with_reducible refine (spec_NoOf.calls k _ _ a5 _ _ a4 b4 _ ?side1 ?side2 ?side3 ?side4 g7.out).mono ?_
     (case side1 => repeat (first | exact (Kd.S_reads' a3.out).2.2 | (with_reducible refine Kd.C_alloc ?_ _) | (with_reducible refine Kd.C_drewN ?_ _) | (with_reducible refine Kd.C_drew ?_)))
     (case side2 => exact (Kd.S_reads' a3.out).2.1)
     (case side3 => repeat (first | exact (Kd.Q_reads' a2.out).2.2 | (with_reducible refine Kd.C_alloc ?_ _) | (with_reducible refine Kd.C_drewN ?_ _) | (with_reducible refine Kd.C_drew ?_)))
     (case side4 => exact (Kd.Q_reads' a2.out).2.1)
     rintro e w' ⟨rfl, hb⟩
     refine ⟨_, rfl, ?_⟩
     replace a3 := ak (Kd.S_below (xS a3.out) hb)
     replace a2 := ak (Kd.Q_below (xQ a2.out) hb)
     replace a1 := ak (blk_below (g := a6) (o := .cells #[.slice b9 a5.length b5, .slice d0 a4.length b6] 27 (0, 0)) (xb a1.out) hb)
     replace HB := ak (below_step zi_0 hb)
     (try clear hb)
     (try clear hb2)
     (try clear hk)
     (try clear hi)
     refine hK.out _ _ ⟨(blk_cell a1.out 0).trans rfl, (blk_cell a1.out 1).trans rfl⟩ (fun hHeld => ?_)
     clear hK K
     refine no_ (N := some 32) ?_
     refine pu_ (i := 2) (N := some 33) (bA 8 15) ?_
     refine one_ (i := 4) (N := some 35) (bA 8 31) rfl rfl (one_of HT_.out zi_20) (by decide) (fun K hK => ?_)
     refine ge_ Try.func38 #[.agg #[.slice b9 a5.length b5, .slice d0 a4.length b6]] ?_
     with_reducible refine (spec_YesOf.calls k _ _ a5 _ _ a4 b3 _ ?side1 ?side2 ?side3 ?side4 h0.out).mono ?_
     (case side1 => repeat (first | exact (Kd.S_reads' a3.out).2.2 | (with_reducible refine Kd.C_alloc ?_ _) | (with_reducible refine Kd.C_drewN ?_ _) | (with_reducible refine Kd.C_drew ?_)))
     (case side2 => exact (Kd.S_reads' a3.out).2.1)
     (case side3 => repeat (first | exact (Kd.Q_reads' a2.out).2.2 | (with_reducible refine Kd.C_alloc ?_ _) | (with_reducible refine Kd.C_drewN ?_ _) | (with_reducible refine Kd.C_drew ?_)))
     (case side4 => exact (Kd.Q_reads' a2.out).2.1)
     rintro e l3 ⟨rfl, hb⟩
     refine ⟨_, rfl, ?_⟩
     replace a3 := ak (Kd.S_below (xS a3.out) hb)
     replace a2 := ak (Kd.Q_below (xQ a2.out) hb)
     replace a1 := ak (blk_below (g := a6) (o := .cells #[.slice b9 a5.length b5, .slice d0 a4.length b6] 27 (0, 0)) (xb a1.out) hb)
     replace HB := ak (below_step zi_0 hb)
     (try clear hb)
     (try clear hb2)
     (try clear hk)
     (try clear hi)
     refine hK.out _ _ ⟨(blk_cell a1.out 0).trans rfl, (blk_cell a1.out 1).trans rfl⟩ (fun hHeld => ?_)
     clear hK K
     refine no_ (N := some 35) ?_
     refine pu_ (i := 5) (N := some 36) (bA 8 63) ?_
     refine pu_ (i := 6) (N := some 37) (bA 8 127) ?_
     refine pu_ (i := 7) (N := some 6) (bA 8 255) ?_
     refine done_ (done_of HT_.out zi_20) ?_
     try go_wp2
     replace a3 := ak (Kd.S_drew a3.out)
     replace a2 := ak (Kd.Q_drew a2.out)
     replace a1 := ak (blk_drew a1.out)
     replace HB := ak (below_drew1 HB.out)
     refine start_ (n := 24) (S := fun w' => w'.cell? ⟨a6, 0, none⟩ = some (.slice b9 a5.length b5) ∧ w'.cell? ⟨a6, 1, none⟩ = some (.slice d0 a4.length b6)) (ds := []) (bA 24 0) zi_20 rfl rfl ⟨(blk_cell a1.out 0).trans rfl, (blk_cell a1.out 1).trans rfl⟩ (fun hHeld => ?_); refine with_tabW laws_FnSubOk.tab10 laws_FnSubOk.bits10 (fun HT_ HW_ => ?_)
     generalize l3.drew = m8 at a3 a2 a1 HB hHeld ⊢
     refine pu_ (i := 0) (N := some 38) (bA 24 1) ?_
     refine pu_ (i := 1) (N := some 39) (bA 24 3) ?_
     refine pu_ (i := 2) (N := some 40) (bA 24 7) ?_
     refine pu_ (i := 3) (N := some 41) (bA 24 15) ?_
     refine pu_ (i := 4) (N := some 42) (bA 24 31) ?_
     refine pu_ (i := 5) (N := some 43) (bA 24 63) ?_
     refine pu_ (i := 6) (N := some 44) (bA 24 127) ?_
     refine pu_ (i := 7) (N := some 45) (bA 24 255) ?_
     refine pu_ (i := 8) (N := some 46) (bA 24 511) ?_
     refine pu_ (i := 9) (N := some 47) (bA 24 1023) ?_
     refine pu_ (i := 11) (N := some 49) (bA 24 3071) ?_
     refine tk_ (i := 10) (N := some 48) (bA 24 4095) ?_
     refine one_ (i := 12) (N := some 50) (bA 24 8191) rfl rfl (one_of HT_.out zi_20) (by decide) (fun K hK => ?_)
     refine goes_ Try.func34 zi_20 rfl #[.agg #[.slice b9 a5.length b5, .slice d0 a4.length b6], .int .i64 (Go.bits .or .i64 (ji19) (ji22))] (by rfl) rfl rfl zi_2 ?_
     with_reducible refine (impl_SubOk.calls _ _ a5 _ _ a4 (Go.bits .or .i64 (ji19) (ji22)) true _ ?side1 ?side2 ?side3 ?side4 i9.out).mono ?_
     (case side1 => repeat (first | exact (Kd.S_reads' a3.out).2.2 | (with_reducible refine Kd.C_alloc ?_ _) | (with_reducible refine Kd.C_drewN ?_ _) | (with_reducible refine Kd.C_drew ?_)))
     (case side2 => exact (Kd.S_reads' a3.out).2.1)
     (case side3 => repeat (first | exact (Kd.Q_reads' a2.out).2.2 | (with_reducible refine Kd.C_alloc ?_ _) | (with_reducible refine Kd.C_drewN ?_ _) | (with_reducible refine Kd.C_drew ?_)))
     (case side4 => exact (Kd.Q_reads' a2.out).2.1)
     rintro e w' ⟨rfl, hb⟩
     refine ⟨_, rfl, ?_⟩
     replace a3 := ak (Kd.S_below (xS a3.out) hb)
     replace a2 := ak (Kd.Q_below (xQ a2.out) hb)
     replace a1 := ak (blk_below (g := a6) (o := .cells #[.slice b9 a5.length b5, .slice d0 a4.length b6] 27 (0, 0)) (xb a1.out) hb)
     replace HB := ak (below_step zi_0 hb)
     (try clear hb)
     (try clear hb2)
     (try clear hk)
     (try clear hi)
     refine hK.out _ _ ⟨(blk_cell a1.out 0).trans rfl, (blk_cell a1.out 1).trans rfl⟩ (fun hHeld => ?_)
     clear hK K
     refine no_ (N := some 50) ?_
     refine pu_ (i := 13) (N := some 51) (bA 24 16383) ?_
     refine pu_ (i := 14) (N := some 52) (bA 24 32767) ?_
     refine pu_ (i := 16) (N := some 54) (bA 24 98303) ?_
     refine tk_ (i := 15) (N := some 53) (bA 24 131071) ?_
     refine tk_ (i := 17) (N := some 55) (bA 24 262143) ?_
     refine pu_ (i := 18) (N := some 56) (bA 24 524287) ?_
     refine pu_ (i := 19) (N := some 57) (bA 24 1048575) ?_
     refine pu_ (i := 20) (N := some 58) (bA 24 2097151) ?_
     refine one_ (i := 21) (N := some 59) (bA 24 4194303) rfl rfl (one_of HT_.out zi_20) (by decide) (fun K hK => ?_)
     refine goes_ Try.func34 zi_20 rfl #[.agg #[.slice b9 a5.length b5, .slice d0 a4.length b6], .int .i64 (wrap64 ((ji27) - 1))] (by rfl) rfl rfl (by (try simp only [List.map_toArray, List.map_cons, List.map_nil]); first | done | (simp only [hji27]; rfl) | rfl | (simp only [List.length_drop, List.length_take]; rfl)) ?_
     with_reducible refine (impl_SubOk.calls _ _ a5 _ _ a4 (wrap64 ((ji27) - 1)) f8 _ ?side1 ?side2 ?side3 ?side4 l1.out).mono ?_
     (case side1 => repeat (first | exact (Kd.S_reads' a3.out).2.2 | (with_reducible refine Kd.C_alloc ?_ _) | (with_reducible refine Kd.C_drewN ?_ _) | (with_reducible refine Kd.C_drew ?_)))
     (case side2 => exact (Kd.S_reads' a3.out).2.1)
     (case side3 => repeat (first | exact (Kd.Q_reads' a2.out).2.2 | (with_reducible refine Kd.C_alloc ?_ _) | (with_reducible refine Kd.C_drewN ?_ _) | (with_reducible refine Kd.C_drew ?_)))
     (case side4 => exact (Kd.Q_reads' a2.out).2.1)
     rintro e w' ⟨rfl, hb⟩
     refine ⟨_, rfl, ?_⟩
     replace a3 := ak (Kd.S_below (xS a3.out) hb)
     replace a2 := ak (Kd.Q_below (xQ a2.out) hb)
     replace a1 := ak (blk_below (g := a6) (o := .cells #[.slice b9 a5.length b5, .slice d0 a4.length b6] 27 (0, 0)) (xb a1.out) hb)
     replace HB := ak (below_step zi_0 hb)
     (try clear hb)
     (try clear hb2)
     (try clear hk)
     (try clear hi)
     refine hK.out _ _ ⟨(blk_cell a1.out 0).trans rfl, (blk_cell a1.out 1).trans rfl⟩ (fun hHeld => ?_)
     clear hK K
     refine no_ (N := some 59) ?_
     refine pu_ (i := 22) (N := some 60) (bA 24 8388607) ?_
     refine pu_ (i := 23) (N := some 2) (bA 24 16777215) ?_
     refine done_ (done_of HT_.out zi_20) ?_
     try go_wp2
     go_ret
     exact ⟨(by first | rfl | (simp [errW_none, errW_some] <;> rfl) | (simp only [← hji19, ← hji22, ← hji27]; first | rfl | (simp [errW_none, errW_some] <;> rfl)) | (simp [*, errW_none, errW_some] <;> rfl)), zi_0⟩
    obtain rfl := Option.some.inj H
    go_enter Try.func7, Try.ntmps7
    try go_wp2_with (first | ((with_reducible refine gate_callee (f := 35) rfl ?_); refine gl_ (some 12) Try.func35 #[.slice A0 l0.length c0] ?_; (with_reducible refine (spec_DrawSubOk.calls k _ _ l0 a5 a4 a7 _ (y4 HR0.out) g9.out A3.out).mono ?_); rintro e w' ⟨g2, g3, rfl, ho0, ho1, hb⟩; refine ⟨_, rfl, ?_⟩; have a3 := ak (Kd.S_lower ho0 (below_size zi_1)); have a2 := ak (Kd.Q_lower ho1 (below_size zi_1)); replace HB := ak (below_step zi_1 hb); (try clear hb); (try clear hb2); (try clear hk); (try clear hi); (try clear ho0); (try clear ho1)) | ((with_reducible refine gate_dst (N := 3) rfl ?_); (try (refine gate_guard (by rfl) ?_; dsimp only)); refine box_event ?hg (N := 3) ?hd (cs := #[.slice none 0 0, .slice none 0 0]) (t := 27) ?hr ?_; (case hd => rfl); (case hg => rfl); (case hr => first | (go_simp; done) | (go_simp; rfl)); intro a6 hg m9 hbox hb; replace a3 := ak (Kd.S_below (xS a3.out) hb); replace a2 := ak (Kd.Q_below (xQ a2.out) hb); have a1 := ak (hbox); have f6 := ak ((by rw [hg]; exact (below_size zi_1) : w.heap.size ≤ a6)); have f5 := ak ((by rw [hg]; exact (below_size zi_1) : w.heap.size ≤ a6)); replace HB := ak (below_step zi_1 hb); clear hb hbox hg; obtain ⟨d7, d3, j2⟩ := Kd.S_slice a3.out; subst j2; have a9 := cz20 a1.out; have b0 := cz21 a1.out; have b1 := blk_frozen a1.out 0; have b2 := blk_frozen a1.out 1; obtain ⟨d8, d4, j3, _⟩ := Kd.Q_slice a2.out; subst j3) | ((with_reducible refine gate_callee (f := 34) rfl ?_); refine gl_ (some 17) Try.func34 #[.agg #[.slice d7 a5.length d3, .slice d8 a4.length d4], .int .i64 a7] ?_; (with_reducible refine (impl_SubOk.calls _ _ a5 _ _ a4 a7 true _ (by refine (Kd.S_reads' (e := 25) (base := w.heap.size) (ok := fun k_ => some k_ ≠ (.slice d8 a4.length d4 : Value).ownBlock) (n := a5.length) (c := d3) ?_).2.2; exact zi_11) (y2 a3.out) (by refine (Kd.Q_reads' (e := 3) (base := w.heap.size) (ok := fun k_ => True) (n := a4.length) (c := d4) ?_).2.2; exact zi_16) (y2 a2.out) A4.out).mono ?_); rintro e w' ⟨rfl, hb⟩; refine ⟨_, rfl, ?_⟩; replace a3 := ak (Kd.S_below zi_11 hb); replace a2 := ak (Kd.Q_below zi_16 hb); replace a1 := ak (blk_below (g := a6) (o := .cells #[.slice d7 a5.length d3, .slice d8 a4.length d4] 27 (0, 0)) (by (with_reducible repeat (first | refine blk_drewN ?_ _ | refine blk_drew ?_ | refine blk_alloc ?_ _)); refine blk_put (cs := #[.slice d7 a5.length d3, .slice none 0 0]) ?_ 1 _ rfl; (with_reducible repeat (first | refine blk_drewN ?_ _ | refine blk_drew ?_ | refine blk_alloc ?_ _)); refine blk_put (cs := #[.slice none 0 0, .slice none 0 0]) ?_ 0 _ rfl; (with_reducible repeat (first | refine blk_drewN ?_ _ | refine blk_drew ?_ | refine blk_alloc ?_ _)); exact a1.out) hb); replace HB := ak (below_step zi_0 hb); (try clear hb); (try clear hb2); (try clear hk); (try clear hi); have a9 := cz20 a1.out; have b0 := cz21 a1.out; have b1 := blk_frozen a1.out 0; have b2 := blk_frozen a1.out 1) | ((with_reducible refine gate_callee (f := 36) rfl ?_); refine gl_ (some 21) Try.func36 #[.agg #[.slice d7 a5.length d3, .slice d8 a4.length d4], .int .i64 a7] ?_; (with_reducible refine (spec_SubOk.calls k _ _ a5 _ _ a4 a7 e1 _ (y1 a3.out) (y2 a3.out) (y1 a2.out) (y2 a2.out) A5.out).mono ?_); rintro e w' ⟨rfl, hb⟩; refine ⟨_, rfl, ?_⟩; replace a3 := ak (Kd.S_below (xS a3.out) hb); replace a2 := ak (Kd.Q_below (xQ a2.out) hb); replace a1 := ak (blk_below (g := a6) (o := .cells #[.slice d7 a5.length d3, .slice d8 a4.length d4] 27 (0, 0)) (xb a1.out) hb); replace HB := ak (below_step zi_0 hb); (try clear hb); (try clear hb2); (try clear hk); (try clear hi); have a9 := cz20 a1.out; have b0 := cz21 a1.out; have b1 := blk_frozen a1.out 0; have b2 := blk_frozen a1.out 1) | ((with_reducible refine gate_callee (f := 30) rfl ?_); refine gl_ (some 24) Try.func30 #[.agg #[.slice d7 a5.length d3, .slice d8 a4.length d4]] ?_; (with_reducible refine (spec_LogicOk.calls k _ _ a5 _ _ a4 true _ (y1 a3.out) (y2 a3.out) (y1 a2.out) (y2 a2.out) g6.out).mono ?_); rintro e l4 ⟨rfl, hb⟩; refine ⟨_, rfl, ?_⟩; replace a3 := ak (Kd.S_below (xS a3.out) hb); replace a2 := ak (Kd.Q_below (xQ a2.out) hb); replace a1 := ak (blk_below (g := a6) (o := .cells #[.slice d7 a5.length d3, .slice d8 a4.length d4] 27 (0, 0)) (xb a1.out) hb); replace HB := ak (below_step zi_0 hb); (try clear hb); (try clear hb2); (try clear hk); (try clear hi)))
    replace a3 := ak (Kd.S_drew a3.out)
    replace a2 := ak (Kd.Q_drew a2.out)
    replace a1 := ak (blk_drew a1.out)
    replace HB := ak (below_drew1 HB.out)
    refine start_ (n := 8) (S := fun w' => w'.cell? ⟨a6, 0, none⟩ = some (.slice d7 a5.length d3) ∧ w'.cell? ⟨a6, 1, none⟩ = some (.slice d8 a4.length d4)) (ds := []) (bA 8 0) zi_20 rfl rfl ⟨(blk_cell a1.out 0).trans rfl, (blk_cell a1.out 1).trans rfl⟩ (fun hHeld => ?_); refine with_tabW laws_FnSubOk.tab9 laws_FnSubOk.bits9 (fun HT_ HW_ => ?_)
    generalize l4.drew = n0 at a3 a2 a1 HB hHeld ⊢
    refine tk_ (i := 0) (N := some 31) (bA 8 1) ?_
    refine tk_ (i := 3) (N := some 34) (bA 8 9) ?_
    refine one_ (i := 1) (N := some 32) (bA 8 11) rfl rfl (one_of HT_.out zi_20) (by decide) (fun K hK => ?_)
    refine ge_ Try.func37 #[.agg #[.slice d7 a5.length d3, .slice d8 a4.length d4]] ?_
    with_reducible refine (spec_NoOf.calls k _ _ a5 _ _ a4 b4 _ ?side1 ?side2 ?side3 ?side4 g7.out).mono ?_
    (case side1 => repeat (first | exact (Kd.S_reads' a3.out).2.2 | (with_reducible refine Kd.C_alloc ?_ _) | (with_reducible refine Kd.C_drewN ?_ _) | (with_reducible refine Kd.C_drew ?_)))
    (case side2 => exact (Kd.S_reads' a3.out).2.1)
    (case side3 => repeat (first | exact (Kd.Q_reads' a2.out).2.2 | (with_reducible refine Kd.C_alloc ?_ _) | (with_reducible refine Kd.C_drewN ?_ _) | (with_reducible refine Kd.C_drew ?_)))
    (case side4 => exact (Kd.Q_reads' a2.out).2.1)
    rintro e w' ⟨rfl, hb⟩
    refine ⟨_, rfl, ?_⟩
    replace a3 := ak (Kd.S_below (xS a3.out) hb)
    replace a2 := ak (Kd.Q_below (xQ a2.out) hb)
    replace a1 := ak (blk_below (g := a6) (o := .cells #[.slice d7 a5.length d3, .slice d8 a4.length d4] 27 (0, 0)) (xb a1.out) hb)
    replace HB := ak (below_step zi_0 hb)
    (try clear hb)
    (try clear hb2)
    (try clear hk)
    (try clear hi)
    refine hK.out _ _ ⟨(blk_cell a1.out 0).trans rfl, (blk_cell a1.out 1).trans rfl⟩ (fun hHeld => ?_)
    clear hK K
    refine no_ (N := some 32) ?_
    refine pu_ (i := 2) (N := some 33) (bA 8 15) ?_
    refine one_ (i := 4) (N := some 35) (bA 8 31) rfl rfl (one_of HT_.out zi_20) (by decide) (fun K hK => ?_)
    refine ge_ Try.func38 #[.agg #[.slice d7 a5.length d3, .slice d8 a4.length d4]] ?_
    with_reducible refine (spec_YesOf.calls k _ _ a5 _ _ a4 b3 _ ?side1 ?side2 ?side3 ?side4 h0.out).mono ?_
    (case side1 => repeat (first | exact (Kd.S_reads' a3.out).2.2 | (with_reducible refine Kd.C_alloc ?_ _) | (with_reducible refine Kd.C_drewN ?_ _) | (with_reducible refine Kd.C_drew ?_)))
    (case side2 => exact (Kd.S_reads' a3.out).2.1)
    (case side3 => repeat (first | exact (Kd.Q_reads' a2.out).2.2 | (with_reducible refine Kd.C_alloc ?_ _) | (with_reducible refine Kd.C_drewN ?_ _) | (with_reducible refine Kd.C_drew ?_)))
    (case side4 => exact (Kd.Q_reads' a2.out).2.1)
    rintro e l5 ⟨rfl, hb⟩
    refine ⟨_, rfl, ?_⟩
    replace a3 := ak (Kd.S_below (xS a3.out) hb)
    replace a2 := ak (Kd.Q_below (xQ a2.out) hb)
    replace a1 := ak (blk_below (g := a6) (o := .cells #[.slice d7 a5.length d3, .slice d8 a4.length d4] 27 (0, 0)) (xb a1.out) hb)
    replace HB := ak (below_step zi_0 hb)
    (try clear hb)
    (try clear hb2)
    (try clear hk)
    (try clear hi)
    refine hK.out _ _ ⟨(blk_cell a1.out 0).trans rfl, (blk_cell a1.out 1).trans rfl⟩ (fun hHeld => ?_)
    clear hK K
    refine no_ (N := some 35) ?_
    refine pu_ (i := 5) (N := some 36) (bA 8 63) ?_
    refine pu_ (i := 6) (N := some 37) (bA 8 127) ?_
    refine pu_ (i := 7) (N := some 6) (bA 8 255) ?_
    refine done_ (done_of HT_.out zi_20) ?_
    try go_wp2
    replace a3 := ak (Kd.S_drew a3.out)
    replace a2 := ak (Kd.Q_drew a2.out)
    replace a1 := ak (blk_drew a1.out)
    replace HB := ak (below_drew1 HB.out)
    refine start_ (n := 24) (S := fun w' => w'.cell? ⟨a6, 0, none⟩ = some (.slice d7 a5.length d3) ∧ w'.cell? ⟨a6, 1, none⟩ = some (.slice d8 a4.length d4)) (ds := []) (bA 24 0) zi_20 rfl rfl ⟨(blk_cell a1.out 0).trans rfl, (blk_cell a1.out 1).trans rfl⟩ (fun hHeld => ?_); refine with_tabW laws_FnSubOk.tab10 laws_FnSubOk.bits10 (fun HT_ HW_ => ?_)
    generalize l5.drew = n1 at a3 a2 a1 HB hHeld ⊢
    refine pu_ (i := 0) (N := some 38) (bA 24 1) ?_
    refine pu_ (i := 1) (N := some 39) (bA 24 3) ?_
    refine pu_ (i := 2) (N := some 40) (bA 24 7) ?_
    refine pu_ (i := 3) (N := some 41) (bA 24 15) ?_
    refine pu_ (i := 4) (N := some 42) (bA 24 31) ?_
    refine pu_ (i := 5) (N := some 43) (bA 24 63) ?_
    refine pu_ (i := 6) (N := some 44) (bA 24 127) ?_
    refine pu_ (i := 7) (N := some 45) (bA 24 255) ?_
    refine pu_ (i := 8) (N := some 46) (bA 24 511) ?_
    refine pu_ (i := 9) (N := some 47) (bA 24 1023) ?_
    refine pu_ (i := 11) (N := some 49) (bA 24 3071) ?_
    refine tk_ (i := 10) (N := some 48) (bA 24 4095) ?_
    refine one_ (i := 12) (N := some 50) (bA 24 8191) rfl rfl (one_of HT_.out zi_20) (by decide) (fun K hK => ?_)
    refine goes_ Try.func34 zi_20 rfl #[.agg #[.slice d7 a5.length d3, .slice d8 a4.length d4], .int .i64 (Go.bits .or .i64 (ji19) (ji22))] (by rfl) rfl rfl zi_2 ?_
    with_reducible refine (impl_SubOk.calls _ _ a5 _ _ a4 (Go.bits .or .i64 (ji19) (ji22)) false _ ?side1 ?side2 ?side3 ?side4 i9.out).mono ?_
    (case side1 => repeat (first | exact (Kd.S_reads' a3.out).2.2 | (with_reducible refine Kd.C_alloc ?_ _) | (with_reducible refine Kd.C_drewN ?_ _) | (with_reducible refine Kd.C_drew ?_)))
    (case side2 => exact (Kd.S_reads' a3.out).2.1)
    (case side3 => repeat (first | exact (Kd.Q_reads' a2.out).2.2 | (with_reducible refine Kd.C_alloc ?_ _) | (with_reducible refine Kd.C_drewN ?_ _) | (with_reducible refine Kd.C_drew ?_)))
    (case side4 => exact (Kd.Q_reads' a2.out).2.1)
    rintro e w' ⟨rfl, hb⟩
    refine ⟨_, rfl, ?_⟩
    replace a3 := ak (Kd.S_below (xS a3.out) hb)
    replace a2 := ak (Kd.Q_below (xQ a2.out) hb)
    replace a1 := ak (blk_below (g := a6) (o := .cells #[.slice d7 a5.length d3, .slice d8 a4.length d4] 27 (0, 0)) (xb a1.out) hb)
    replace HB := ak (below_step zi_0 hb)
    (try clear hb)
    (try clear hb2)
    (try clear hk)
    (try clear hi)
    refine hK.out _ _ ⟨(blk_cell a1.out 0).trans rfl, (blk_cell a1.out 1).trans rfl⟩ (fun hHeld => ?_)
    clear hK K
    refine no_ (N := some 50) ?_
    refine pu_ (i := 13) (N := some 51) (bA 24 16383) ?_
    refine pu_ (i := 14) (N := some 52) (bA 24 32767) ?_
    refine of_ (i := 15) (N := some 53) (bA 24 65535) ?_
    refine of_ (i := 16) (N := some 54) (bA 24 131071) ?_
    refine of_ (i := 17) (N := some 55) (bA 24 262143) ?_
    refine of_ (i := 18) (N := some 56) (bA 24 524287) ?_
    refine of_ (i := 19) (N := some 57) (bA 24 1048575) ?_
    refine of_ (i := 20) (N := some 58) (bA 24 2097151) ?_
    refine of_ (i := 21) (N := some 59) (bA 24 4194303) ?_
    refine pu_ (i := 22) (N := some 60) (bA 24 8388607) ?_
    refine pu_ (i := 23) (N := some 2) (bA 24 16777215) ?_
    refine done_ (done_of HT_.out zi_20) ?_
    try go_wp2
    go_ret
    exact ⟨zi_3, zi_0⟩
   obtain rfl := Option.some.inj H
   go_enter Try.func7, Try.ntmps7
   try go_wp2_with (first | ((with_reducible refine gate_callee (f := 35) rfl ?_); refine gl_ (some 12) Try.func35 #[.slice A0 l0.length c0] ?_; (with_reducible refine (spec_DrawSubOk.calls k _ _ l0 a5 a4 a7 _ (y4 HR0.out) g9.out A3.out).mono ?_); rintro e w' ⟨g2, g3, rfl, ho0, ho1, hb⟩; refine ⟨_, rfl, ?_⟩; have a3 := ak (Kd.S_lower ho0 (below_size zi_1)); have a2 := ak (Kd.Q_lower ho1 (below_size zi_1)); replace HB := ak (below_step zi_1 hb); (try clear hb); (try clear hb2); (try clear hk); (try clear hi); (try clear ho0); (try clear ho1)) | ((with_reducible refine gate_dst (N := 3) rfl ?_); (try (refine gate_guard (by rfl) ?_; dsimp only)); refine box_event ?hg (N := 3) ?hd (cs := #[.slice none 0 0, .slice none 0 0]) (t := 27) ?hr ?_; (case hd => rfl); (case hg => rfl); (case hr => first | (go_simp; done) | (go_simp; rfl)); intro a6 hg n2 hbox hb; replace a3 := ak (Kd.S_below (xS a3.out) hb); replace a2 := ak (Kd.Q_below (xQ a2.out) hb); have a1 := ak (hbox); have f6 := ak ((by rw [hg]; exact (below_size zi_1) : w.heap.size ≤ a6)); have f5 := ak ((by rw [hg]; exact (below_size zi_1) : w.heap.size ≤ a6)); replace HB := ak (below_step zi_1 hb); clear hb hbox hg; obtain ⟨e8, e6, j4⟩ := Kd.S_slice a3.out; subst j4; have a9 := cz20 a1.out; have b0 := cz21 a1.out; have b1 := blk_frozen a1.out 0; have b2 := blk_frozen a1.out 1; obtain ⟨e9, e7, j5, _⟩ := Kd.Q_slice a2.out; subst j5) | ((with_reducible refine gate_callee (f := 34) rfl ?_); refine gl_ (some 17) Try.func34 #[.agg #[.slice e8 a5.length e6, .slice e9 a4.length e7], .int .i64 a7] ?_; (with_reducible refine (impl_SubOk.calls _ _ a5 _ _ a4 a7 true _ (by refine (Kd.S_reads' (e := 25) (base := w.heap.size) (ok := fun k_ => some k_ ≠ (.slice e9 a4.length e7 : Value).ownBlock) (n := a5.length) (c := e6) ?_).2.2; exact zi_10) (y2 a3.out) (by refine (Kd.Q_reads' (e := 3) (base := w.heap.size) (ok := fun k_ => True) (n := a4.length) (c := e7) ?_).2.2; exact zi_15) (y2 a2.out) A4.out).mono ?_); rintro e w' ⟨rfl, hb⟩; refine ⟨_, rfl, ?_⟩; replace a3 := ak (Kd.S_below zi_10 hb); replace a2 := ak (Kd.Q_below zi_15 hb); replace a1 := ak (blk_below (g := a6) (o := .cells #[.slice e8 a5.length e6, .slice e9 a4.length e7] 27 (0, 0)) (by (with_reducible repeat (first | refine blk_drewN ?_ _ | refine blk_drew ?_ | refine blk_alloc ?_ _)); refine blk_put (cs := #[.slice e8 a5.length e6, .slice none 0 0]) ?_ 1 _ rfl; (with_reducible repeat (first | refine blk_drewN ?_ _ | refine blk_drew ?_ | refine blk_alloc ?_ _)); refine blk_put (cs := #[.slice none 0 0, .slice none 0 0]) ?_ 0 _ rfl; (with_reducible repeat (first | refine blk_drewN ?_ _ | refine blk_drew ?_ | refine blk_alloc ?_ _)); exact a1.out) hb); replace HB := ak (below_step zi_0 hb); (try clear hb); (try clear hb2); (try clear hk); (try clear hi); have a9 := cz20 a1.out; have b0 := cz21 a1.out; have b1 := blk_frozen a1.out 0; have b2 := blk_frozen a1.out 1) | ((with_reducible refine gate_callee (f := 36) rfl ?_); refine gl_ (some 21) Try.func36 #[.agg #[.slice e8 a5.length e6, .slice e9 a4.length e7], .int .i64 a7] ?_; (with_reducible refine (spec_SubOk.calls k _ _ a5 _ _ a4 a7 e1 _ (y1 a3.out) (y2 a3.out) (y1 a2.out) (y2 a2.out) A5.out).mono ?_); rintro e w' ⟨rfl, hb⟩; refine ⟨_, rfl, ?_⟩; replace a3 := ak (Kd.S_below (xS a3.out) hb); replace a2 := ak (Kd.Q_below (xQ a2.out) hb); replace a1 := ak (blk_below (g := a6) (o := .cells #[.slice e8 a5.length e6, .slice e9 a4.length e7] 27 (0, 0)) (xb a1.out) hb); replace HB := ak (below_step zi_0 hb); (try clear hb); (try clear hb2); (try clear hk); (try clear hi); have a9 := cz20 a1.out; have b0 := cz21 a1.out; have b1 := blk_frozen a1.out 0; have b2 := blk_frozen a1.out 1) | ((with_reducible refine gate_callee (f := 30) rfl ?_); refine gl_ (some 24) Try.func30 #[.agg #[.slice e8 a5.length e6, .slice e9 a4.length e7]] ?_; (with_reducible refine (spec_LogicOk.calls k _ _ a5 _ _ a4 true _ (y1 a3.out) (y2 a3.out) (y1 a2.out) (y2 a2.out) g6.out).mono ?_); rintro e l6 ⟨rfl, hb⟩; refine ⟨_, rfl, ?_⟩; replace a3 := ak (Kd.S_below (xS a3.out) hb); replace a2 := ak (Kd.Q_below (xQ a2.out) hb); replace a1 := ak (blk_below (g := a6) (o := .cells #[.slice e8 a5.length e6, .slice e9 a4.length e7] 27 (0, 0)) (xb a1.out) hb); replace HB := ak (below_step zi_0 hb); (try clear hb); (try clear hb2); (try clear hk); (try clear hi)))
   replace a3 := ak (Kd.S_drew a3.out)
   replace a2 := ak (Kd.Q_drew a2.out)
   replace a1 := ak (blk_drew a1.out)
   replace HB := ak (below_drew1 HB.out)
   refine start_ (n := 8) (S := fun w' => w'.cell? ⟨a6, 0, none⟩ = some (.slice e8 a5.length e6) ∧ w'.cell? ⟨a6, 1, none⟩ = some (.slice e9 a4.length e7)) (ds := []) (bA 8 0) zi_20 rfl rfl ⟨(blk_cell a1.out 0).trans rfl, (blk_cell a1.out 1).trans rfl⟩ (fun hHeld => ?_); refine with_tabW laws_FnSubOk.tab9 laws_FnSubOk.bits9 (fun HT_ HW_ => ?_)
   generalize l6.drew = n3 at a3 a2 a1 HB hHeld ⊢
   refine tk_ (i := 0) (N := some 31) (bA 8 1) ?_
   refine tk_ (i := 3) (N := some 34) (bA 8 9) ?_
   refine one_ (i := 1) (N := some 32) (bA 8 11) rfl rfl (one_of HT_.out zi_20) (by decide) (fun K hK => ?_)
   refine ge_ Try.func37 #[.agg #[.slice e8 a5.length e6, .slice e9 a4.length e7]] ?_
   with_reducible refine (spec_NoOf.calls k _ _ a5 _ _ a4 b4 _ ?side1 ?side2 ?side3 ?side4 g7.out).mono ?_
   (case side1 => repeat (first | exact (Kd.S_reads' a3.out).2.2 | (with_reducible refine Kd.C_alloc ?_ _) | (with_reducible refine Kd.C_drewN ?_ _) | (with_reducible refine Kd.C_drew ?_)))
   (case side2 => exact (Kd.S_reads' a3.out).2.1)
   (case side3 => repeat (first | exact (Kd.Q_reads' a2.out).2.2 | (with_reducible refine Kd.C_alloc ?_ _) | (with_reducible refine Kd.C_drewN ?_ _) | (with_reducible refine Kd.C_drew ?_)))
   (case side4 => exact (Kd.Q_reads' a2.out).2.1)
   rintro e w' ⟨rfl, hb⟩
   refine ⟨_, rfl, ?_⟩
   replace a3 := ak (Kd.S_below (xS a3.out) hb)
   replace a2 := ak (Kd.Q_below (xQ a2.out) hb)
   replace a1 := ak (blk_below (g := a6) (o := .cells #[.slice e8 a5.length e6, .slice e9 a4.length e7] 27 (0, 0)) (xb a1.out) hb)
   replace HB := ak (below_step zi_0 hb)
   (try clear hb)
   (try clear hb2)
   (try clear hk)
   (try clear hi)
   refine hK.out _ _ ⟨(blk_cell a1.out 0).trans rfl, (blk_cell a1.out 1).trans rfl⟩ (fun hHeld => ?_)
   clear hK K
   refine no_ (N := some 32) ?_
   refine pu_ (i := 2) (N := some 33) (bA 8 15) ?_
   refine one_ (i := 4) (N := some 35) (bA 8 31) rfl rfl (one_of HT_.out zi_20) (by decide) (fun K hK => ?_)
   refine ge_ Try.func38 #[.agg #[.slice e8 a5.length e6, .slice e9 a4.length e7]] ?_
   with_reducible refine (spec_YesOf.calls k _ _ a5 _ _ a4 b3 _ ?side1 ?side2 ?side3 ?side4 h0.out).mono ?_
   (case side1 => repeat (first | exact (Kd.S_reads' a3.out).2.2 | (with_reducible refine Kd.C_alloc ?_ _) | (with_reducible refine Kd.C_drewN ?_ _) | (with_reducible refine Kd.C_drew ?_)))
   (case side2 => exact (Kd.S_reads' a3.out).2.1)
   (case side3 => repeat (first | exact (Kd.Q_reads' a2.out).2.2 | (with_reducible refine Kd.C_alloc ?_ _) | (with_reducible refine Kd.C_drewN ?_ _) | (with_reducible refine Kd.C_drew ?_)))
   (case side4 => exact (Kd.Q_reads' a2.out).2.1)
   rintro e l7 ⟨rfl, hb⟩
   refine ⟨_, rfl, ?_⟩
   replace a3 := ak (Kd.S_below (xS a3.out) hb)
   replace a2 := ak (Kd.Q_below (xQ a2.out) hb)
   replace a1 := ak (blk_below (g := a6) (o := .cells #[.slice e8 a5.length e6, .slice e9 a4.length e7] 27 (0, 0)) (xb a1.out) hb)
   replace HB := ak (below_step zi_0 hb)
   (try clear hb)
   (try clear hb2)
   (try clear hk)
   (try clear hi)
   refine hK.out _ _ ⟨(blk_cell a1.out 0).trans rfl, (blk_cell a1.out 1).trans rfl⟩ (fun hHeld => ?_)
   clear hK K
   refine no_ (N := some 35) ?_
   refine pu_ (i := 5) (N := some 36) (bA 8 63) ?_
   refine pu_ (i := 6) (N := some 37) (bA 8 127) ?_
   refine pu_ (i := 7) (N := some 6) (bA 8 255) ?_
   refine done_ (done_of HT_.out zi_20) ?_
   try go_wp2
   replace a3 := ak (Kd.S_drew a3.out)
   replace a2 := ak (Kd.Q_drew a2.out)
   replace a1 := ak (blk_drew a1.out)
   replace HB := ak (below_drew1 HB.out)
   refine start_ (n := 24) (S := fun w' => True) (ds := []) (bA 24 0) zi_20 rfl rfl trivial (fun hHeld => ?_); refine with_tabW laws_FnSubOk.tab10 laws_FnSubOk.bits10 (fun HT_ HW_ => ?_)
   generalize l7.drew = n4 at a3 a2 a1 HB hHeld ⊢
   refine pu_ (i := 0) (N := some 38) (bA 24 1) ?_
   refine pu_ (i := 1) (N := some 39) (bA 24 3) ?_
   refine pu_ (i := 2) (N := some 40) (bA 24 7) ?_
   refine pu_ (i := 3) (N := some 41) (bA 24 15) ?_
   refine pu_ (i := 4) (N := some 42) (bA 24 31) ?_
   refine pu_ (i := 5) (N := some 43) (bA 24 63) ?_
   refine pu_ (i := 6) (N := some 44) (bA 24 127) ?_
   refine pu_ (i := 7) (N := some 45) (bA 24 255) ?_
   refine pu_ (i := 8) (N := some 46) (bA 24 511) ?_
   refine pu_ (i := 9) (N := some 47) (bA 24 1023) ?_
   refine of_ (i := 10) (N := some 48) (bA 24 2047) ?_
   refine of_ (i := 11) (N := some 49) (bA 24 4095) ?_
   refine of_ (i := 12) (N := some 50) (bA 24 8191) ?_
   refine pu_ (i := 13) (N := some 51) (bA 24 16383) ?_
   refine pu_ (i := 14) (N := some 52) (bA 24 32767) ?_
   refine of_ (i := 15) (N := some 53) (bA 24 65535) ?_
   refine of_ (i := 16) (N := some 54) (bA 24 131071) ?_
   refine of_ (i := 17) (N := some 55) (bA 24 262143) ?_
   refine of_ (i := 18) (N := some 56) (bA 24 524287) ?_
   refine of_ (i := 19) (N := some 57) (bA 24 1048575) ?_
   refine of_ (i := 20) (N := some 58) (bA 24 2097151) ?_
   refine of_ (i := 21) (N := some 59) (bA 24 4194303) ?_
   refine pu_ (i := 22) (N := some 60) (bA 24 8388607) ?_
   refine pu_ (i := 23) (N := some 2) (bA 24 16777215) ?_
   refine done_ (done_of HT_.out zi_20) ?_
   try go_wp2
   go_ret
   exact ⟨zi_3, zi_0⟩
  replace H := bd_ H
  obtain ⟨g5, j6, H⟩ := H
  try dsimp only at H
  replace H := ox_ H
  rcases H with ⟨rfl, H⟩ | ⟨rfl, H⟩
  ·
   obtain ⟨ji76, hji76⟩ : ∃ j_ : Int, (shl .i64 1 (a4.length : Int)) = j_ := ⟨_, rfl⟩
   replace H : ((impl_SubOk.f a5 a4 (wrap64 ((ji76) - 1))).bind fun f9 => (some f9)) = some r := by first | (rw [hji76] at H; exact H) | (simp only [hji76] at H ⊢; exact H)
   (try rw [hji76] at A3)
   (try rw [hji76] at A4)
   (try rw [hji76] at A5)
   (try rw [hji76] at g6)
   (try rw [hji76] at g7)
   (try rw [hji76] at h0)
   (try rw [hji76] at j6)
   have hji76_ : (IntKind.i64.wrap (1 * 2 ^ min (a4.length : Int).toNat 64)) = ji76 := hji76
   have hji76z : (a4.length : Int) ≤ 64 → (IntKind.i64.wrap (1 * 2 ^ (a4.length : Int).toNat)) = ji76 := shl_small hji76
   have hji76p : (IntKind.i64.wrap (1 * 2 ^ min a4.length 64)) = ji76 := hji76_
   have hji76q : (a4.length : Int) ≤ 64 → (IntKind.i64.wrap (1 * 2 ^ a4.length)) = ji76 := hji76z
   have hji76r : (IntKind.i64.wrap (2 ^ min a4.length 64)) = ji76 := by have h_ := hji76p; rw [Int.one_mul] at h_; exact h_
   have hji76s : (a4.length : Int) ≤ 64 → (IntKind.i64.wrap (2 ^ a4.length)) = ji76 := fun hle_ => by have h_ := hji76q hle_; rw [Int.one_mul] at h_; exact h_
   have hji76u : (IntKind.i64.wrap (2 ^ min (a4.length : Int).toNat 64)) = ji76 := by have h_ := hji76_; rw [Int.one_mul] at h_; exact h_
   have hji76v : (a4.length : Int) ≤ 64 → (IntKind.i64.wrap (2 ^ (a4.length : Int).toNat)) = ji76 := fun hle_ => by have h_ := hji76z hle_; rw [Int.one_mul] at h_; exact h_
   have hji76y : (wrap64 (1 * 2 ^ min (a4.length : Int).toNat 64)) = ji76 := (i64_w _).symm.trans hji76_
   have hji76x : (a4.length : Int) ≤ 64 → (wrap64 (1 * 2 ^ (a4.length : Int).toNat)) = ji76 := fun h_ => (i64_w _).symm.trans (hji76z h_)
   replace H := bd_ H
   obtain ⟨f9, l8, H⟩ := H
   try dsimp only at H
   obtain rfl := Option.some.inj H
   go_enter Try.func7, Try.ntmps7
   try go_wp2_with (first | ((with_reducible refine gate_callee (f := 35) rfl ?_); refine gl_ (some 12) Try.func35 #[.slice A0 l0.length c0] ?_; (with_reducible refine (spec_DrawSubOk.calls k _ _ l0 a5 a4 a7 _ (y4 HR0.out) g9.out A3.out).mono ?_); rintro e w' ⟨g2, g3, rfl, ho0, ho1, hb⟩; refine ⟨_, rfl, ?_⟩; have a3 := ak (Kd.S_lower ho0 (below_size zi_1)); have a2 := ak (Kd.Q_lower ho1 (below_size zi_1)); replace HB := ak (below_step zi_1 hb); (try clear hb); (try clear hb2); (try clear hk); (try clear hi); (try clear ho0); (try clear ho1)) | ((with_reducible refine gate_dst (N := 3) rfl ?_); (try (refine gate_guard (by rfl) ?_; dsimp only)); refine box_event ?hg (N := 3) ?hd (cs := #[.slice none 0 0, .slice none 0 0]) (t := 27) ?hr ?_; (case hd => rfl); (case hg => rfl); (case hr => first | (go_simp; done) | (go_simp; rfl)); intro a6 hg n5 hbox hb; replace a3 := ak (Kd.S_below (xS a3.out) hb); replace a2 := ak (Kd.Q_below (xQ a2.out) hb); have a1 := ak (hbox); have f6 := ak ((by rw [hg]; exact (below_size zi_1) : w.heap.size ≤ a6)); have f5 := ak ((by rw [hg]; exact (below_size zi_1) : w.heap.size ≤ a6)); replace HB := ak (below_step zi_1 hb); clear hb hbox hg; obtain ⟨d1, b7, j7⟩ := Kd.S_slice a3.out; subst j7; have a9 := cz20 a1.out; have b0 := cz21 a1.out; have b1 := blk_frozen a1.out 0; have b2 := blk_frozen a1.out 1; obtain ⟨d2, b8, j8, _⟩ := Kd.Q_slice a2.out; subst j8) | ((with_reducible refine gate_callee (f := 34) rfl ?_); refine gl_ (some 17) Try.func34 #[.agg #[.slice d1 a5.length b7, .slice d2 a4.length b8], .int .i64 a7] ?_; (with_reducible refine (impl_SubOk.calls _ _ a5 _ _ a4 a7 false _ (by refine (Kd.S_reads' (e := 25) (base := w.heap.size) (ok := fun k_ => some k_ ≠ (.slice d2 a4.length b8 : Value).ownBlock) (n := a5.length) (c := b7) ?_).2.2; exact zi_9) (y2 a3.out) (by refine (Kd.Q_reads' (e := 3) (base := w.heap.size) (ok := fun k_ => True) (n := a4.length) (c := b8) ?_).2.2; exact zi_14) (y2 a2.out) A4.out).mono ?_); rintro e w' ⟨rfl, hb⟩; refine ⟨_, rfl, ?_⟩; replace a3 := ak (Kd.S_below zi_9 hb); replace a2 := ak (Kd.Q_below zi_14 hb); replace a1 := ak (blk_below (g := a6) (o := .cells #[.slice d1 a5.length b7, .slice d2 a4.length b8] 27 (0, 0)) (by (with_reducible repeat (first | refine blk_drewN ?_ _ | refine blk_drew ?_ | refine blk_alloc ?_ _)); refine blk_put (cs := #[.slice d1 a5.length b7, .slice none 0 0]) ?_ 1 _ rfl; (with_reducible repeat (first | refine blk_drewN ?_ _ | refine blk_drew ?_ | refine blk_alloc ?_ _)); refine blk_put (cs := #[.slice none 0 0, .slice none 0 0]) ?_ 0 _ rfl; (with_reducible repeat (first | refine blk_drewN ?_ _ | refine blk_drew ?_ | refine blk_alloc ?_ _)); exact a1.out) hb); replace HB := ak (below_step zi_0 hb); (try clear hb); (try clear hb2); (try clear hk); (try clear hi); have a9 := cz20 a1.out; have b0 := cz21 a1.out; have b1 := blk_frozen a1.out 0; have b2 := blk_frozen a1.out 1) | ((with_reducible refine gate_callee (f := 36) rfl ?_); refine gl_ (some 21) Try.func36 #[.agg #[.slice d1 a5.length b7, .slice d2 a4.length b8], .int .i64 a7] ?_; (with_reducible refine (spec_SubOk.calls k _ _ a5 _ _ a4 a7 e1 _ (y1 a3.out) (y2 a3.out) (y1 a2.out) (y2 a2.out) A5.out).mono ?_); rintro e w' ⟨rfl, hb⟩; refine ⟨_, rfl, ?_⟩; replace a3 := ak (Kd.S_below (xS a3.out) hb); replace a2 := ak (Kd.Q_below (xQ a2.out) hb); replace a1 := ak (blk_below (g := a6) (o := .cells #[.slice d1 a5.length b7, .slice d2 a4.length b8] 27 (0, 0)) (xb a1.out) hb); replace HB := ak (below_step zi_0 hb); (try clear hb); (try clear hb2); (try clear hk); (try clear hi); have a9 := cz20 a1.out; have b0 := cz21 a1.out; have b1 := blk_frozen a1.out 0; have b2 := blk_frozen a1.out 1) | ((with_reducible refine gate_callee (f := 30) rfl ?_); refine gl_ (some 24) Try.func30 #[.agg #[.slice d1 a5.length b7, .slice d2 a4.length b8]] ?_; (with_reducible refine (spec_LogicOk.calls k _ _ a5 _ _ a4 true _ (y1 a3.out) (y2 a3.out) (y1 a2.out) (y2 a2.out) g6.out).mono ?_); rintro e l9 ⟨rfl, hb⟩; refine ⟨_, rfl, ?_⟩; replace a3 := ak (Kd.S_below (xS a3.out) hb); replace a2 := ak (Kd.Q_below (xQ a2.out) hb); replace a1 := ak (blk_below (g := a6) (o := .cells #[.slice d1 a5.length b7, .slice d2 a4.length b8] 27 (0, 0)) (xb a1.out) hb); replace HB := ak (below_step zi_0 hb); (try clear hb); (try clear hb2); (try clear hk); (try clear hi)))
   replace a3 := ak (Kd.S_drew a3.out)
   replace a2 := ak (Kd.Q_drew a2.out)
   replace a1 := ak (blk_drew a1.out)
   replace HB := ak (below_drew1 HB.out)
   refine start_ (n := 8) (S := fun w' => w'.cell? ⟨a6, 0, none⟩ = some (.slice d1 a5.length b7) ∧ w'.cell? ⟨a6, 1, none⟩ = some (.slice d2 a4.length b8)) (ds := []) (bA 8 0) zi_20 rfl rfl ⟨(blk_cell a1.out 0).trans rfl, (blk_cell a1.out 1).trans rfl⟩ (fun hHeld => ?_); refine with_tabW laws_FnSubOk.tab9 laws_FnSubOk.bits9 (fun HT_ HW_ => ?_)
   generalize l9.drew = n6 at a3 a2 a1 HB hHeld ⊢
   refine tk_ (i := 0) (N := some 31) (bA 8 1) ?_
   refine tk_ (i := 3) (N := some 34) (bA 8 9) ?_
   refine one_ (i := 1) (N := some 32) (bA 8 11) rfl rfl (one_of HT_.out zi_20) (by decide) (fun K hK => ?_)
   refine ge_ Try.func37 #[.agg #[.slice d1 a5.length b7, .slice d2 a4.length b8]] ?_
   with_reducible refine (spec_NoOf.calls k _ _ a5 _ _ a4 b4 _ ?side1 ?side2 ?side3 ?side4 g7.out).mono ?_
   (case side1 => repeat (first | exact (Kd.S_reads' a3.out).2.2 | (with_reducible refine Kd.C_alloc ?_ _) | (with_reducible refine Kd.C_drewN ?_ _) | (with_reducible refine Kd.C_drew ?_)))
   (case side2 => exact (Kd.S_reads' a3.out).2.1)
   (case side3 => repeat (first | exact (Kd.Q_reads' a2.out).2.2 | (with_reducible refine Kd.C_alloc ?_ _) | (with_reducible refine Kd.C_drewN ?_ _) | (with_reducible refine Kd.C_drew ?_)))
   (case side4 => exact (Kd.Q_reads' a2.out).2.1)
   rintro e w' ⟨rfl, hb⟩
   refine ⟨_, rfl, ?_⟩
   replace a3 := ak (Kd.S_below (xS a3.out) hb)
   replace a2 := ak (Kd.Q_below (xQ a2.out) hb)
   replace a1 := ak (blk_below (g := a6) (o := .cells #[.slice d1 a5.length b7, .slice d2 a4.length b8] 27 (0, 0)) (xb a1.out) hb)
   replace HB := ak (below_step zi_0 hb)
   (try clear hb)
   (try clear hb2)
   (try clear hk)
   (try clear hi)
   refine hK.out _ _ ⟨(blk_cell a1.out 0).trans rfl, (blk_cell a1.out 1).trans rfl⟩ (fun hHeld => ?_)
   clear hK K
   refine no_ (N := some 32) ?_
   refine pu_ (i := 2) (N := some 33) (bA 8 15) ?_
   refine one_ (i := 4) (N := some 35) (bA 8 31) rfl rfl (one_of HT_.out zi_20) (by decide) (fun K hK => ?_)
   refine ge_ Try.func38 #[.agg #[.slice d1 a5.length b7, .slice d2 a4.length b8]] ?_
   with_reducible refine (spec_YesOf.calls k _ _ a5 _ _ a4 b3 _ ?side1 ?side2 ?side3 ?side4 h0.out).mono ?_
   (case side1 => repeat (first | exact (Kd.S_reads' a3.out).2.2 | (with_reducible refine Kd.C_alloc ?_ _) | (with_reducible refine Kd.C_drewN ?_ _) | (with_reducible refine Kd.C_drew ?_)))
   (case side2 => exact (Kd.S_reads' a3.out).2.1)
   (case side3 => repeat (first | exact (Kd.Q_reads' a2.out).2.2 | (with_reducible refine Kd.C_alloc ?_ _) | (with_reducible refine Kd.C_drewN ?_ _) | (with_reducible refine Kd.C_drew ?_)))
   (case side4 => exact (Kd.Q_reads' a2.out).2.1)
   rintro e m0 ⟨rfl, hb⟩
   refine ⟨_, rfl, ?_⟩
   replace a3 := ak (Kd.S_below (xS a3.out) hb)
   replace a2 := ak (Kd.Q_below (xQ a2.out) hb)
   replace a1 := ak (blk_below (g := a6) (o := .cells #[.slice d1 a5.length b7, .slice d2 a4.length b8] 27 (0, 0)) (xb a1.out) hb)
   replace HB := ak (below_step zi_0 hb)
   (try clear hb)
   (try clear hb2)
   (try clear hk)
   (try clear hi)
   refine hK.out _ _ ⟨(blk_cell a1.out 0).trans rfl, (blk_cell a1.out 1).trans rfl⟩ (fun hHeld => ?_)
   clear hK K
   refine no_ (N := some 35) ?_
   refine pu_ (i := 5) (N := some 36) (bA 8 63) ?_
   refine pu_ (i := 6) (N := some 37) (bA 8 127) ?_
   refine pu_ (i := 7) (N := some 6) (bA 8 255) ?_
   refine done_ (done_of HT_.out zi_20) ?_
   try go_wp2
   replace a3 := ak (Kd.S_drew a3.out)
   replace a2 := ak (Kd.Q_drew a2.out)
   replace a1 := ak (blk_drew a1.out)
   replace HB := ak (below_drew1 HB.out)
   refine start_ (n := 24) (S := fun w' => w'.cell? ⟨a6, 0, none⟩ = some (.slice d1 a5.length b7) ∧ w'.cell? ⟨a6, 1, none⟩ = some (.slice d2 a4.length b8)) (ds := []) (bA 24 0) zi_20 rfl rfl ⟨(blk_cell a1.out 0).trans rfl, (blk_cell a1.out 1).trans rfl⟩ (fun hHeld => ?_); refine with_tabW laws_FnSubOk.tab10 laws_FnSubOk.bits10 (fun HT_ HW_ => ?_)
   generalize m0.drew = n7 at a3 a2 a1 HB hHeld ⊢
   refine pu_ (i := 0) (N := some 38) (bA 24 1) ?_
   refine pu_ (i := 1) (N := some 39) (bA 24 3) ?_
   refine pu_ (i := 2) (N := some 40) (bA 24 7) ?_
   refine of_ (i := 3) (N := some 41) (bA 24 15) ?_
   refine of_ (i := 4) (N := some 42) (bA 24 31) ?_
   refine of_ (i := 5) (N := some 43) (bA 24 63) ?_
   refine of_ (i := 6) (N := some 44) (bA 24 127) ?_
   refine of_ (i := 7) (N := some 45) (bA 24 255) ?_
   refine pu_ (i := 8) (N := some 46) (bA 24 511) ?_
   refine pu_ (i := 9) (N := some 47) (bA 24 1023) ?_
   refine pu_ (i := 11) (N := some 49) (bA 24 3071) ?_
   refine tk_ (i := 10) (N := some 48) (bA 24 4095) ?_
   refine one_ (i := 12) (N := some 50) (bA 24 8191) rfl rfl (one_of HT_.out zi_20) (by decide) (fun K hK => ?_)
   refine goes_ Try.func34 zi_20 rfl #[.agg #[.slice d1 a5.length b7, .slice d2 a4.length b8], .int .i64 (Go.bits .or .i64 (ji19) (ji22))] (by rfl) rfl rfl zi_2 ?_
   with_reducible refine (impl_SubOk.calls _ _ a5 _ _ a4 (Go.bits .or .i64 (ji19) (ji22)) true _ ?side1 ?side2 ?side3 ?side4 j6.out).mono ?_
   (case side1 => repeat (first | exact (Kd.S_reads' a3.out).2.2 | (with_reducible refine Kd.C_alloc ?_ _) | (with_reducible refine Kd.C_drewN ?_ _) | (with_reducible refine Kd.C_drew ?_)))
   (case side2 => exact (Kd.S_reads' a3.out).2.1)
   (case side3 => repeat (first | exact (Kd.Q_reads' a2.out).2.2 | (with_reducible refine Kd.C_alloc ?_ _) | (with_reducible refine Kd.C_drewN ?_ _) | (with_reducible refine Kd.C_drew ?_)))
   (case side4 => exact (Kd.Q_reads' a2.out).2.1)
   rintro e w' ⟨rfl, hb⟩
   refine ⟨_, rfl, ?_⟩
   replace a3 := ak (Kd.S_below (xS a3.out) hb)
   replace a2 := ak (Kd.Q_below (xQ a2.out) hb)
   replace a1 := ak (blk_below (g := a6) (o := .cells #[.slice d1 a5.length b7, .slice d2 a4.length b8] 27 (0, 0)) (xb a1.out) hb)
   replace HB := ak (below_step zi_0 hb)
   (try clear hb)
   (try clear hb2)
   (try clear hk)
   (try clear hi)
   refine hK.out _ _ ⟨(blk_cell a1.out 0).trans rfl, (blk_cell a1.out 1).trans rfl⟩ (fun hHeld => ?_)
   clear hK K
   refine no_ (N := some 50) ?_
   refine pu_ (i := 13) (N := some 51) (bA 24 16383) ?_
   refine pu_ (i := 14) (N := some 52) (bA 24 32767) ?_
   refine pu_ (i := 16) (N := some 54) (bA 24 98303) ?_
   refine tk_ (i := 15) (N := some 53) (bA 24 131071) ?_
   refine tk_ (i := 17) (N := some 55) (bA 24 262143) ?_
   refine pu_ (i := 18) (N := some 56) (bA 24 524287) ?_
   refine pu_ (i := 19) (N := some 57) (bA 24 1048575) ?_
   refine pu_ (i := 20) (N := some 58) (bA 24 2097151) ?_
   refine one_ (i := 21) (N := some 59) (bA 24 4194303) rfl rfl (one_of HT_.out zi_20) (by decide) (fun K hK => ?_)
   refine goes_ Try.func34 zi_20 rfl #[.agg #[.slice d1 a5.length b7, .slice d2 a4.length b8], .int .i64 (wrap64 ((ji76) - 1))] (by rfl) rfl rfl (by (try simp only [List.map_toArray, List.map_cons, List.map_nil]); first | done | (simp only [hji76]; rfl) | rfl | (simp only [List.length_drop, List.length_take]; rfl)) ?_
   with_reducible refine (impl_SubOk.calls _ _ a5 _ _ a4 (wrap64 ((ji76) - 1)) f9 _ ?side1 ?side2 ?side3 ?side4 l8.out).mono ?_
   (case side1 => repeat (first | exact (Kd.S_reads' a3.out).2.2 | (with_reducible refine Kd.C_alloc ?_ _) | (with_reducible refine Kd.C_drewN ?_ _) | (with_reducible refine Kd.C_drew ?_)))
   (case side2 => exact (Kd.S_reads' a3.out).2.1)
   (case side3 => repeat (first | exact (Kd.Q_reads' a2.out).2.2 | (with_reducible refine Kd.C_alloc ?_ _) | (with_reducible refine Kd.C_drewN ?_ _) | (with_reducible refine Kd.C_drew ?_)))
   (case side4 => exact (Kd.Q_reads' a2.out).2.1)
   rintro e w' ⟨rfl, hb⟩
   refine ⟨_, rfl, ?_⟩
   replace a3 := ak (Kd.S_below (xS a3.out) hb)
   replace a2 := ak (Kd.Q_below (xQ a2.out) hb)
   replace a1 := ak (blk_below (g := a6) (o := .cells #[.slice d1 a5.length b7, .slice d2 a4.length b8] 27 (0, 0)) (xb a1.out) hb)
   replace HB := ak (below_step zi_0 hb)
   (try clear hb)
   (try clear hb2)
   (try clear hk)
   (try clear hi)
   refine hK.out _ _ ⟨(blk_cell a1.out 0).trans rfl, (blk_cell a1.out 1).trans rfl⟩ (fun hHeld => ?_)
   clear hK K
   refine no_ (N := some 59) ?_
   refine pu_ (i := 22) (N := some 60) (bA 24 8388607) ?_
   refine pu_ (i := 23) (N := some 2) (bA 24 16777215) ?_
   refine done_ (done_of HT_.out zi_20) ?_
   try go_wp2
   go_ret
   exact ⟨(by first | rfl | (simp [errW_none, errW_some] <;> rfl) | (simp only [← hji19, ← hji22, ← hji76]; first | rfl | (simp [errW_none, errW_some] <;> rfl)) | (simp [*, errW_none, errW_some] <;> rfl)), zi_0⟩
  obtain rfl := Option.some.inj H
  go_enter Try.func7, Try.ntmps7
  try go_wp2_with (first | ((with_reducible refine gate_callee (f := 35) rfl ?_); refine gl_ (some 12) Try.func35 #[.slice A0 l0.length c0] ?_; (with_reducible refine (spec_DrawSubOk.calls k _ _ l0 a5 a4 a7 _ (y4 HR0.out) g9.out A3.out).mono ?_); rintro e w' ⟨g2, g3, rfl, ho0, ho1, hb⟩; refine ⟨_, rfl, ?_⟩; have a3 := ak (Kd.S_lower ho0 (below_size zi_1)); have a2 := ak (Kd.Q_lower ho1 (below_size zi_1)); replace HB := ak (below_step zi_1 hb); (try clear hb); (try clear hb2); (try clear hk); (try clear hi); (try clear ho0); (try clear ho1)) | ((with_reducible refine gate_dst (N := 3) rfl ?_); (try (refine gate_guard (by rfl) ?_; dsimp only)); refine box_event ?hg (N := 3) ?hd (cs := #[.slice none 0 0, .slice none 0 0]) (t := 27) ?hr ?_; (case hd => rfl); (case hg => rfl); (case hr => first | (go_simp; done) | (go_simp; rfl)); intro a6 hg n8 hbox hb; replace a3 := ak (Kd.S_below (xS a3.out) hb); replace a2 := ak (Kd.Q_below (xQ a2.out) hb); have a1 := ak (hbox); have f6 := ak ((by rw [hg]; exact (below_size zi_1) : w.heap.size ≤ a6)); have f5 := ak ((by rw [hg]; exact (below_size zi_1) : w.heap.size ≤ a6)); replace HB := ak (below_step zi_1 hb); clear hb hbox hg; obtain ⟨d9, d5, j9⟩ := Kd.S_slice a3.out; subst j9; have a9 := cz20 a1.out; have b0 := cz21 a1.out; have b1 := blk_frozen a1.out 0; have b2 := blk_frozen a1.out 1; obtain ⟨e0, d6, k0, _⟩ := Kd.Q_slice a2.out; subst k0) | ((with_reducible refine gate_callee (f := 34) rfl ?_); refine gl_ (some 17) Try.func34 #[.agg #[.slice d9 a5.length d5, .slice e0 a4.length d6], .int .i64 a7] ?_; (with_reducible refine (impl_SubOk.calls _ _ a5 _ _ a4 a7 false _ (by refine (Kd.S_reads' (e := 25) (base := w.heap.size) (ok := fun k_ => some k_ ≠ (.slice e0 a4.length d6 : Value).ownBlock) (n := a5.length) (c := d5) ?_).2.2; exact zi_8) (y2 a3.out) (by refine (Kd.Q_reads' (e := 3) (base := w.heap.size) (ok := fun k_ => True) (n := a4.length) (c := d6) ?_).2.2; exact zi_13) (y2 a2.out) A4.out).mono ?_); rintro e w' ⟨rfl, hb⟩; refine ⟨_, rfl, ?_⟩; replace a3 := ak (Kd.S_below zi_8 hb); replace a2 := ak (Kd.Q_below zi_13 hb); replace a1 := ak (blk_below (g := a6) (o := .cells #[.slice d9 a5.length d5, .slice e0 a4.length d6] 27 (0, 0)) (by (with_reducible repeat (first | refine blk_drewN ?_ _ | refine blk_drew ?_ | refine blk_alloc ?_ _)); refine blk_put (cs := #[.slice d9 a5.length d5, .slice none 0 0]) ?_ 1 _ rfl; (with_reducible repeat (first | refine blk_drewN ?_ _ | refine blk_drew ?_ | refine blk_alloc ?_ _)); refine blk_put (cs := #[.slice none 0 0, .slice none 0 0]) ?_ 0 _ rfl; (with_reducible repeat (first | refine blk_drewN ?_ _ | refine blk_drew ?_ | refine blk_alloc ?_ _)); exact a1.out) hb); replace HB := ak (below_step zi_0 hb); (try clear hb); (try clear hb2); (try clear hk); (try clear hi); have a9 := cz20 a1.out; have b0 := cz21 a1.out; have b1 := blk_frozen a1.out 0; have b2 := blk_frozen a1.out 1) | ((with_reducible refine gate_callee (f := 36) rfl ?_); refine gl_ (some 21) Try.func36 #[.agg #[.slice d9 a5.length d5, .slice e0 a4.length d6], .int .i64 a7] ?_; (with_reducible refine (spec_SubOk.calls k _ _ a5 _ _ a4 a7 e1 _ (y1 a3.out) (y2 a3.out) (y1 a2.out) (y2 a2.out) A5.out).mono ?_); rintro e w' ⟨rfl, hb⟩; refine ⟨_, rfl, ?_⟩; replace a3 := ak (Kd.S_below (xS a3.out) hb); replace a2 := ak (Kd.Q_below (xQ a2.out) hb); replace a1 := ak (blk_below (g := a6) (o := .cells #[.slice d9 a5.length d5, .slice e0 a4.length d6] 27 (0, 0)) (xb a1.out) hb); replace HB := ak (below_step zi_0 hb); (try clear hb); (try clear hb2); (try clear hk); (try clear hi); have a9 := cz20 a1.out; have b0 := cz21 a1.out; have b1 := blk_frozen a1.out 0; have b2 := blk_frozen a1.out 1) | ((with_reducible refine gate_callee (f := 30) rfl ?_); refine gl_ (some 24) Try.func30 #[.agg #[.slice d9 a5.length d5, .slice e0 a4.length d6]] ?_; (with_reducible refine (spec_LogicOk.calls k _ _ a5 _ _ a4 true _ (y1 a3.out) (y2 a3.out) (y1 a2.out) (y2 a2.out) g6.out).mono ?_); rintro e k1 ⟨rfl, hb⟩; refine ⟨_, rfl, ?_⟩; replace a3 := ak (Kd.S_below (xS a3.out) hb); replace a2 := ak (Kd.Q_below (xQ a2.out) hb); replace a1 := ak (blk_below (g := a6) (o := .cells #[.slice d9 a5.length d5, .slice e0 a4.length d6] 27 (0, 0)) (xb a1.out) hb); replace HB := ak (below_step zi_0 hb); (try clear hb); (try clear hb2); (try clear hk); (try clear hi)))
  replace a3 := ak (Kd.S_drew a3.out)
  replace a2 := ak (Kd.Q_drew a2.out)
  replace a1 := ak (blk_drew a1.out)
  replace HB := ak (below_drew1 HB.out)
  refine start_ (n := 8) (S := fun w' => w'.cell? ⟨a6, 0, none⟩ = some (.slice d9 a5.length d5) ∧ w'.cell? ⟨a6, 1, none⟩ = some (.slice e0 a4.length d6)) (ds := []) (bA 8 0) zi_20 rfl rfl ⟨(blk_cell a1.out 0).trans rfl, (blk_cell a1.out 1).trans rfl⟩ (fun hHeld => ?_); refine with_tabW laws_FnSubOk.tab9 laws_FnSubOk.bits9 (fun HT_ HW_ => ?_)
  generalize k1.drew = m1 at a3 a2 a1 HB hHeld ⊢
  refine tk_ (i := 0) (N := some 31) (bA 8 1) ?_
  refine tk_ (i := 3) (N := some 34) (bA 8 9) ?_
  refine one_ (i := 1) (N := some 32) (bA 8 11) rfl rfl (one_of HT_.out zi_20) (by decide) (fun K hK => ?_)
  refine ge_ Try.func37 #[.agg #[.slice d9 a5.length d5, .slice e0 a4.length d6]] ?_
  with_reducible refine (spec_NoOf.calls k _ _ a5 _ _ a4 b4 _ ?side1 ?side2 ?side3 ?side4 g7.out).mono ?_
  (case side1 => repeat (first | exact (Kd.S_reads' a3.out).2.2 | (with_reducible refine Kd.C_alloc ?_ _) | (with_reducible refine Kd.C_drewN ?_ _) | (with_reducible refine Kd.C_drew ?_)))
  (case side2 => exact (Kd.S_reads' a3.out).2.1)
  (case side3 => repeat (first | exact (Kd.Q_reads' a2.out).2.2 | (with_reducible refine Kd.C_alloc ?_ _) | (with_reducible refine Kd.C_drewN ?_ _) | (with_reducible refine Kd.C_drew ?_)))
  (case side4 => exact (Kd.Q_reads' a2.out).2.1)
  rintro e w' ⟨rfl, hb⟩
  refine ⟨_, rfl, ?_⟩
  replace a3 := ak (Kd.S_below (xS a3.out) hb)
  replace a2 := ak (Kd.Q_below (xQ a2.out) hb)
  replace a1 := ak (blk_below (g := a6) (o := .cells #[.slice d9 a5.length d5, .slice e0 a4.length d6] 27 (0, 0)) (xb a1.out) hb)
  replace HB := ak (below_step zi_0 hb)
  (try clear hb)
  (try clear hb2)
  (try clear hk)
  (try clear hi)
  refine hK.out _ _ ⟨(blk_cell a1.out 0).trans rfl, (blk_cell a1.out 1).trans rfl⟩ (fun hHeld => ?_)
  clear hK K
  refine no_ (N := some 32) ?_
  refine pu_ (i := 2) (N := some 33) (bA 8 15) ?_
  refine one_ (i := 4) (N := some 35) (bA 8 31) rfl rfl (one_of HT_.out zi_20) (by decide) (fun K hK => ?_)
  refine ge_ Try.func38 #[.agg #[.slice d9 a5.length d5, .slice e0 a4.length d6]] ?_
  with_reducible refine (spec_YesOf.calls k _ _ a5 _ _ a4 b3 _ ?side1 ?side2 ?side3 ?side4 h0.out).mono ?_
  (case side1 => repeat (first | exact (Kd.S_reads' a3.out).2.2 | (with_reducible refine Kd.C_alloc ?_ _) | (with_reducible refine Kd.C_drewN ?_ _) | (with_reducible refine Kd.C_drew ?_)))
  (case side2 => exact (Kd.S_reads' a3.out).2.1)
  (case side3 => repeat (first | exact (Kd.Q_reads' a2.out).2.2 | (with_reducible refine Kd.C_alloc ?_ _) | (with_reducible refine Kd.C_drewN ?_ _) | (with_reducible refine Kd.C_drew ?_)))
  (case side4 => exact (Kd.Q_reads' a2.out).2.1)
  rintro e k2 ⟨rfl, hb⟩
  refine ⟨_, rfl, ?_⟩
  replace a3 := ak (Kd.S_below (xS a3.out) hb)
  replace a2 := ak (Kd.Q_below (xQ a2.out) hb)
  replace a1 := ak (blk_below (g := a6) (o := .cells #[.slice d9 a5.length d5, .slice e0 a4.length d6] 27 (0, 0)) (xb a1.out) hb)
  replace HB := ak (below_step zi_0 hb)
  (try clear hb)
  (try clear hb2)
  (try clear hk)
  (try clear hi)
  refine hK.out _ _ ⟨(blk_cell a1.out 0).trans rfl, (blk_cell a1.out 1).trans rfl⟩ (fun hHeld => ?_)
  clear hK K
  refine no_ (N := some 35) ?_
  refine pu_ (i := 5) (N := some 36) (bA 8 63) ?_
  refine pu_ (i := 6) (N := some 37) (bA 8 127) ?_
  refine pu_ (i := 7) (N := some 6) (bA 8 255) ?_
  refine done_ (done_of HT_.out zi_20) ?_
  try go_wp2
  replace a3 := ak (Kd.S_drew a3.out)
  replace a2 := ak (Kd.Q_drew a2.out)
  replace a1 := ak (blk_drew a1.out)
  replace HB := ak (below_drew1 HB.out)
  refine start_ (n := 24) (S := fun w' => w'.cell? ⟨a6, 0, none⟩ = some (.slice d9 a5.length d5) ∧ w'.cell? ⟨a6, 1, none⟩ = some (.slice e0 a4.length d6)) (ds := []) (bA 24 0) zi_20 rfl rfl ⟨(blk_cell a1.out 0).trans rfl, (blk_cell a1.out 1).trans rfl⟩ (fun hHeld => ?_); refine with_tabW laws_FnSubOk.tab10 laws_FnSubOk.bits10 (fun HT_ HW_ => ?_)
  generalize k2.drew = m2 at a3 a2 a1 HB hHeld ⊢
  refine pu_ (i := 0) (N := some 38) (bA 24 1) ?_
  refine pu_ (i := 1) (N := some 39) (bA 24 3) ?_
  refine pu_ (i := 2) (N := some 40) (bA 24 7) ?_
  refine of_ (i := 3) (N := some 41) (bA 24 15) ?_
  refine of_ (i := 4) (N := some 42) (bA 24 31) ?_
  refine of_ (i := 5) (N := some 43) (bA 24 63) ?_
  refine of_ (i := 6) (N := some 44) (bA 24 127) ?_
  refine of_ (i := 7) (N := some 45) (bA 24 255) ?_
  refine pu_ (i := 8) (N := some 46) (bA 24 511) ?_
  refine pu_ (i := 9) (N := some 47) (bA 24 1023) ?_
  refine pu_ (i := 11) (N := some 49) (bA 24 3071) ?_
  refine tk_ (i := 10) (N := some 48) (bA 24 4095) ?_
  refine one_ (i := 12) (N := some 50) (bA 24 8191) rfl rfl (one_of HT_.out zi_20) (by decide) (fun K hK => ?_)
  refine goes_ Try.func34 zi_20 rfl #[.agg #[.slice d9 a5.length d5, .slice e0 a4.length d6], .int .i64 (Go.bits .or .i64 (ji19) (ji22))] (by rfl) rfl rfl zi_2 ?_
  with_reducible refine (impl_SubOk.calls _ _ a5 _ _ a4 (Go.bits .or .i64 (ji19) (ji22)) false _ ?side1 ?side2 ?side3 ?side4 j6.out).mono ?_
  (case side1 => repeat (first | exact (Kd.S_reads' a3.out).2.2 | (with_reducible refine Kd.C_alloc ?_ _) | (with_reducible refine Kd.C_drewN ?_ _) | (with_reducible refine Kd.C_drew ?_)))
  (case side2 => exact (Kd.S_reads' a3.out).2.1)
  (case side3 => repeat (first | exact (Kd.Q_reads' a2.out).2.2 | (with_reducible refine Kd.C_alloc ?_ _) | (with_reducible refine Kd.C_drewN ?_ _) | (with_reducible refine Kd.C_drew ?_)))
  (case side4 => exact (Kd.Q_reads' a2.out).2.1)
  rintro e w' ⟨rfl, hb⟩
  refine ⟨_, rfl, ?_⟩
  replace a3 := ak (Kd.S_below (xS a3.out) hb)
  replace a2 := ak (Kd.Q_below (xQ a2.out) hb)
  replace a1 := ak (blk_below (g := a6) (o := .cells #[.slice d9 a5.length d5, .slice e0 a4.length d6] 27 (0, 0)) (xb a1.out) hb)
  replace HB := ak (below_step zi_0 hb)
  (try clear hb)
  (try clear hb2)
  (try clear hk)
  (try clear hi)
  refine hK.out _ _ ⟨(blk_cell a1.out 0).trans rfl, (blk_cell a1.out 1).trans rfl⟩ (fun hHeld => ?_)
  clear hK K
  refine no_ (N := some 50) ?_
  refine pu_ (i := 13) (N := some 51) (bA 24 16383) ?_
  refine pu_ (i := 14) (N := some 52) (bA 24 32767) ?_
  refine of_ (i := 15) (N := some 53) (bA 24 65535) ?_
  refine of_ (i := 16) (N := some 54) (bA 24 131071) ?_
  refine of_ (i := 17) (N := some 55) (bA 24 262143) ?_
  refine of_ (i := 18) (N := some 56) (bA 24 524287) ?_
  refine of_ (i := 19) (N := some 57) (bA 24 1048575) ?_
  refine of_ (i := 20) (N := some 58) (bA 24 2097151) ?_
  refine of_ (i := 21) (N := some 59) (bA 24 4194303) ?_
  refine pu_ (i := 22) (N := some 60) (bA 24 8388607) ?_
  refine pu_ (i := 23) (N := some 2) (bA 24 16777215) ?_
  refine done_ (done_of HT_.out zi_20) ?_
  try go_wp2
  go_ret
  exact ⟨zi_3, zi_0⟩
 replace H := ox_ H
 rcases H with ⟨rfl, H⟩ | ⟨rfl, H⟩
 ·
  obtain rfl := Option.some.inj H
  go_enter Try.func7, Try.ntmps7
  go_wp2_with (first | ((with_reducible refine gate_callee (f := 35) rfl ?_); refine gl_ (some 12) Try.func35 #[.slice A0 l0.length c0] ?_; (with_reducible refine (spec_DrawSubOk.calls k _ _ l0 a5 a4 a7 _ (y4 HR0.out) g9.out A3.out).mono ?_); rintro e w' ⟨g2, g3, rfl, ho0, ho1, hb⟩; refine ⟨_, rfl, ?_⟩; have a3 := ak (Kd.S_lower ho0 (below_size zi_1)); have a2 := ak (Kd.Q_lower ho1 (below_size zi_1)); replace HB := ak (below_step zi_1 hb); (try clear hb); (try clear hb2); (try clear hk); (try clear hi); (try clear ho0); (try clear ho1)) | ((with_reducible refine gate_dst (N := 3) rfl ?_); (try (refine gate_guard (by rfl) ?_; dsimp only)); refine box_event ?hg (N := 3) ?hd (cs := #[.slice none 0 0, .slice none 0 0]) (t := 27) ?hr ?_; (case hd => rfl); (case hg => rfl); (case hr => first | (go_simp; done) | (go_simp; rfl)); intro a6 hg m3 hbox hb; replace a3 := ak (Kd.S_below (xS a3.out) hb); replace a2 := ak (Kd.Q_below (xQ a2.out) hb); have a1 := ak (hbox); have f6 := ak ((by rw [hg]; exact (below_size zi_1) : w.heap.size ≤ a6)); have f5 := ak ((by rw [hg]; exact (below_size zi_1) : w.heap.size ≤ a6)); replace HB := ak (below_step zi_1 hb); clear hb hbox hg; obtain ⟨f0, e2, h7⟩ := Kd.S_slice a3.out; subst h7; have a9 := cz20 a1.out; have b0 := cz21 a1.out; have b1 := blk_frozen a1.out 0; have b2 := blk_frozen a1.out 1; obtain ⟨f1, e3, h8, _⟩ := Kd.Q_slice a2.out; subst h8) | ((with_reducible refine gate_callee (f := 34) rfl ?_); refine gl_ (some 17) Try.func34 #[.agg #[.slice f0 a5.length e2, .slice f1 a4.length e3], .int .i64 a7] ?_; (with_reducible refine (impl_SubOk.calls _ _ a5 _ _ a4 a7 true _ (by refine (Kd.S_reads' (e := 25) (base := w.heap.size) (ok := fun k_ => some k_ ≠ (.slice f1 a4.length e3 : Value).ownBlock) (n := a5.length) (c := e2) ?_).2.2; exact zi_5) (y2 a3.out) (by refine (Kd.Q_reads' (e := 3) (base := w.heap.size) (ok := fun k_ => True) (n := a4.length) (c := e3) ?_).2.2; exact zi_7) (y2 a2.out) A4.out).mono ?_); rintro e w' ⟨rfl, hb⟩; refine ⟨_, rfl, ?_⟩; replace a3 := ak (Kd.S_below zi_5 hb); replace a2 := ak (Kd.Q_below zi_7 hb); replace a1 := ak (blk_below (g := a6) (o := .cells #[.slice f0 a5.length e2, .slice f1 a4.length e3] 27 (0, 0)) (by (with_reducible repeat (first | refine blk_drewN ?_ _ | refine blk_drew ?_ | refine blk_alloc ?_ _)); refine blk_put (cs := #[.slice f0 a5.length e2, .slice none 0 0]) ?_ 1 _ rfl; (with_reducible repeat (first | refine blk_drewN ?_ _ | refine blk_drew ?_ | refine blk_alloc ?_ _)); refine blk_put (cs := #[.slice none 0 0, .slice none 0 0]) ?_ 0 _ rfl; (with_reducible repeat (first | refine blk_drewN ?_ _ | refine blk_drew ?_ | refine blk_alloc ?_ _)); exact a1.out) hb); replace HB := ak (below_step zi_0 hb); (try clear hb); (try clear hb2); (try clear hk); (try clear hi); have a9 := cz20 a1.out; have b0 := cz21 a1.out; have b1 := blk_frozen a1.out 0; have b2 := blk_frozen a1.out 1) | ((with_reducible refine gate_callee (f := 36) rfl ?_); refine gl_ (some 21) Try.func36 #[.agg #[.slice f0 a5.length e2, .slice f1 a4.length e3], .int .i64 a7] ?_; (with_reducible refine (spec_SubOk.calls k _ _ a5 _ _ a4 a7 e1 _ (y1 a3.out) (y2 a3.out) (y1 a2.out) (y2 a2.out) A5.out).mono ?_); rintro e w' ⟨rfl, hb⟩; refine ⟨_, rfl, ?_⟩; replace a3 := ak (Kd.S_below (xS a3.out) hb); replace a2 := ak (Kd.Q_below (xQ a2.out) hb); replace a1 := ak (blk_below (g := a6) (o := .cells #[.slice f0 a5.length e2, .slice f1 a4.length e3] 27 (0, 0)) (xb a1.out) hb); replace HB := ak (below_step zi_0 hb); (try clear hb); (try clear hb2); (try clear hk); (try clear hi); have a9 := cz20 a1.out; have b0 := cz21 a1.out; have b1 := blk_frozen a1.out 0; have b2 := blk_frozen a1.out 1) | ((with_reducible refine gate_callee (f := 30) rfl ?_); refine gl_ (some 24) Try.func30 #[.agg #[.slice f0 a5.length e2, .slice f1 a4.length e3]] ?_; (with_reducible refine (spec_LogicOk.calls k _ _ a5 _ _ a4 false _ (y1 a3.out) (y2 a3.out) (y1 a2.out) (y2 a2.out) g6.out).mono ?_); rintro e w' ⟨rfl, hb⟩; refine ⟨_, rfl, ?_⟩; replace a3 := ak (Kd.S_below (xS a3.out) hb); replace a2 := ak (Kd.Q_below (xQ a2.out) hb); replace a1 := ak (blk_below (g := a6) (o := .cells #[.slice f0 a5.length e2, .slice f1 a4.length e3] 27 (0, 0)) (xb a1.out) hb); replace HB := ak (below_step zi_0 hb); (try clear hb); (try clear hb2); (try clear hk); (try clear hi)))
  go_ret
  exact ⟨zi_21, zi_0⟩
 replace H := bd_ H
 obtain ⟨h3, k3, H⟩ := H
 try dsimp only at H
 obtain rfl := Option.some.inj H
 go_enter Try.func7, Try.ntmps7
 go_wp2_with (first | ((with_reducible refine gate_callee (f := 35) rfl ?_); refine gl_ (some 12) Try.func35 #[.slice A0 l0.length c0] ?_; (with_reducible refine (spec_DrawSubOk.calls k _ _ l0 a5 a4 a7 _ (y4 HR0.out) g9.out A3.out).mono ?_); rintro e w' ⟨g2, g3, rfl, ho0, ho1, hb⟩; refine ⟨_, rfl, ?_⟩; have a3 := ak (Kd.S_lower ho0 (below_size zi_1)); have a2 := ak (Kd.Q_lower ho1 (below_size zi_1)); replace HB := ak (below_step zi_1 hb); (try clear hb); (try clear hb2); (try clear hk); (try clear hi); (try clear ho0); (try clear ho1)) | ((with_reducible refine gate_dst (N := 3) rfl ?_); (try (refine gate_guard (by rfl) ?_; dsimp only)); refine box_event ?hg (N := 3) ?hd (cs := #[.slice none 0 0, .slice none 0 0]) (t := 27) ?hr ?_; (case hd => rfl); (case hg => rfl); (case hr => first | (go_simp; done) | (go_simp; rfl)); intro a6 hg m4 hbox hb; replace a3 := ak (Kd.S_below (xS a3.out) hb); replace a2 := ak (Kd.Q_below (xQ a2.out) hb); have a1 := ak (hbox); have f6 := ak ((by rw [hg]; exact (below_size zi_1) : w.heap.size ≤ a6)); have f5 := ak ((by rw [hg]; exact (below_size zi_1) : w.heap.size ≤ a6)); replace HB := ak (below_step zi_1 hb); clear hb hbox hg; obtain ⟨f2, e4, h9⟩ := Kd.S_slice a3.out; subst h9; have a9 := cz20 a1.out; have b0 := cz21 a1.out; have b1 := blk_frozen a1.out 0; have b2 := blk_frozen a1.out 1; obtain ⟨f3, e5, i0, _⟩ := Kd.Q_slice a2.out; subst i0) | ((with_reducible refine gate_callee (f := 34) rfl ?_); refine gl_ (some 17) Try.func34 #[.agg #[.slice f2 a5.length e4, .slice f3 a4.length e5], .int .i64 a7] ?_; (with_reducible refine (impl_SubOk.calls _ _ a5 _ _ a4 a7 false _ (by refine (Kd.S_reads' (e := 25) (base := w.heap.size) (ok := fun k_ => some k_ ≠ (.slice f3 a4.length e5 : Value).ownBlock) (n := a5.length) (c := e4) ?_).2.2; exact zi_4) (y2 a3.out) (by refine (Kd.Q_reads' (e := 3) (base := w.heap.size) (ok := fun k_ => True) (n := a4.length) (c := e5) ?_).2.2; exact zi_6) (y2 a2.out) A4.out).mono ?_); rintro e w' ⟨rfl, hb⟩; refine ⟨_, rfl, ?_⟩; replace a3 := ak (Kd.S_below zi_4 hb); replace a2 := ak (Kd.Q_below zi_6 hb); replace a1 := ak (blk_below (g := a6) (o := .cells #[.slice f2 a5.length e4, .slice f3 a4.length e5] 27 (0, 0)) (by (with_reducible repeat (first | refine blk_drewN ?_ _ | refine blk_drew ?_ | refine blk_alloc ?_ _)); refine blk_put (cs := #[.slice f2 a5.length e4, .slice none 0 0]) ?_ 1 _ rfl; (with_reducible repeat (first | refine blk_drewN ?_ _ | refine blk_drew ?_ | refine blk_alloc ?_ _)); refine blk_put (cs := #[.slice none 0 0, .slice none 0 0]) ?_ 0 _ rfl; (with_reducible repeat (first | refine blk_drewN ?_ _ | refine blk_drew ?_ | refine blk_alloc ?_ _)); exact a1.out) hb); replace HB := ak (below_step zi_0 hb); (try clear hb); (try clear hb2); (try clear hk); (try clear hi); have a9 := cz20 a1.out; have b0 := cz21 a1.out; have b1 := blk_frozen a1.out 0; have b2 := blk_frozen a1.out 1) | ((with_reducible refine gate_callee (f := 36) rfl ?_); refine gl_ (some 21) Try.func36 #[.agg #[.slice f2 a5.length e4, .slice f3 a4.length e5], .int .i64 a7] ?_; (with_reducible refine (spec_SubOk.calls k _ _ a5 _ _ a4 a7 e1 _ (y1 a3.out) (y2 a3.out) (y1 a2.out) (y2 a2.out) A5.out).mono ?_); rintro e w' ⟨rfl, hb⟩; refine ⟨_, rfl, ?_⟩; replace a3 := ak (Kd.S_below (xS a3.out) hb); replace a2 := ak (Kd.Q_below (xQ a2.out) hb); replace a1 := ak (blk_below (g := a6) (o := .cells #[.slice f2 a5.length e4, .slice f3 a4.length e5] 27 (0, 0)) (xb a1.out) hb); replace HB := ak (below_step zi_0 hb); (try clear hb); (try clear hb2); (try clear hk); (try clear hi); have a9 := cz20 a1.out; have b0 := cz21 a1.out; have b1 := blk_frozen a1.out 0; have b2 := blk_frozen a1.out 1) | ((first | ((with_reducible refine gate_callee (f := 30) rfl ?_); refine gl_ (some 24) Try.func30 #[.agg #[.slice f2 a5.length e4, .slice f3 a4.length e5]] ?_; (with_reducible refine (spec_LogicOk.calls k _ _ a5 _ _ a4 false _ (y1 a3.out) (y2 a3.out) (y1 a2.out) (y2 a2.out) g6.out).mono ?_); rintro e w' ⟨rfl, hb⟩; refine ⟨_, rfl, ?_⟩) | (go_at_call 19; (with_reducible refine (laws_alive.calls k  h3 _ k3.out).mono ?_); rintro e w' ⟨rfl, hb⟩)); replace a3 := ak (Kd.S_below (xS a3.out) hb); replace a2 := ak (Kd.Q_below (xQ a2.out) hb); replace a1 := ak (blk_below (g := a6) (o := .cells #[.slice f2 a5.length e4, .slice f3 a4.length e5] 27 (0, 0)) (xb a1.out) hb); replace HB := ak (below_step zi_0 hb); (try clear hb); (try clear hb2); (try clear hk); (try clear hi)))
 go_ret
 exact ⟨zi_21, zi_0⟩

theorem laws_FnSubOk.walk (P : laws_FnSubOk.Pure) (a0 : Option Addr) (len0 cap0 : Nat) (z0 : List Int) (w : World) (w0 : (a0 = none ∧ len0 = 0 ∧ cap0 = 0 ∧ z0 = []) ∨ ∃ x, a0 = some x ∧ len0 ≤ cap0 ∧ cap0 ≤ maxLen ∧ z0.length = cap0 ∧ (∀ i, i < z0.length → w.cell? (x.add i) = some (.int .u8 (z0.getD i 0))) ∧ ∀ n ∈ z0, (Lit.int .u8 n).wf = true) (y0 : len0 * 1 ≤ 140737488351232) :
 Calls Try.prog 7 #[.slice a0 len0 cap0] w fun e w' => e = .returned (.bool true) ∧ Below w.heap.size w w' := by
 obtain ⟨l0, rfl, hr0, hm0, hw0, hc0⟩ := ReadsInt.ofRowC w0
 obtain ⟨k, h⟩ := P l0 hm0 y0 hw0
 refine (laws_FnSubOk.calls k _ _ l0 true w (Kd.C_of_reads (d := (0 : Int)) (h1 := fun _ => rfl) hr0) hc0 h).mono ?_
 rintro e w' ⟨rfl, hd⟩
 exact ⟨rfl, hd⟩

end Go.Proofs.Ytacifhahfamipaa.P
