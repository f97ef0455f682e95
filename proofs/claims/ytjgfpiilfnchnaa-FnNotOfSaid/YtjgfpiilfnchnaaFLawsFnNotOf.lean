-- written by gen.py (a program of this session) out of the kit's print of this seat's translation
import Derived.Test.YtjgfpiilfnchnaaPk2
import Derived.Test.YtjgfpiilfnchnaaFLawsAlive
import Derived.Test.YtjgfpiilfnchnaaFSpecDrawNotOf
import Derived.Test.YtjgfpiilfnchnaaFSpecNotOf
import Derived.Test.YtjgfpiilfnchnaaV1
namespace Go.Proofs.Ytjgfpiilfnchnaa.P
open Go.RowKit Go.Proofs.YtjgfpiilfnchnaaW.PrintWords Go.Proofs.YtjgfpiilfnchnaaW.PrintLast Go.Proofs.YtjgfpiilfnchnaaW.PrintMore
attribute [local go_sem] max2_int min2_int max_two min_two max_three min_three max_four min_four
set_option linter.unusedVariables false
set_option linter.unusedSimpArgs false
def laws_FnNotOf.T9 : Bool × List (List Nat × List Nat) := (true, [([], []), ([], []), ([0, 1], [0, 1]), ([], []), ([2, 3], [2, 3]), ([4, 2], [4]), ([5], [5]), ([5], [5]), ([6, 7, 5], [5, 6, 7]), ([8, 5, 5], [5, 8]), ([9], [9]), ([10, 9], [9, 10]), ([11, 9], [9, 11]), ([12, 9], [9, 12]), ([9, 13, 5], [5, 9, 13]), ([5, 14], [5, 14]), ([15, 9], [15]), ([16], [16]), ([16], [16]), ([16], [16]), ([17, 18, 19, 16, 16], [16, 17, 18, 19]), ([16], [16]), ([21, 20, 16], [16, 21]), ([20, 22, 16], [16, 20, 22]), ([16, 23], [16, 23]), ([24, 22, 0, 1, 2, 3, 4, 5, 6, 7, 8, 9, 10, 11, 12, 13, 14, 15, 16, 17, 18, 19, 20, 21, 22, 23, 24], [24])])
def laws_FnNotOf.B9 : List Nat := [0, 0, 3, 0, 15, 31, 63, 63, 255, 511, 1023, 2047, 4095, 8191, 16383, 32767, 65535, 131071, 131071, 131071, 1048575, 131071, 4194303, 8388607, 16777215, 33554431]
theorem laws_FnNotOf.tab9 : rtab .any (opsOf Try.f7 9) = laws_FnNotOf.T9 := by kernel_rfl
theorem laws_FnNotOf.bits9 : waitsOk laws_FnNotOf.T9.2 laws_FnNotOf.B9 = true := by kernel_rfl
theorem zh_17 {p : Prop} (h : p := by kernel_rfl) : p := h
theorem zh_16 {p : Prop} (h : p := by (with_reducible repeat (first | apply Kd.Q_alloc | apply Kd.Q_drewN | apply Kd.Q_drew)); exact (Kd.Q_mono (Kd.Q_far (p := ⟨a4, 1, none⟩) (Kd.Q_far (p := ⟨a4, 0, none⟩) (Kd.Q_types a2.out a1.out (by decide)) (fun _ hk => hk.2) (.slice e9 a5.length e3)) (fun _ hk => hk.2) (.slice f0 a6.length e4)) (fun _ h_ => h_.1))) : p := h
theorem zh_15 {p : Prop} (h : p := by (with_reducible repeat (first | apply Kd.Q_alloc | apply Kd.Q_drewN | apply Kd.Q_drew)); exact (Kd.Q_mono (Kd.Q_far (p := ⟨a4, 1, none⟩) (Kd.Q_far (p := ⟨a4, 0, none⟩) (Kd.Q_types a2.out a1.out (by decide)) (fun _ hk => hk.2) (.slice f1 a5.length e5)) (fun _ hk => hk.2) (.slice f2 a6.length e6)) (fun _ h_ => h_.1))) : p := h
theorem zh_14 {p : Prop} (h : p := by (with_reducible repeat (first | apply Kd.Q_alloc | apply Kd.Q_drewN | apply Kd.Q_drew)); exact (Kd.Q_mono (Kd.Q_far (p := ⟨a4, 1, none⟩) (Kd.Q_far (p := ⟨a4, 0, none⟩) (Kd.Q_types a2.out a1.out (by decide)) (fun _ hk => hk.2) (.slice b8 a5.length b4)) (fun _ hk => hk.2) (.slice b9 a6.length b5)) (fun _ h_ => h_.1))) : p := h
theorem zh_13 {p : Prop} (h : p := by (with_reducible repeat (first | apply Kd.Q_alloc | apply Kd.Q_drewN | apply Kd.Q_drew)); exact (Kd.Q_mono (Kd.Q_far (p := ⟨a4, 1, none⟩) (Kd.Q_far (p := ⟨a4, 0, none⟩) (Kd.Q_types a2.out a1.out (by decide)) (fun _ hk => hk.2) (.slice d7 a5.length d2)) (fun _ hk => hk.2) (.slice d8 a6.length d3)) (fun _ h_ => h_.1))) : p := h
theorem zh_12 {p : Prop} (h : p := by (with_reducible repeat (first | apply Kd.Q_alloc | apply Kd.Q_drewN | apply Kd.Q_drew)); exact (Kd.Q_mono (Kd.Q_far (p := ⟨a4, 1, none⟩) (Kd.Q_far (p := ⟨a4, 0, none⟩) (Kd.Q_types a2.out a1.out (by decide)) (fun _ hk => hk.2) (.slice d0 a5.length b6)) (fun _ hk => hk.2) (.slice d1 a6.length b7)) (fun _ h_ => h_.1))) : p := h
theorem zh_11 {p : Prop} (h : p := by (with_reducible repeat (first | apply Kd.Q_alloc | apply Kd.Q_drewN | apply Kd.Q_drew)); exact (Kd.Q_mono (Kd.Q_far (p := ⟨a4, 1, none⟩) (Kd.Q_far (p := ⟨a4, 0, none⟩) (Kd.Q_types a2.out a1.out (by decide)) (fun _ hk => hk.2) (.slice d9 a5.length d4)) (fun _ hk => hk.2) (.slice e0 a6.length d5)) (fun _ h_ => h_.1))) : p := h
theorem zh_10 {p : Prop} (h : p := by (with_reducible repeat (first | apply Kd.Q_alloc | apply Kd.Q_drewN | apply Kd.Q_drew)); exact (Kd.Q_mono (Kd.Q_far (p := ⟨a4, 1, none⟩) (Kd.Q_far (p := ⟨a4, 0, none⟩) (Kd.Q_types a2.out a1.out (by decide)) (fun _ hk => hk.2) (.slice f3 a5.length e7)) (fun _ hk => hk.2) (.slice f4 a6.length e8)) (fun _ h_ => h_.1))) : p := h
theorem zh_9 {p : Prop} (h : p := by (with_reducible repeat (first | apply Kd.S_alloc | apply Kd.S_drewN | apply Kd.S_drew)); exact (Kd.S_mono (Kd.S_far (p := ⟨a4, 1, none⟩) (Kd.S_far (p := ⟨a4, 0, none⟩) (Kd.S_types a3.out a1.out (by decide)) (fun _ hk => hk.2) (.slice e9 a5.length e3)) (fun _ hk => hk.2) (.slice f0 a6.length e4)) (fun _ h_ => h_.1))) : p := h
theorem zh_8 {p : Prop} (h : p := by (with_reducible repeat (first | apply Kd.S_alloc | apply Kd.S_drewN | apply Kd.S_drew)); exact (Kd.S_mono (Kd.S_far (p := ⟨a4, 1, none⟩) (Kd.S_far (p := ⟨a4, 0, none⟩) (Kd.S_types a3.out a1.out (by decide)) (fun _ hk => hk.2) (.slice f1 a5.length e5)) (fun _ hk => hk.2) (.slice f2 a6.length e6)) (fun _ h_ => h_.1))) : p := h
theorem zh_7 {p : Prop} (h : p := by (with_reducible repeat (first | apply Kd.S_alloc | apply Kd.S_drewN | apply Kd.S_drew)); exact (Kd.S_mono (Kd.S_far (p := ⟨a4, 1, none⟩) (Kd.S_far (p := ⟨a4, 0, none⟩) (Kd.S_types a3.out a1.out (by decide)) (fun _ hk => hk.2) (.slice b8 a5.length b4)) (fun _ hk => hk.2) (.slice b9 a6.length b5)) (fun _ h_ => h_.1))) : p := h
theorem zh_6 {p : Prop} (h : p := by (with_reducible repeat (first | apply Kd.S_alloc | apply Kd.S_drewN | apply Kd.S_drew)); exact (Kd.S_mono (Kd.S_far (p := ⟨a4, 1, none⟩) (Kd.S_far (p := ⟨a4, 0, none⟩) (Kd.S_types a3.out a1.out (by decide)) (fun _ hk => hk.2) (.slice d7 a5.length d2)) (fun _ hk => hk.2) (.slice d8 a6.length d3)) (fun _ h_ => h_.1))) : p := h
theorem zh_5 {p : Prop} (h : p := by (with_reducible repeat (first | apply Kd.S_alloc | apply Kd.S_drewN | apply Kd.S_drew)); exact (Kd.S_mono (Kd.S_far (p := ⟨a4, 1, none⟩) (Kd.S_far (p := ⟨a4, 0, none⟩) (Kd.S_types a3.out a1.out (by decide)) (fun _ hk => hk.2) (.slice d0 a5.length b6)) (fun _ hk => hk.2) (.slice d1 a6.length b7)) (fun _ h_ => h_.1))) : p := h
theorem zh_4 {p : Prop} (h : p := by (with_reducible repeat (first | apply Kd.S_alloc | apply Kd.S_drewN | apply Kd.S_drew)); exact (Kd.S_mono (Kd.S_far (p := ⟨a4, 1, none⟩) (Kd.S_far (p := ⟨a4, 0, none⟩) (Kd.S_types a3.out a1.out (by decide)) (fun _ hk => hk.2) (.slice d9 a5.length d4)) (fun _ hk => hk.2) (.slice e0 a6.length d5)) (fun _ h_ => h_.1))) : p := h
theorem zh_3 {p : Prop} (h : p := by (with_reducible repeat (first | apply Kd.S_alloc | apply Kd.S_drewN | apply Kd.S_drew)); exact (Kd.S_mono (Kd.S_far (p := ⟨a4, 1, none⟩) (Kd.S_far (p := ⟨a4, 0, none⟩) (Kd.S_types a3.out a1.out (by decide)) (fun _ hk => hk.2) (.slice f3 a5.length e7)) (fun _ hk => hk.2) (.slice f4 a6.length e8)) (fun _ h_ => h_.1))) : p := h
theorem zh_2 {p : Prop} (h : p := by first | rfl | (simp [errW_none, errW_some] <;> rfl) | (simp [*, errW_none, errW_some] <;> rfl)) : p := h
theorem zh_1 {p : Prop} (h : p := by repeat (first | (with_reducible first | exact HB.out | apply below_alloc | apply pw_below_drewN | apply below_drew1 | refine below_set ?_ d6.out) | exact HB.out)) : p := h
theorem zh_0 {p : Prop} (h : p := by repeat (first | (with_reducible first | exact HB.out | apply below_alloc | apply pw_below_drewN | apply below_drew1) | exact HB.out)) : p := h
set_option maxHeartbeats 8000000 in
set_option maxRecDepth 100000 in
theorem laws_FnNotOf.calls (k : Nat) (A0 : Option Addr) (c0 : Nat) (l0 : List Int) (r : Bool) (w : World) (hr0 : Kd.C (Kd.int .u8) w A0 l0.length l0) (hc0 : l0.length ≤ c0) (h : laws_FnNotOf.f k l0 = some r) :
 Calls Try.prog 7 #[.slice A0 l0.length c0] w fun e w' => e = .returned (.bool r) ∧ Below w.heap.size w w' := by
 have hu26 := Try.underlying26
 have HR0 := ak hr0
 have f9 := ak hc0
 clear hr0 hc0
 have HB := ak (Below.refl w.heap.size w)
 have H : (if (l0.length : Int) > 1048576 then (some true) else ((spec_DrawNotOf.f k l0).bind fun a8 => ((impl_NotOf.f a8.1 a8.2.1 a8.2.2).bind fun a9 => ((spec_NotOf.f k a8.1 a8.2.1 a8.2.2).bind fun e2 => (if a9 = e2 then (if a9 < 0 then (if a9 = (-1) then ((laws_alive.f k).bind fun g0 => (some g0)) else (some false)) else ((impl_NotOf.f a8.1 a8.2.1 a9).bind fun f5 => (if f5 = a8.2.2 then (if a9 = a8.2.2 then (if (a8.2.1.length : Int) = 1 then ((impl_AndOf.f a8.1 a8.2.1 a8.2.2 a9).bind fun g1 => ((impl_NoOf.f a8.1 a8.2.1).bind fun g2 => (some (g1 == g2)))) else (some false)) else ((impl_AndOf.f a8.1 a8.2.1 a8.2.2 a9).bind fun g3 => ((impl_NoOf.f a8.1 a8.2.1).bind fun g4 => (some (g3 == g4))))) else (some false)))) else (some false)))))) = some r := h
 clear h
 replace H := op_ H
 rcases H with ⟨c2, H⟩ | ⟨c2, H⟩
 ·
  have h3 : decide (1048576 < (l0.length : Int)) = true := dT_ c2
  have h4 : decide (1048576 < l0.length) = true := dT_ (by omega)
  clear c2
  obtain rfl := Option.some.inj H
  go_enter Try.func7, Try.ntmps7
  go_wp2
  go_ret
  exact ⟨zh_2, zh_0⟩
 have h3 : decide (1048576 < (l0.length : Int)) = false := dF_ c2
 have h4 : decide (1048576 < l0.length) = false := dF_ (by omega)
 clear c2
 replace H := bd_ H
 obtain ⟨⟨a5, a6, a7⟩, A3, H⟩ := H
 try dsimp only at H
 replace H := bd_ H
 obtain ⟨a9, A4, H⟩ := H
 replace H := bd_ H
 obtain ⟨e2, A5, H⟩ := H
 try dsimp only at H
 replace H := oe2 H
 rcases H with ⟨⟨-, h5, h6⟩, H⟩ | ⟨⟨c6, h5, h6⟩, H⟩
 ·
  replace H := os_ H
  rcases H with ⟨h7, H⟩ | ⟨h7, H⟩
  ·
   replace H := oe2 H
   rcases H with ⟨⟨-, h8, h9⟩, H⟩ | ⟨⟨c8, h8, h9⟩, H⟩
   ·
    replace H := bd_ H
    obtain ⟨g0, A9, H⟩ := H
    try dsimp only at H
    obtain rfl := Option.some.inj H
    go_enter Try.func7, Try.ntmps7
    go_wp2_with (first | ((with_reducible refine gate_callee (f := 31) rfl ?_); refine gl_ (some 11) Try.func31 #[.slice A0 l0.length c0] ?_; (with_reducible refine (spec_DrawNotOf.calls k _ _ l0 a5 a6 a7 _ (y4 HR0.out) f9.out A3.out).mono ?_); rintro e w' ⟨f6, f8, rfl, ho0, ho1, hb⟩; refine ⟨_, rfl, ?_⟩; have a3 := ak (Kd.S_lower ho0 (below_size zh_0)); have a2 := ak (Kd.Q_lower ho1 (below_size zh_0)); replace HB := ak (below_step zh_0 hb); (try clear hb); (try clear hb2); (try clear hk); (try clear hi); (try clear ho0); (try clear ho1)) | ((with_reducible refine gate_dst (N := 3) rfl ?_); (try (refine gate_guard (by rfl) ?_; dsimp only)); refine box_event ?hg (N := 3) ?hd (cs := #[.slice none 0 0, .slice none 0 0]) (t := 26) ?hr ?_; (case hd => rfl); (case hg => rfl); (case hr => first | (go_simp; done) | (go_simp; rfl)); intro a4 hg k2 hbox hb; replace a3 := ak (Kd.S_below (xS a3.out) hb); replace a2 := ak (Kd.Q_below (xQ a2.out) hb); have a1 := ak (hbox); have e1 := ak ((by rw [hg]; exact (below_size zh_0) : w.heap.size ≤ a4)); have d6 := ak ((by rw [hg]; exact (below_size zh_0) : w.heap.size ≤ a4)); replace HB := ak (below_step zh_0 hb); clear hb hbox hg; obtain ⟨e9, e3, i0⟩ := Kd.S_slice a3.out; subst i0; have b0 := cz20 a1.out; have b1 := cz21 a1.out; have b2 := blk_frozen a1.out 0; have b3 := blk_frozen a1.out 1; obtain ⟨f0, e4, i1, _⟩ := Kd.Q_slice a2.out; subst i1) | ((with_reducible refine gate_callee (f := 29) rfl ?_); refine gl_ (some 16) Try.func29 #[.agg #[.slice e9 a5.length e3, .slice f0 a6.length e4], .int .i64 a7] ?_; (with_reducible refine (impl_NotOf.calls _ _ a5 _ _ a6 a7 a9 _ (by refine (Kd.S_reads' (e := 24) (base := w.heap.size) (ok := fun k_ => some k_ ≠ (.slice f0 a6.length e4 : Value).ownBlock) (n := a5.length) (c := e3) ?_).2.2; exact zh_9) (y2 a3.out) (by refine (Kd.Q_reads' (e := 3) (base := w.heap.size) (ok := fun k_ => True) (n := a6.length) (c := e4) ?_).2.2; exact zh_16) (y2 a2.out) A4.out).mono ?_); rintro e w' ⟨rfl, hb⟩; refine ⟨_, rfl, ?_⟩; replace a3 := ak (Kd.S_below zh_9 hb); replace a2 := ak (Kd.Q_below zh_16 hb); replace a1 := ak (blk_below (g := a4) (o := .cells #[.slice e9 a5.length e3, .slice f0 a6.length e4] 26 (0, 0)) (by (with_reducible repeat (first | refine blk_drewN ?_ _ | refine blk_drew ?_ | refine blk_alloc ?_ _)); refine blk_put (cs := #[.slice e9 a5.length e3, .slice none 0 0]) ?_ 1 _ rfl; (with_reducible repeat (first | refine blk_drewN ?_ _ | refine blk_drew ?_ | refine blk_alloc ?_ _)); refine blk_put (cs := #[.slice none 0 0, .slice none 0 0]) ?_ 0 _ rfl; (with_reducible repeat (first | refine blk_drewN ?_ _ | refine blk_drew ?_ | refine blk_alloc ?_ _)); exact a1.out) hb); replace HB := ak (below_step zh_1 hb); (try clear hb); (try clear hb2); (try clear hk); (try clear hi); have b0 := cz20 a1.out; have b1 := cz21 a1.out; have b2 := blk_frozen a1.out 0; have b3 := blk_frozen a1.out 1) | ((first | ((with_reducible refine gate_callee (f := 32) rfl ?_); refine gl_ (some 20) Try.func32 #[.agg #[.slice e9 a5.length e3, .slice f0 a6.length e4], .int .i64 a7] ?_; (with_reducible refine (spec_NotOf.calls k _ _ a5 _ _ a6 a7 e2 _ (y1 a3.out) (y2 a3.out) (y1 a2.out) (y2 a2.out) A5.out).mono ?_); rintro e w' ⟨rfl, hb⟩; refine ⟨_, rfl, ?_⟩) | (go_at_call 17; (with_reducible refine (laws_alive.calls k  g0 _ A9.out).mono ?_); rintro e w' ⟨rfl, hb⟩)); replace a3 := ak (Kd.S_below (xS a3.out) hb); replace a2 := ak (Kd.Q_below (xQ a2.out) hb); replace a1 := ak (blk_below (g := a4) (o := .cells #[.slice e9 a5.length e3, .slice f0 a6.length e4] 26 (0, 0)) (xb a1.out) hb); replace HB := ak (below_step zh_1 hb); (try clear hb); (try clear hb2); (try clear hk); (try clear hi)))
    go_ret
    exact ⟨zh_2, zh_1⟩
   obtain rfl := Option.some.inj H
   go_enter Try.func7, Try.ntmps7
   go_wp2_with (first | ((with_reducible refine gate_callee (f := 31) rfl ?_); refine gl_ (some 11) Try.func31 #[.slice A0 l0.length c0] ?_; (with_reducible refine (spec_DrawNotOf.calls k _ _ l0 a5 a6 a7 _ (y4 HR0.out) f9.out A3.out).mono ?_); rintro e w' ⟨f6, f8, rfl, ho0, ho1, hb⟩; refine ⟨_, rfl, ?_⟩; have a3 := ak (Kd.S_lower ho0 (below_size zh_0)); have a2 := ak (Kd.Q_lower ho1 (below_size zh_0)); replace HB := ak (below_step zh_0 hb); (try clear hb); (try clear hb2); (try clear hk); (try clear hi); (try clear ho0); (try clear ho1)) | ((with_reducible refine gate_dst (N := 3) rfl ?_); (try (refine gate_guard (by rfl) ?_; dsimp only)); refine box_event ?hg (N := 3) ?hd (cs := #[.slice none 0 0, .slice none 0 0]) (t := 26) ?hr ?_; (case hd => rfl); (case hg => rfl); (case hr => first | (go_simp; done) | (go_simp; rfl)); intro a4 hg k3 hbox hb; replace a3 := ak (Kd.S_below (xS a3.out) hb); replace a2 := ak (Kd.Q_below (xQ a2.out) hb); have a1 := ak (hbox); have e1 := ak ((by rw [hg]; exact (below_size zh_0) : w.heap.size ≤ a4)); have d6 := ak ((by rw [hg]; exact (below_size zh_0) : w.heap.size ≤ a4)); replace HB := ak (below_step zh_0 hb); clear hb hbox hg; obtain ⟨f1, e5, i2⟩ := Kd.S_slice a3.out; subst i2; have b0 := cz20 a1.out; have b1 := cz21 a1.out; have b2 := blk_frozen a1.out 0; have b3 := blk_frozen a1.out 1; obtain ⟨f2, e6, i3, _⟩ := Kd.Q_slice a2.out; subst i3) | ((with_reducible refine gate_callee (f := 29) rfl ?_); refine gl_ (some 16) Try.func29 #[.agg #[.slice f1 a5.length e5, .slice f2 a6.length e6], .int .i64 a7] ?_; (with_reducible refine (impl_NotOf.calls _ _ a5 _ _ a6 a7 a9 _ (by refine (Kd.S_reads' (e := 24) (base := w.heap.size) (ok := fun k_ => some k_ ≠ (.slice f2 a6.length e6 : Value).ownBlock) (n := a5.length) (c := e5) ?_).2.2; exact zh_8) (y2 a3.out) (by refine (Kd.Q_reads' (e := 3) (base := w.heap.size) (ok := fun k_ => True) (n := a6.length) (c := e6) ?_).2.2; exact zh_15) (y2 a2.out) A4.out).mono ?_); rintro e w' ⟨rfl, hb⟩; refine ⟨_, rfl, ?_⟩; replace a3 := ak (Kd.S_below zh_8 hb); replace a2 := ak (Kd.Q_below zh_15 hb); replace a1 := ak (blk_below (g := a4) (o := .cells #[.slice f1 a5.length e5, .slice f2 a6.length e6] 26 (0, 0)) (by (with_reducible repeat (first | refine blk_drewN ?_ _ | refine blk_drew ?_ | refine blk_alloc ?_ _)); refine blk_put (cs := #[.slice f1 a5.length e5, .slice none 0 0]) ?_ 1 _ rfl; (with_reducible repeat (first | refine blk_drewN ?_ _ | refine blk_drew ?_ | refine blk_alloc ?_ _)); refine blk_put (cs := #[.slice none 0 0, .slice none 0 0]) ?_ 0 _ rfl; (with_reducible repeat (first | refine blk_drewN ?_ _ | refine blk_drew ?_ | refine blk_alloc ?_ _)); exact a1.out) hb); replace HB := ak (below_step zh_1 hb); (try clear hb); (try clear hb2); (try clear hk); (try clear hi); have b0 := cz20 a1.out; have b1 := cz21 a1.out; have b2 := blk_frozen a1.out 0; have b3 := blk_frozen a1.out 1) | ((with_reducible refine gate_callee (f := 32) rfl ?_); refine gl_ (some 20) Try.func32 #[.agg #[.slice f1 a5.length e5, .slice f2 a6.length e6], .int .i64 a7] ?_; (with_reducible refine (spec_NotOf.calls k _ _ a5 _ _ a6 a7 e2 _ (y1 a3.out) (y2 a3.out) (y1 a2.out) (y2 a2.out) A5.out).mono ?_); rintro e w' ⟨rfl, hb⟩; refine ⟨_, rfl, ?_⟩; replace a3 := ak (Kd.S_below (xS a3.out) hb); replace a2 := ak (Kd.Q_below (xQ a2.out) hb); replace a1 := ak (blk_below (g := a4) (o := .cells #[.slice f1 a5.length e5, .slice f2 a6.length e6] 26 (0, 0)) (xb a1.out) hb); replace HB := ak (below_step zh_1 hb); (try clear hb); (try clear hb2); (try clear hk); (try clear hi)))
   go_ret
   exact ⟨zh_2, zh_1⟩
  replace H := bd_ H
  obtain ⟨f5, h2, H⟩ := H
  try dsimp only at H
  replace H := oe2 H
  rcases H with ⟨⟨-, g5, g6⟩, H⟩ | ⟨⟨k4, g5, g6⟩, H⟩
  ·
   replace H := oe2 H
   rcases H with ⟨⟨-, g7, g8⟩, H⟩ | ⟨⟨k5, g7, g8⟩, H⟩
   ·
    replace H := oe2 H
    rcases H with ⟨⟨-, g9, h0⟩, H⟩ | ⟨⟨k6, g9, h0⟩, H⟩
    ·
     replace H := bd_ H
     obtain ⟨g1, j4, H⟩ := H
     replace H := bd_ H
     obtain ⟨g2, j5, H⟩ := H
     try dsimp only at H
     obtain rfl := Option.some.inj H
     go_enter Try.func7, Try.ntmps7
     try go_wp2_with (first | ((with_reducible refine gate_callee (f := 31) rfl ?_); refine gl_ (some 11) Try.func31 #[.slice A0 l0.length c0] ?_; (with_reducible refine (spec_DrawNotOf.calls k _ _ l0 a5 a6 a7 _ (y4 HR0.out) f9.out A3.out).mono ?_); rintro e w' ⟨f6, f8, rfl, ho0, ho1, hb⟩; refine ⟨_, rfl, ?_⟩; have a3 := ak (Kd.S_lower ho0 (below_size zh_0)); have a2 := ak (Kd.Q_lower ho1 (below_size zh_0)); replace HB := ak (below_step zh_0 hb); (try clear hb); (try clear hb2); (try clear hk); (try clear hi); (try clear ho0); (try clear ho1)) | ((with_reducible refine gate_dst (N := 3) rfl ?_); (try (refine gate_guard (by rfl) ?_; dsimp only)); refine box_event ?hg (N := 3) ?hd (cs := #[.slice none 0 0, .slice none 0 0]) (t := 26) ?hr ?_; (case hd => rfl); (case hg => rfl); (case hr => first | (go_simp; done) | (go_simp; rfl)); intro a4 hg k7 hbox hb; replace a3 := ak (Kd.S_below (xS a3.out) hb); replace a2 := ak (Kd.Q_below (xQ a2.out) hb); have a1 := ak (hbox); have e1 := ak ((by rw [hg]; exact (below_size zh_0) : w.heap.size ≤ a4)); have d6 := ak ((by rw [hg]; exact (below_size zh_0) : w.heap.size ≤ a4)); replace HB := ak (below_step zh_0 hb); clear hb hbox hg; obtain ⟨b8, b4, i4⟩ := Kd.S_slice a3.out; subst i4; have b0 := cz20 a1.out; have b1 := cz21 a1.out; have b2 := blk_frozen a1.out 0; have b3 := blk_frozen a1.out 1; obtain ⟨b9, b5, i5, _⟩ := Kd.Q_slice a2.out; subst i5) | ((with_reducible refine gate_callee (f := 29) rfl ?_); refine gl_ (some 16) Try.func29 #[.agg #[.slice b8 a5.length b4, .slice b9 a6.length b5], .int .i64 a7] ?_; (with_reducible refine (impl_NotOf.calls _ _ a5 _ _ a6 a7 a9 _ (by refine (Kd.S_reads' (e := 24) (base := w.heap.size) (ok := fun k_ => some k_ ≠ (.slice b9 a6.length b5 : Value).ownBlock) (n := a5.length) (c := b4) ?_).2.2; exact zh_7) (y2 a3.out) (by refine (Kd.Q_reads' (e := 3) (base := w.heap.size) (ok := fun k_ => True) (n := a6.length) (c := b5) ?_).2.2; exact zh_14) (y2 a2.out) A4.out).mono ?_); rintro e w' ⟨rfl, hb⟩; refine ⟨_, rfl, ?_⟩; replace a3 := ak (Kd.S_below zh_7 hb); replace a2 := ak (Kd.Q_below zh_14 hb); replace a1 := ak (blk_below (g := a4) (o := .cells #[.slice b8 a5.length b4, .slice b9 a6.length b5] 26 (0, 0)) (by (with_reducible repeat (first | refine blk_drewN ?_ _ | refine blk_drew ?_ | refine blk_alloc ?_ _)); refine blk_put (cs := #[.slice b8 a5.length b4, .slice none 0 0]) ?_ 1 _ rfl; (with_reducible repeat (first | refine blk_drewN ?_ _ | refine blk_drew ?_ | refine blk_alloc ?_ _)); refine blk_put (cs := #[.slice none 0 0, .slice none 0 0]) ?_ 0 _ rfl; (with_reducible repeat (first | refine blk_drewN ?_ _ | refine blk_drew ?_ | refine blk_alloc ?_ _)); exact a1.out) hb); replace HB := ak (below_step zh_1 hb); (try clear hb); (try clear hb2); (try clear hk); (try clear hi); have b0 := cz20 a1.out; have b1 := cz21 a1.out; have b2 := blk_frozen a1.out 0; have b3 := blk_frozen a1.out 1) | ((with_reducible refine gate_callee (f := 32) rfl ?_); refine gl_ (some 20) Try.func32 #[.agg #[.slice b8 a5.length b4, .slice b9 a6.length b5], .int .i64 a7] ?_; (with_reducible refine (spec_NotOf.calls k _ _ a5 _ _ a6 a7 e2 _ (y1 a3.out) (y2 a3.out) (y1 a2.out) (y2 a2.out) A5.out).mono ?_); rintro e j6 ⟨rfl, hb⟩; refine ⟨_, rfl, ?_⟩; replace a3 := ak (Kd.S_below (xS a3.out) hb); replace a2 := ak (Kd.Q_below (xQ a2.out) hb); replace a1 := ak (blk_below (g := a4) (o := .cells #[.slice b8 a5.length b4, .slice b9 a6.length b5] 26 (0, 0)) (xb a1.out) hb); replace HB := ak (below_step zh_1 hb); (try clear hb); (try clear hb2); (try clear hk); (try clear hi)))
     replace a3 := ak (Kd.S_drew a3.out)
     replace a2 := ak (Kd.Q_drew a2.out)
     replace a1 := ak (blk_drew a1.out)
     replace HB := ak (below_drew1 HB.out)
     refine start_ (n := 26) (S := fun w' => w'.cell? ⟨a4, 0, none⟩ = some (.slice b8 a5.length b4) ∧ w'.cell? ⟨a4, 1, none⟩ = some (.slice b9 a6.length b5)) (ds := []) (bA 26 0) zh_17 rfl rfl ⟨(blk_cell a1.out 0).trans rfl, (blk_cell a1.out 1).trans rfl⟩ (fun hHeld => ?_); refine with_tabW laws_FnNotOf.tab9 laws_FnNotOf.bits9 (fun HT_ HW_ => ?_)
     generalize j6.drew = k8 at a3 a2 a1 HB hHeld ⊢
     refine pu_ (i := 1) (N := some 30) (bA 26 2) ?_
     refine pu_ (i := 3) (N := some 32) (bA 26 10) ?_
     refine tk_ (i := 0) (N := some 29) (bA 26 11) ?_
     refine one_ (i := 2) (N := some 31) (bA 26 15) rfl rfl (one_of HT_.out zh_17) (by decide) (fun K hK => ?_)
     refine ge_ Try.func29 #[.agg #[.slice b8 a5.length b4, .slice b9 a6.length b5], .int .i64 a9] ?_
     with_reducible refine (impl_NotOf.calls _ _ a5 _ _ a6 a9 f5 _ ?side1 ?side2 ?side3 ?side4 h2.out).mono ?_
     (case side1 => repeat (first | exact (Kd.S_reads' a3.out).2.2 | (with_reducible refine Kd.C_alloc ?_ _) | (with_reducible refine Kd.C_drewN ?_ _) | (with_reducible refine Kd.C_drew ?_)))
     (case side2 => exact (Kd.S_reads' a3.out).2.1)
     (case side3 => repeat (first | exact (Kd.Q_reads' a2.out).2.2 | (with_reducible refine Kd.C_alloc ?_ _) | (with_reducible refine Kd.C_drewN ?_ _) | (with_reducible refine Kd.C_drew ?_)))
     (case side4 => exact (Kd.Q_reads' a2.out).2.1)
     rintro e w' ⟨rfl, hb⟩
     refine ⟨_, rfl, ?_⟩
     replace a3 := ak (Kd.S_below (xS a3.out) hb)
     replace a2 := ak (Kd.Q_below (xQ a2.out) hb)
     replace a1 := ak (blk_below (g := a4) (o := .cells #[.slice b8 a5.length b4, .slice b9 a6.length b5] 26 (0, 0)) (xb a1.out) hb)
     replace HB := ak (below_step zh_1 hb)
     (try clear hb)
     (try clear hb2)
     (try clear hk)
     (try clear hi)
     refine hK.out _ _ ⟨(blk_cell a1.out 0).trans rfl, (blk_cell a1.out 1).trans rfl⟩ (fun hHeld => ?_)
     clear hK K
     refine no_ (N := some 31) ?_
     refine pu_ (i := 4) (N := some 33) (bA 26 31) ?_
     refine pu_ (i := 5) (N := some 34) (bA 26 63) ?_
     refine pu_ (i := 6) (N := some 35) (bA 26 127) ?_
     refine pu_ (i := 7) (N := some 36) (bA 26 255) ?_
     refine pu_ (i := 8) (N := some 37) (bA 26 511) ?_
     refine pu_ (i := 9) (N := some 38) (bA 26 1023) ?_
     refine pu_ (i := 10) (N := some 39) (bA 26 2047) ?_
     refine tk_ (i := 11) (N := some 40) (bA 26 4095) ?_
     refine pu_ (i := 12) (N := some 41) (bA 26 8191) ?_
     refine pu_ (i := 13) (N := some 42) (bA 26 16383) ?_
     refine pu_ (i := 14) (N := some 43) (bA 26 32767) ?_
     refine pu_ (i := 15) (N := some 44) (bA 26 65535) ?_
     refine pu_ (i := 16) (N := some 45) (bA 26 131071) ?_
     refine pu_ (i := 18) (N := some 47) (bA 26 393215) ?_
     refine pu_ (i := 19) (N := some 48) (bA 26 917503) ?_
     refine tk_ (i := 17) (N := some 46) (bA 26 1048575) ?_
     refine tk_ (i := 21) (N := some 50) (bA 26 3145727) ?_
     refine one_ (i := 20) (N := some 49) (bA 26 4194303) rfl rfl (one_of HT_.out zh_17) (by decide) (fun K hK => ?_)
     refine ge_ Try.func27 #[.agg #[.slice b8 a5.length b4, .slice b9 a6.length b5], .int .i64 a7, .int .i64 a9] ?_
     with_reducible refine (impl_AndOf.calls _ _ a5 _ _ a6 a7 a9 g1 _ ?side1 ?side2 ?side3 ?side4 j4.out).mono ?_
     (case side1 => repeat (first | exact (Kd.S_reads' a3.out).2.2 | (with_reducible refine Kd.C_alloc ?_ _) | (with_reducible refine Kd.C_drewN ?_ _) | (with_reducible refine Kd.C_drew ?_)))
     (case side2 => exact (Kd.S_reads' a3.out).2.1)
     (case side3 => repeat (first | exact (Kd.Q_reads' a2.out).2.2 | (with_reducible refine Kd.C_alloc ?_ _) | (with_reducible refine Kd.C_drewN ?_ _) | (with_reducible refine Kd.C_drew ?_)))
     (case side4 => exact (Kd.Q_reads' a2.out).2.1)
     rintro e w' ⟨rfl, hb⟩
     refine ⟨_, rfl, ?_⟩
     replace a3 := ak (Kd.S_below (xS a3.out) hb)
     replace a2 := ak (Kd.Q_below (xQ a2.out) hb)
     replace a1 := ak (blk_below (g := a4) (o := .cells #[.slice b8 a5.length b4, .slice b9 a6.length b5] 26 (0, 0)) (xb a1.out) hb)
     replace HB := ak (below_step zh_1 hb)
     (try clear hb)
     (try clear hb2)
     (try clear hk)
     (try clear hi)
     refine hK.out _ _ ⟨(blk_cell a1.out 0).trans rfl, (blk_cell a1.out 1).trans rfl⟩ (fun hHeld => ?_)
     clear hK K
     refine no_ (N := some 49) ?_
     refine one_ (i := 22) (N := some 51) (bA 26 8388607) rfl rfl (one_of HT_.out zh_17) (by decide) (fun K hK => ?_)
     refine ge_ Try.func19 #[.agg #[.slice b8 a5.length b4, .slice b9 a6.length b5]] ?_
     with_reducible refine (impl_NoOf.calls _ _ a5 _ _ a6 g2 _ ?side1 ?side2 ?side3 ?side4 j5.out).mono ?_
     (case side1 => repeat (first | exact (Kd.S_reads' a3.out).2.2 | (with_reducible refine Kd.C_alloc ?_ _) | (with_reducible refine Kd.C_drewN ?_ _) | (with_reducible refine Kd.C_drew ?_)))
     (case side2 => exact (Kd.S_reads' a3.out).2.1)
     (case side3 => repeat (first | exact (Kd.Q_reads' a2.out).2.2 | (with_reducible refine Kd.C_alloc ?_ _) | (with_reducible refine Kd.C_drewN ?_ _) | (with_reducible refine Kd.C_drew ?_)))
     (case side4 => exact (Kd.Q_reads' a2.out).2.1)
     rintro e w' ⟨rfl, hb⟩
     refine ⟨_, rfl, ?_⟩
     replace a3 := ak (Kd.S_below (xS a3.out) hb)
     replace a2 := ak (Kd.Q_below (xQ a2.out) hb)
     replace a1 := ak (blk_below (g := a4) (o := .cells #[.slice b8 a5.length b4, .slice b9 a6.length b5] 26 (0, 0)) (xb a1.out) hb)
     replace HB := ak (below_step zh_1 hb)
     (try clear hb)
     (try clear hb2)
     (try clear hk)
     (try clear hi)
     refine hK.out _ _ ⟨(blk_cell a1.out 0).trans rfl, (blk_cell a1.out 1).trans rfl⟩ (fun hHeld => ?_)
     clear hK K
     refine no_ (N := some 51) ?_
     refine pu_ (i := 23) (N := some 52) (bA 26 16777215) ?_
     refine pu_ (i := 24) (N := some 53) (bA 26 33554431) ?_
     refine pu_ (i := 25) (N := some 2) (bA 26 67108863) ?_
     refine done_ (done_of HT_.out zh_17) ?_
     try go_wp2
     go_ret
     exact ⟨zh_2, zh_1⟩
    obtain rfl := Option.some.inj H
    go_enter Try.func7, Try.ntmps7
    try go_wp2_with (first | ((with_reducible refine gate_callee (f := 31) rfl ?_); refine gl_ (some 11) Try.func31 #[.slice A0 l0.length c0] ?_; (with_reducible refine (spec_DrawNotOf.calls k _ _ l0 a5 a6 a7 _ (y4 HR0.out) f9.out A3.out).mono ?_); rintro e w' ⟨f6, f8, rfl, ho0, ho1, hb⟩; refine ⟨_, rfl, ?_⟩; have a3 := ak (Kd.S_lower ho0 (below_size zh_0)); have a2 := ak (Kd.Q_lower ho1 (below_size zh_0)); replace HB := ak (below_step zh_0 hb); (try clear hb); (try clear hb2); (try clear hk); (try clear hi); (try clear ho0); (try clear ho1)) | ((with_reducible refine gate_dst (N := 3) rfl ?_); (try (refine gate_guard (by rfl) ?_; dsimp only)); refine box_event ?hg (N := 3) ?hd (cs := #[.slice none 0 0, .slice none 0 0]) (t := 26) ?hr ?_; (case hd => rfl); (case hg => rfl); (case hr => first | (go_simp; done) | (go_simp; rfl)); intro a4 hg k9 hbox hb; replace a3 := ak (Kd.S_below (xS a3.out) hb); replace a2 := ak (Kd.Q_below (xQ a2.out) hb); have a1 := ak (hbox); have e1 := ak ((by rw [hg]; exact (below_size zh_0) : w.heap.size ≤ a4)); have d6 := ak ((by rw [hg]; exact (below_size zh_0) : w.heap.size ≤ a4)); replace HB := ak (below_step zh_0 hb); clear hb hbox hg; obtain ⟨d7, d2, i6⟩ := Kd.S_slice a3.out; subst i6; have b0 := cz20 a1.out; have b1 := cz21 a1.out; have b2 := blk_frozen a1.out 0; have b3 := blk_frozen a1.out 1; obtain ⟨d8, d3, i7, _⟩ := Kd.Q_slice a2.out; subst i7) | ((with_reducible refine gate_callee (f := 29) rfl ?_); refine gl_ (some 16) Try.func29 #[.agg #[.slice d7 a5.length d2, .slice d8 a6.length d3], .int .i64 a7] ?_; (with_reducible refine (impl_NotOf.calls _ _ a5 _ _ a6 a7 a9 _ (by refine (Kd.S_reads' (e := 24) (base := w.heap.size) (ok := fun k_ => some k_ ≠ (.slice d8 a6.length d3 : Value).ownBlock) (n := a5.length) (c := d2) ?_).2.2; exact zh_6) (y2 a3.out) (by refine (Kd.Q_reads' (e := 3) (base := w.heap.size) (ok := fun k_ => True) (n := a6.length) (c := d3) ?_).2.2; exact zh_13) (y2 a2.out) A4.out).mono ?_); rintro e w' ⟨rfl, hb⟩; refine ⟨_, rfl, ?_⟩; replace a3 := ak (Kd.S_below zh_6 hb); replace a2 := ak (Kd.Q_below zh_13 hb); replace a1 := ak (blk_below (g := a4) (o := .cells #[.slice d7 a5.length d2, .slice d8 a6.length d3] 26 (0, 0)) (by (with_reducible repeat (first | refine blk_drewN ?_ _ | refine blk_drew ?_ | refine blk_alloc ?_ _)); refine blk_put (cs := #[.slice d7 a5.length d2, .slice none 0 0]) ?_ 1 _ rfl; (with_reducible repeat (first | refine blk_drewN ?_ _ | refine blk_drew ?_ | refine blk_alloc ?_ _)); refine blk_put (cs := #[.slice none 0 0, .slice none 0 0]) ?_ 0 _ rfl; (with_reducible repeat (first | refine blk_drewN ?_ _ | refine blk_drew ?_ | refine blk_alloc ?_ _)); exact a1.out) hb); replace HB := ak (below_step zh_1 hb); (try clear hb); (try clear hb2); (try clear hk); (try clear hi); have b0 := cz20 a1.out; have b1 := cz21 a1.out; have b2 := blk_frozen a1.out 0; have b3 := blk_frozen a1.out 1) | ((with_reducible refine gate_callee (f := 32) rfl ?_); refine gl_ (some 20) Try.func32 #[.agg #[.slice d7 a5.length d2, .slice d8 a6.length d3], .int .i64 a7] ?_; (with_reducible refine (spec_NotOf.calls k _ _ a5 _ _ a6 a7 e2 _ (y1 a3.out) (y2 a3.out) (y1 a2.out) (y2 a2.out) A5.out).mono ?_); rintro e j7 ⟨rfl, hb⟩; refine ⟨_, rfl, ?_⟩; replace a3 := ak (Kd.S_below (xS a3.out) hb); replace a2 := ak (Kd.Q_below (xQ a2.out) hb); replace a1 := ak (blk_below (g := a4) (o := .cells #[.slice d7 a5.length d2, .slice d8 a6.length d3] 26 (0, 0)) (xb a1.out) hb); replace HB := ak (below_step zh_1 hb); (try clear hb); (try clear hb2); (try clear hk); (try clear hi)))
    replace a3 := ak (Kd.S_drew a3.out)
    replace a2 := ak (Kd.Q_drew a2.out)
    replace a1 := ak (blk_drew a1.out)
    replace HB := ak (below_drew1 HB.out)
    refine start_ (n := 26) (S := fun w' => w'.cell? ⟨a4, 0, none⟩ = some (.slice d7 a5.length d2) ∧ w'.cell? ⟨a4, 1, none⟩ = some (.slice d8 a6.length d3)) (ds := []) (bA 26 0) zh_17 rfl rfl ⟨(blk_cell a1.out 0).trans rfl, (blk_cell a1.out 1).trans rfl⟩ (fun hHeld => ?_); refine with_tabW laws_FnNotOf.tab9 laws_FnNotOf.bits9 (fun HT_ HW_ => ?_)
    generalize j7.drew = l1 at a3 a2 a1 HB hHeld ⊢
    refine pu_ (i := 1) (N := some 30) (bA 26 2) ?_
    refine pu_ (i := 3) (N := some 32) (bA 26 10) ?_
    refine tk_ (i := 0) (N := some 29) (bA 26 11) ?_
    refine one_ (i := 2) (N := some 31) (bA 26 15) rfl rfl (one_of HT_.out zh_17) (by decide) (fun K hK => ?_)
    refine ge_ Try.func29 #[.agg #[.slice d7 a5.length d2, .slice d8 a6.length d3], .int .i64 a9] ?_
    with_reducible refine (impl_NotOf.calls _ _ a5 _ _ a6 a9 f5 _ ?side1 ?side2 ?side3 ?side4 h2.out).mono ?_
    (case side1 => repeat (first | exact (Kd.S_reads' a3.out).2.2 | (with_reducible refine Kd.C_alloc ?_ _) | (with_reducible refine Kd.C_drewN ?_ _) | (with_reducible refine Kd.C_drew ?_)))
    (case side2 => exact (Kd.S_reads' a3.out).2.1)
    (case side3 => repeat (first | exact (Kd.Q_reads' a2.out).2.2 | (with_reducible refine Kd.C_alloc ?_ _) | (with_reducible refine Kd.C_drewN ?_ _) | (with_reducible refine Kd.C_drew ?_)))
    (case side4 => exact (Kd.Q_reads' a2.out).2.1)
    rintro e w' ⟨rfl, hb⟩
    refine ⟨_, rfl, ?_⟩
    replace a3 := ak (Kd.S_below (xS a3.out) hb)
    replace a2 := ak (Kd.Q_below (xQ a2.out) hb)
    replace a1 := ak (blk_below (g := a4) (o := .cells #[.slice d7 a5.length d2, .slice d8 a6.length d3] 26 (0, 0)) (xb a1.out) hb)
    replace HB := ak (below_step zh_1 hb)
    (try clear hb)
    (try clear hb2)
    (try clear hk)
    (try clear hi)
    refine hK.out _ _ ⟨(blk_cell a1.out 0).trans rfl, (blk_cell a1.out 1).trans rfl⟩ (fun hHeld => ?_)
    clear hK K
    refine no_ (N := some 31) ?_
    refine pu_ (i := 4) (N := some 33) (bA 26 31) ?_
    refine pu_ (i := 5) (N := some 34) (bA 26 63) ?_
    refine pu_ (i := 6) (N := some 35) (bA 26 127) ?_
    refine pu_ (i := 7) (N := some 36) (bA 26 255) ?_
    refine pu_ (i := 8) (N := some 37) (bA 26 511) ?_
    refine pu_ (i := 9) (N := some 38) (bA 26 1023) ?_
    refine pu_ (i := 10) (N := some 39) (bA 26 2047) ?_
    refine tk_ (i := 11) (N := some 40) (bA 26 4095) ?_
    refine pu_ (i := 12) (N := some 41) (bA 26 8191) ?_
    refine pu_ (i := 13) (N := some 42) (bA 26 16383) ?_
    refine pu_ (i := 14) (N := some 43) (bA 26 32767) ?_
    refine pu_ (i := 15) (N := some 44) (bA 26 65535) ?_
    refine pu_ (i := 16) (N := some 45) (bA 26 131071) ?_
    refine of_ (i := 17) (N := some 46) (bA 26 262143) ?_
    refine of_ (i := 18) (N := some 47) (bA 26 524287) ?_
    refine of_ (i := 19) (N := some 48) (bA 26 1048575) ?_
    refine of_ (i := 20) (N := some 49) (bA 26 2097151) ?_
    refine of_ (i := 21) (N := some 50) (bA 26 4194303) ?_
    refine of_ (i := 22) (N := some 51) (bA 26 8388607) ?_
    refine of_ (i := 23) (N := some 52) (bA 26 16777215) ?_
    refine pu_ (i := 24) (N := some 53) (bA 26 33554431) ?_
    refine pu_ (i := 25) (N := some 2) (bA 26 67108863) ?_
    refine done_ (done_of HT_.out zh_17) ?_
    try go_wp2
    go_ret
    exact ⟨zh_2, zh_1⟩
   replace H := bd_ H
   obtain ⟨g3, j8, H⟩ := H
   replace H := bd_ H
   obtain ⟨g4, j9, H⟩ := H
   try dsimp only at H
   obtain rfl := Option.some.inj H
   go_enter Try.func7, Try.ntmps7
   try go_wp2_with (first | ((with_reducible refine gate_callee (f := 31) rfl ?_); refine gl_ (some 11) Try.func31 #[.slice A0 l0.length c0] ?_; (with_reducible refine (spec_DrawNotOf.calls k _ _ l0 a5 a6 a7 _ (y4 HR0.out) f9.out A3.out).mono ?_); rintro e w' ⟨f6, f8, rfl, ho0, ho1, hb⟩; refine ⟨_, rfl, ?_⟩; have a3 := ak (Kd.S_lower ho0 (below_size zh_0)); have a2 := ak (Kd.Q_lower ho1 (below_size zh_0)); replace HB := ak (below_step zh_0 hb); (try clear hb); (try clear hb2); (try clear hk); (try clear hi); (try clear ho0); (try clear ho1)) | ((with_reducible refine gate_dst (N := 3) rfl ?_); (try (refine gate_guard (by rfl) ?_; dsimp only)); refine box_event ?hg (N := 3) ?hd (cs := #[.slice none 0 0, .slice none 0 0]) (t := 26) ?hr ?_; (case hd => rfl); (case hg => rfl); (case hr => first | (go_simp; done) | (go_simp; rfl)); intro a4 hg l2 hbox hb; replace a3 := ak (Kd.S_below (xS a3.out) hb); replace a2 := ak (Kd.Q_below (xQ a2.out) hb); have a1 := ak (hbox); have e1 := ak ((by rw [hg]; exact (below_size zh_0) : w.heap.size ≤ a4)); have d6 := ak ((by rw [hg]; exact (below_size zh_0) : w.heap.size ≤ a4)); replace HB := ak (below_step zh_0 hb); clear hb hbox hg; obtain ⟨d0, b6, i8⟩ := Kd.S_slice a3.out; subst i8; have b0 := cz20 a1.out; have b1 := cz21 a1.out; have b2 := blk_frozen a1.out 0; have b3 := blk_frozen a1.out 1; obtain ⟨d1, b7, i9, _⟩ := Kd.Q_slice a2.out; subst i9) | ((with_reducible refine gate_callee (f := 29) rfl ?_); refine gl_ (some 16) Try.func29 #[.agg #[.slice d0 a5.length b6, .slice d1 a6.length b7], .int .i64 a7] ?_; (with_reducible refine (impl_NotOf.calls _ _ a5 _ _ a6 a7 a9 _ (by refine (Kd.S_reads' (e := 24) (base := w.heap.size) (ok := fun k_ => some k_ ≠ (.slice d1 a6.length b7 : Value).ownBlock) (n := a5.length) (c := b6) ?_).2.2; exact zh_5) (y2 a3.out) (by refine (Kd.Q_reads' (e := 3) (base := w.heap.size) (ok := fun k_ => True) (n := a6.length) (c := b7) ?_).2.2; exact zh_12) (y2 a2.out) A4.out).mono ?_); rintro e w' ⟨rfl, hb⟩; refine ⟨_, rfl, ?_⟩; replace a3 := ak (Kd.S_below zh_5 hb); replace a2 := ak (Kd.Q_below zh_12 hb); replace a1 := ak (blk_below (g := a4) (o := .cells #[.slice d0 a5.length b6, .slice d1 a6.length b7] 26 (0, 0)) (by (with_reducible repeat (first | refine blk_drewN ?_ _ | refine blk_drew ?_ | refine blk_alloc ?_ _)); refine blk_put (cs := #[.slice d0 a5.length b6, .slice none 0 0]) ?_ 1 _ rfl; (with_reducible repeat (first | refine blk_drewN ?_ _ | refine blk_drew ?_ | refine blk_alloc ?_ _)); refine blk_put (cs := #[.slice none 0 0, .slice none 0 0]) ?_ 0 _ rfl; (with_reducible repeat (first | refine blk_drewN ?_ _ | refine blk_drew ?_ | refine blk_alloc ?_ _)); exact a1.out) hb); replace HB := ak (below_step zh_1 hb); (try clear hb); (try clear hb2); (try clear hk); (try clear hi); have b0 := cz20 a1.out; have b1 := cz21 a1.out; have b2 := blk_frozen a1.out 0; have b3 := blk_frozen a1.out 1) | ((with_reducible refine gate_callee (f := 32) rfl ?_); refine gl_ (some 20) Try.func32 #[.agg #[.slice d0 a5.length b6, .slice d1 a6.length b7], .int .i64 a7] ?_; (with_reducible refine (spec_NotOf.calls k _ _ a5 _ _ a6 a7 e2 _ (y1 a3.out) (y2 a3.out) (y1 a2.out) (y2 a2.out) A5.out).mono ?_); rintro e k0 ⟨rfl, hb⟩; refine ⟨_, rfl, ?_⟩; replace a3 := ak (Kd.S_below (xS a3.out) hb); replace a2 := ak (Kd.Q_below (xQ a2.out) hb); replace a1 := ak (blk_below (g := a4) (o := .cells #[.slice d0 a5.length b6, .slice d1 a6.length b7] 26 (0, 0)) (xb a1.out) hb); replace HB := ak (below_step zh_1 hb); (try clear hb); (try clear hb2); (try clear hk); (try clear hi)))
   replace a3 := ak (Kd.S_drew a3.out)
   replace a2 := ak (Kd.Q_drew a2.out)
   replace a1 := ak (blk_drew a1.out)
   replace HB := ak (below_drew1 HB.out)
   refine start_ (n := 26) (S := fun w' => w'.cell? ⟨a4, 0, none⟩ = some (.slice d0 a5.length b6) ∧ w'.cell? ⟨a4, 1, none⟩ = some (.slice d1 a6.length b7)) (ds := []) (bA 26 0) zh_17 rfl rfl ⟨(blk_cell a1.out 0).trans rfl, (blk_cell a1.out 1).trans rfl⟩ (fun hHeld => ?_); refine with_tabW laws_FnNotOf.tab9 laws_FnNotOf.bits9 (fun HT_ HW_ => ?_)
   generalize k0.drew = l3 at a3 a2 a1 HB hHeld ⊢
   refine pu_ (i := 1) (N := some 30) (bA 26 2) ?_
   refine pu_ (i := 3) (N := some 32) (bA 26 10) ?_
   refine tk_ (i := 0) (N := some 29) (bA 26 11) ?_
   refine one_ (i := 2) (N := some 31) (bA 26 15) rfl rfl (one_of HT_.out zh_17) (by decide) (fun K hK => ?_)
   refine ge_ Try.func29 #[.agg #[.slice d0 a5.length b6, .slice d1 a6.length b7], .int .i64 a9] ?_
   with_reducible refine (impl_NotOf.calls _ _ a5 _ _ a6 a9 f5 _ ?side1 ?side2 ?side3 ?side4 h2.out).mono ?_
   (case side1 => repeat (first | exact (Kd.S_reads' a3.out).2.2 | (with_reducible refine Kd.C_alloc ?_ _) | (with_reducible refine Kd.C_drewN ?_ _) | (with_reducible refine Kd.C_drew ?_)))
   (case side2 => exact (Kd.S_reads' a3.out).2.1)
   (case side3 => repeat (first | exact (Kd.Q_reads' a2.out).2.2 | (with_reducible refine Kd.C_alloc ?_ _) | (with_reducible refine Kd.C_drewN ?_ _) | (with_reducible refine Kd.C_drew ?_)))
   (case side4 => exact (Kd.Q_reads' a2.out).2.1)
   rintro e w' ⟨rfl, hb⟩
   refine ⟨_, rfl, ?_⟩
   replace a3 := ak (Kd.S_below (xS a3.out) hb)
   replace a2 := ak (Kd.Q_below (xQ a2.out) hb)
   replace a1 := ak (blk_below (g := a4) (o := .cells #[.slice d0 a5.length b6, .slice d1 a6.length b7] 26 (0, 0)) (xb a1.out) hb)
   replace HB := ak (below_step zh_1 hb)
   (try clear hb)
   (try clear hb2)
   (try clear hk)
   (try clear hi)
   refine hK.out _ _ ⟨(blk_cell a1.out 0).trans rfl, (blk_cell a1.out 1).trans rfl⟩ (fun hHeld => ?_)
   clear hK K
   refine no_ (N := some 31) ?_
   refine pu_ (i := 4) (N := some 33) (bA 26 31) ?_
   refine pu_ (i := 5) (N := some 34) (bA 26 63) ?_
   refine pu_ (i := 6) (N := some 35) (bA 26 127) ?_
   refine pu_ (i := 7) (N := some 36) (bA 26 255) ?_
   refine pu_ (i := 8) (N := some 37) (bA 26 511) ?_
   refine pu_ (i := 9) (N := some 38) (bA 26 1023) ?_
   refine of_ (i := 10) (N := some 39) (bA 26 2047) ?_
   refine of_ (i := 11) (N := some 40) (bA 26 4095) ?_
   refine of_ (i := 12) (N := some 41) (bA 26 8191) ?_
   refine of_ (i := 13) (N := some 42) (bA 26 16383) ?_
   refine pu_ (i := 14) (N := some 43) (bA 26 32767) ?_
   refine pu_ (i := 15) (N := some 44) (bA 26 65535) ?_
   refine pu_ (i := 16) (N := some 45) (bA 26 131071) ?_
   refine pu_ (i := 18) (N := some 47) (bA 26 393215) ?_
   refine pu_ (i := 19) (N := some 48) (bA 26 917503) ?_
   refine tk_ (i := 17) (N := some 46) (bA 26 1048575) ?_
   refine tk_ (i := 21) (N := some 50) (bA 26 3145727) ?_
   refine one_ (i := 20) (N := some 49) (bA 26 4194303) rfl rfl (one_of HT_.out zh_17) (by decide) (fun K hK => ?_)
   refine ge_ Try.func27 #[.agg #[.slice d0 a5.length b6, .slice d1 a6.length b7], .int .i64 a7, .int .i64 a9] ?_
   with_reducible refine (impl_AndOf.calls _ _ a5 _ _ a6 a7 a9 g3 _ ?side1 ?side2 ?side3 ?side4 j8.out).mono ?_
   (case side1 => repeat (first | exact (Kd.S_reads' a3.out).2.2 | (with_reducible refine Kd.C_alloc ?_ _) | (with_reducible refine Kd.C_drewN ?_ _) | (with_reducible refine Kd.C_drew ?_)))
   (case side2 => exact (Kd.S_reads' a3.out).2.1)
   (case side3 => repeat (first | exact (Kd.Q_reads' a2.out).2.2 | (with_reducible refine Kd.C_alloc ?_ _) | (with_reducible refine Kd.C_drewN ?_ _) | (with_reducible refine Kd.C_drew ?_)))
   (case side4 => exact (Kd.Q_reads' a2.out).2.1)
   rintro e w' ⟨rfl, hb⟩
   refine ⟨_, rfl, ?_⟩
   replace a3 := ak (Kd.S_below (xS a3.out) hb)
   replace a2 := ak (Kd.Q_below (xQ a2.out) hb)
   replace a1 := ak (blk_below (g := a4) (o := .cells #[.slice d0 a5.length b6, .slice d1 a6.length b7] 26 (0, 0)) (xb a1.out) hb)
   replace HB := ak (below_step zh_1 hb)
   (try clear hb)
   (try clear hb2)
   (try clear hk)
   (try clear hi)
   refine hK.out _ _ ⟨(blk_cell a1.out 0).trans rfl, (blk_cell a1.out 1).trans rfl⟩ (fun hHeld => ?_)
   clear hK K
   refine no_ (N := some 49) ?_
   refine one_ (i := 22) (N := some 51) (bA 26 8388607) rfl rfl (one_of HT_.out zh_17) (by decide) (fun K hK => ?_)
   refine ge_ Try.func19 #[.agg #[.slice d0 a5.length b6, .slice d1 a6.length b7]] ?_
   with_reducible refine (impl_NoOf.calls _ _ a5 _ _ a6 g4 _ ?side1 ?side2 ?side3 ?side4 j9.out).mono ?_
   (case side1 => repeat (first | exact (Kd.S_reads' a3.out).2.2 | (with_reducible refine Kd.C_alloc ?_ _) | (with_reducible refine Kd.C_drewN ?_ _) | (with_reducible refine Kd.C_drew ?_)))
   (case side2 => exact (Kd.S_reads' a3.out).2.1)
   (case side3 => repeat (first | exact (Kd.Q_reads' a2.out).2.2 | (with_reducible refine Kd.C_alloc ?_ _) | (with_reducible refine Kd.C_drewN ?_ _) | (with_reducible refine Kd.C_drew ?_)))
   (case side4 => exact (Kd.Q_reads' a2.out).2.1)
   rintro e w' ⟨rfl, hb⟩
   refine ⟨_, rfl, ?_⟩
   replace a3 := ak (Kd.S_below (xS a3.out) hb)
   replace a2 := ak (Kd.Q_below (xQ a2.out) hb)
   replace a1 := ak (blk_below (g := a4) (o := .cells #[.slice d0 a5.length b6, .slice d1 a6.length b7] 26 (0, 0)) (xb a1.out) hb)
   replace HB := ak (below_step zh_1 hb)
   (try clear hb)
   (try clear hb2)
   (try clear hk)
   (try clear hi)
   refine hK.out _ _ ⟨(blk_cell a1.out 0).trans rfl, (blk_cell a1.out 1).trans rfl⟩ (fun hHeld => ?_)
   clear hK K
   refine no_ (N := some 51) ?_
   refine pu_ (i := 23) (N := some 52) (bA 26 16777215) ?_
   refine pu_ (i := 24) (N := some 53) (bA 26 33554431) ?_
   refine pu_ (i := 25) (N := some 2) (bA 26 67108863) ?_
   refine done_ (done_of HT_.out zh_17) ?_
   try go_wp2
   go_ret
   exact ⟨zh_2, zh_1⟩
  obtain rfl := Option.some.inj H
  go_enter Try.func7, Try.ntmps7
  try go_wp2_with (first | ((with_reducible refine gate_callee (f := 31) rfl ?_); refine gl_ (some 11) Try.func31 #[.slice A0 l0.length c0] ?_; (with_reducible refine (spec_DrawNotOf.calls k _ _ l0 a5 a6 a7 _ (y4 HR0.out) f9.out A3.out).mono ?_); rintro e w' ⟨f6, f8, rfl, ho0, ho1, hb⟩; refine ⟨_, rfl, ?_⟩; have a3 := ak (Kd.S_lower ho0 (below_size zh_0)); have a2 := ak (Kd.Q_lower ho1 (below_size zh_0)); replace HB := ak (below_step zh_0 hb); (try clear hb); (try clear hb2); (try clear hk); (try clear hi); (try clear ho0); (try clear ho1)) | ((with_reducible refine gate_dst (N := 3) rfl ?_); (try (refine gate_guard (by rfl) ?_; dsimp only)); refine box_event ?hg (N := 3) ?hd (cs := #[.slice none 0 0, .slice none 0 0]) (t := 26) ?hr ?_; (case hd => rfl); (case hg => rfl); (case hr => first | (go_simp; done) | (go_simp; rfl)); intro a4 hg l4 hbox hb; replace a3 := ak (Kd.S_below (xS a3.out) hb); replace a2 := ak (Kd.Q_below (xQ a2.out) hb); have a1 := ak (hbox); have e1 := ak ((by rw [hg]; exact (below_size zh_0) : w.heap.size ≤ a4)); have d6 := ak ((by rw [hg]; exact (below_size zh_0) : w.heap.size ≤ a4)); replace HB := ak (below_step zh_0 hb); clear hb hbox hg; obtain ⟨d9, d4, j0⟩ := Kd.S_slice a3.out; subst j0; have b0 := cz20 a1.out; have b1 := cz21 a1.out; have b2 := blk_frozen a1.out 0; have b3 := blk_frozen a1.out 1; obtain ⟨e0, d5, j1, _⟩ := Kd.Q_slice a2.out; subst j1) | ((with_reducible refine gate_callee (f := 29) rfl ?_); refine gl_ (some 16) Try.func29 #[.agg #[.slice d9 a5.length d4, .slice e0 a6.length d5], .int .i64 a7] ?_; (with_reducible refine (impl_NotOf.calls _ _ a5 _ _ a6 a7 a9 _ (by refine (Kd.S_reads' (e := 24) (base := w.heap.size) (ok := fun k_ => some k_ ≠ (.slice e0 a6.length d5 : Value).ownBlock) (n := a5.length) (c := d4) ?_).2.2; exact zh_4) (y2 a3.out) (by refine (Kd.Q_reads' (e := 3) (base := w.heap.size) (ok := fun k_ => True) (n := a6.length) (c := d5) ?_).2.2; exact zh_11) (y2 a2.out) A4.out).mono ?_); rintro e w' ⟨rfl, hb⟩; refine ⟨_, rfl, ?_⟩; replace a3 := ak (Kd.S_below zh_4 hb); replace a2 := ak (Kd.Q_below zh_11 hb); replace a1 := ak (blk_below (g := a4) (o := .cells #[.slice d9 a5.length d4, .slice e0 a6.length d5] 26 (0, 0)) (by (with_reducible repeat (first | refine blk_drewN ?_ _ | refine blk_drew ?_ | refine blk_alloc ?_ _)); refine blk_put (cs := #[.slice d9 a5.length d4, .slice none 0 0]) ?_ 1 _ rfl; (with_reducible repeat (first | refine blk_drewN ?_ _ | refine blk_drew ?_ | refine blk_alloc ?_ _)); refine blk_put (cs := #[.slice none 0 0, .slice none 0 0]) ?_ 0 _ rfl; (with_reducible repeat (first | refine blk_drewN ?_ _ | refine blk_drew ?_ | refine blk_alloc ?_ _)); exact a1.out) hb); replace HB := ak (below_step zh_1 hb); (try clear hb); (try clear hb2); (try clear hk); (try clear hi); have b0 := cz20 a1.out; have b1 := cz21 a1.out; have b2 := blk_frozen a1.out 0; have b3 := blk_frozen a1.out 1) | ((with_reducible refine gate_callee (f := 32) rfl ?_); refine gl_ (some 20) Try.func32 #[.agg #[.slice d9 a5.length d4, .slice e0 a6.length d5], .int .i64 a7] ?_; (with_reducible refine (spec_NotOf.calls k _ _ a5 _ _ a6 a7 e2 _ (y1 a3.out) (y2 a3.out) (y1 a2.out) (y2 a2.out) A5.out).mono ?_); rintro e k1 ⟨rfl, hb⟩; refine ⟨_, rfl, ?_⟩; replace a3 := ak (Kd.S_below (xS a3.out) hb); replace a2 := ak (Kd.Q_below (xQ a2.out) hb); replace a1 := ak (blk_below (g := a4) (o := .cells #[.slice d9 a5.length d4, .slice e0 a6.length d5] 26 (0, 0)) (xb a1.out) hb); replace HB := ak (below_step zh_1 hb); (try clear hb); (try clear hb2); (try clear hk); (try clear hi)))
  replace a3 := ak (Kd.S_drew a3.out)
  replace a2 := ak (Kd.Q_drew a2.out)
  replace a1 := ak (blk_drew a1.out)
  replace HB := ak (below_drew1 HB.out)
  refine start_ (n := 26) (S := fun w' => w'.cell? ⟨a4, 0, none⟩ = some (.slice d9 a5.length d4) ∧ w'.cell? ⟨a4, 1, none⟩ = some (.slice e0 a6.length d5)) (ds := []) (bA 26 0) zh_17 rfl rfl ⟨(blk_cell a1.out 0).trans rfl, (blk_cell a1.out 1).trans rfl⟩ (fun hHeld => ?_); refine with_tabW laws_FnNotOf.tab9 laws_FnNotOf.bits9 (fun HT_ HW_ => ?_)
  generalize k1.drew = l5 at a3 a2 a1 HB hHeld ⊢
  refine pu_ (i := 1) (N := some 30) (bA 26 2) ?_
  refine pu_ (i := 3) (N := some 32) (bA 26 10) ?_
  refine tk_ (i := 0) (N := some 29) (bA 26 11) ?_
  refine one_ (i := 2) (N := some 31) (bA 26 15) rfl rfl (one_of HT_.out zh_17) (by decide) (fun K hK => ?_)
  refine ge_ Try.func29 #[.agg #[.slice d9 a5.length d4, .slice e0 a6.length d5], .int .i64 a9] ?_
  with_reducible refine (impl_NotOf.calls _ _ a5 _ _ a6 a9 f5 _ ?side1 ?side2 ?side3 ?side4 h2.out).mono ?_
  (case side1 => repeat (first | exact (Kd.S_reads' a3.out).2.2 | (with_reducible refine Kd.C_alloc ?_ _) | (with_reducible refine Kd.C_drewN ?_ _) | (with_reducible refine Kd.C_drew ?_)))
  (case side2 => exact (Kd.S_reads' a3.out).2.1)
  (case side3 => repeat (first | exact (Kd.Q_reads' a2.out).2.2 | (with_reducible refine Kd.C_alloc ?_ _) | (with_reducible refine Kd.C_drewN ?_ _) | (with_reducible refine Kd.C_drew ?_)))
  (case side4 => exact (Kd.Q_reads' a2.out).2.1)
  rintro e w' ⟨rfl, hb⟩
  refine ⟨_, rfl, ?_⟩
  replace a3 := ak (Kd.S_below (xS a3.out) hb)
  replace a2 := ak (Kd.Q_below (xQ a2.out) hb)
  replace a1 := ak (blk_below (g := a4) (o := .cells #[.slice d9 a5.length d4, .slice e0 a6.length d5] 26 (0, 0)) (xb a1.out) hb)
  replace HB := ak (below_step zh_1 hb)
  (try clear hb)
  (try clear hb2)
  (try clear hk)
  (try clear hi)
  refine hK.out _ _ ⟨(blk_cell a1.out 0).trans rfl, (blk_cell a1.out 1).trans rfl⟩ (fun hHeld => ?_)
  clear hK K
  refine no_ (N := some 31) ?_
  refine pu_ (i := 4) (N := some 33) (bA 26 31) ?_
  refine pu_ (i := 5) (N := some 34) (bA 26 63) ?_
  refine of_ (i := 6) (N := some 35) (bA 26 127) ?_
  refine of_ (i := 7) (N := some 36) (bA 26 255) ?_
  refine of_ (i := 8) (N := some 37) (bA 26 511) ?_
  refine of_ (i := 9) (N := some 38) (bA 26 1023) ?_
  refine of_ (i := 10) (N := some 39) (bA 26 2047) ?_
  refine of_ (i := 11) (N := some 40) (bA 26 4095) ?_
  refine of_ (i := 12) (N := some 41) (bA 26 8191) ?_
  refine of_ (i := 13) (N := some 42) (bA 26 16383) ?_
  refine of_ (i := 14) (N := some 43) (bA 26 32767) ?_
  refine pu_ (i := 15) (N := some 44) (bA 26 65535) ?_
  refine pu_ (i := 16) (N := some 45) (bA 26 131071) ?_
  refine of_ (i := 17) (N := some 46) (bA 26 262143) ?_
  refine of_ (i := 18) (N := some 47) (bA 26 524287) ?_
  refine of_ (i := 19) (N := some 48) (bA 26 1048575) ?_
  refine of_ (i := 20) (N := some 49) (bA 26 2097151) ?_
  refine of_ (i := 21) (N := some 50) (bA 26 4194303) ?_
  refine of_ (i := 22) (N := some 51) (bA 26 8388607) ?_
  refine of_ (i := 23) (N := some 52) (bA 26 16777215) ?_
  refine pu_ (i := 24) (N := some 53) (bA 26 33554431) ?_
  refine pu_ (i := 25) (N := some 2) (bA 26 67108863) ?_
  refine done_ (done_of HT_.out zh_17) ?_
  try go_wp2
  go_ret
  exact ⟨zh_2, zh_1⟩
 obtain rfl := Option.some.inj H
 go_enter Try.func7, Try.ntmps7
 go_wp2_with (first | ((with_reducible refine gate_callee (f := 31) rfl ?_); refine gl_ (some 11) Try.func31 #[.slice A0 l0.length c0] ?_; (with_reducible refine (spec_DrawNotOf.calls k _ _ l0 a5 a6 a7 _ (y4 HR0.out) f9.out A3.out).mono ?_); rintro e w' ⟨f6, f8, rfl, ho0, ho1, hb⟩; refine ⟨_, rfl, ?_⟩; have a3 := ak (Kd.S_lower ho0 (below_size zh_0)); have a2 := ak (Kd.Q_lower ho1 (below_size zh_0)); replace HB := ak (below_step zh_0 hb); (try clear hb); (try clear hb2); (try clear hk); (try clear hi); (try clear ho0); (try clear ho1)) | ((with_reducible refine gate_dst (N := 3) rfl ?_); (try (refine gate_guard (by rfl) ?_; dsimp only)); refine box_event ?hg (N := 3) ?hd (cs := #[.slice none 0 0, .slice none 0 0]) (t := 26) ?hr ?_; (case hd => rfl); (case hg => rfl); (case hr => first | (go_simp; done) | (go_simp; rfl)); intro a4 hg l6 hbox hb; replace a3 := ak (Kd.S_below (xS a3.out) hb); replace a2 := ak (Kd.Q_below (xQ a2.out) hb); have a1 := ak (hbox); have e1 := ak ((by rw [hg]; exact (below_size zh_0) : w.heap.size ≤ a4)); have d6 := ak ((by rw [hg]; exact (below_size zh_0) : w.heap.size ≤ a4)); replace HB := ak (below_step zh_0 hb); clear hb hbox hg; obtain ⟨f3, e7, j2⟩ := Kd.S_slice a3.out; subst j2; have b0 := cz20 a1.out; have b1 := cz21 a1.out; have b2 := blk_frozen a1.out 0; have b3 := blk_frozen a1.out 1; obtain ⟨f4, e8, j3, _⟩ := Kd.Q_slice a2.out; subst j3) | ((with_reducible refine gate_callee (f := 29) rfl ?_); refine gl_ (some 16) Try.func29 #[.agg #[.slice f3 a5.length e7, .slice f4 a6.length e8], .int .i64 a7] ?_; (with_reducible refine (impl_NotOf.calls _ _ a5 _ _ a6 a7 a9 _ (by refine (Kd.S_reads' (e := 24) (base := w.heap.size) (ok := fun k_ => some k_ ≠ (.slice f4 a6.length e8 : Value).ownBlock) (n := a5.length) (c := e7) ?_).2.2; exact zh_3) (y2 a3.out) (by refine (Kd.Q_reads' (e := 3) (base := w.heap.size) (ok := fun k_ => True) (n := a6.length) (c := e8) ?_).2.2; exact zh_10) (y2 a2.out) A4.out).mono ?_); rintro e w' ⟨rfl, hb⟩; refine ⟨_, rfl, ?_⟩; replace a3 := ak (Kd.S_below zh_3 hb); replace a2 := ak (Kd.Q_below zh_10 hb); replace a1 := ak (blk_below (g := a4) (o := .cells #[.slice f3 a5.length e7, .slice f4 a6.length e8] 26 (0, 0)) (by (with_reducible repeat (first | refine blk_drewN ?_ _ | refine blk_drew ?_ | refine blk_alloc ?_ _)); refine blk_put (cs := #[.slice f3 a5.length e7, .slice none 0 0]) ?_ 1 _ rfl; (with_reducible repeat (first | refine blk_drewN ?_ _ | refine blk_drew ?_ | refine blk_alloc ?_ _)); refine blk_put (cs := #[.slice none 0 0, .slice none 0 0]) ?_ 0 _ rfl; (with_reducible repeat (first | refine blk_drewN ?_ _ | refine blk_drew ?_ | refine blk_alloc ?_ _)); exact a1.out) hb); replace HB := ak (below_step zh_1 hb); (try clear hb); (try clear hb2); (try clear hk); (try clear hi); have b0 := cz20 a1.out; have b1 := cz21 a1.out; have b2 := blk_frozen a1.out 0; have b3 := blk_frozen a1.out 1) | ((with_reducible refine gate_callee (f := 32) rfl ?_); refine gl_ (some 20) Try.func32 #[.agg #[.slice f3 a5.length e7, .slice f4 a6.length e8], .int .i64 a7] ?_; (with_reducible refine (spec_NotOf.calls k _ _ a5 _ _ a6 a7 e2 _ (y1 a3.out) (y2 a3.out) (y1 a2.out) (y2 a2.out) A5.out).mono ?_); rintro e w' ⟨rfl, hb⟩; refine ⟨_, rfl, ?_⟩; replace a3 := ak (Kd.S_below (xS a3.out) hb); replace a2 := ak (Kd.Q_below (xQ a2.out) hb); replace a1 := ak (blk_below (g := a4) (o := .cells #[.slice f3 a5.length e7, .slice f4 a6.length e8] 26 (0, 0)) (xb a1.out) hb); replace HB := ak (below_step zh_1 hb); (try clear hb); (try clear hb2); (try clear hk); (try clear hi)))
 go_ret
 exact ⟨zh_2, zh_1⟩

theorem laws_FnNotOf.walk (P : laws_FnNotOf.Pure) (a0 : Option Addr) (len0 cap0 : Nat) (z0 : List Int) (w : World) (w0 : (a0 = none ∧ len0 = 0 ∧ cap0 = 0 ∧ z0 = []) ∨ ∃ x, a0 = some x ∧ len0 ≤ cap0 ∧ cap0 ≤ maxLen ∧ z0.length = cap0 ∧ (∀ i, i < z0.length → w.cell? (x.add i) = some (.int .u8 (z0.getD i 0))) ∧ ∀ n ∈ z0, (Lit.int .u8 n).wf = true) (y0 : len0 * 1 ≤ 140737488351232) :
 Calls Try.prog 7 #[.slice a0 len0 cap0] w fun e w' => e = .returned (.bool true) ∧ Below w.heap.size w w' := by
 obtain ⟨l0, rfl, hr0, hm0, hw0, hc0⟩ := ReadsInt.ofRowC w0
 obtain ⟨k, h⟩ := P l0 hm0 y0 hw0
 refine (laws_FnNotOf.calls k _ _ l0 true w (Kd.C_of_reads (d := (0 : Int)) (h1 := fun _ => rfl) hr0) hc0 h).mono ?_
 rintro e w' ⟨rfl, hd⟩
 exact ⟨rfl, hd⟩

end Go.Proofs.Ytjgfpiilfnchnaa.P
