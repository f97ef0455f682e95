-- written by gen.py (a program of this session) out of the kit's print of this seat's translation
import Derived.Test.YtjgfpiilfnchnaaPk2
import Derived.Test.YtjgfpiilfnchnaaFLawsAlive
import Derived.Test.YtjgfpiilfnchnaaFSpecAndOf
import Derived.Test.YtjgfpiilfnchnaaFSpecDrawAndOf
import Derived.Test.YtjgfpiilfnchnaaV1
namespace Go.Proofs.Ytjgfpiilfnchnaa.P
open Go.RowKit Go.Proofs.YtjgfpiilfnchnaaW.PrintWords Go.Proofs.YtjgfpiilfnchnaaW.PrintLast Go.Proofs.YtjgfpiilfnchnaaW.PrintMore
attribute [local go_sem] max2_int min2_int max_two min_two max_three min_three max_four min_four
set_option linter.unusedVariables false
set_option linter.unusedSimpArgs false
def laws_FnAndOf.T9 : Bool × List (List Nat × List Nat) := (true, [([], []), ([], []), ([0, 1], [0, 1]), ([], []), ([], []), ([], []), ([4, 5, 2], [4, 5]), ([], []), ([], []), ([7, 8, 6], [7, 8]), ([3, 6, 9, 9], [3, 6, 9]), ([2, 10], [2, 10]), ([11, 10], [11]), ([12], [12]), ([12], [12]), ([13, 14, 12], [12, 13, 14]), ([12], [12]), ([16, 12], [12, 16]), ([12], [12]), ([17, 18, 12], [12, 17, 18]), ([19, 12], [12, 19]), ([12], [12]), ([20, 21, 12], [12, 20, 21]), ([22, 12], [12, 22]), ([23, 12], [12, 23]), ([15, 24, 12], [12, 15, 24]), ([12, 25], [12, 25]), ([26, 12], [26]), ([27], [27]), ([27], [27]), ([27], [27]), ([28, 29, 30, 27, 27], [27, 28, 29, 30]), ([27], [27]), ([31, 32, 27], [27, 31, 32]), ([27, 33], [27, 33]), ([34, 31, 0, 1, 2, 3, 4, 5, 6, 7, 8, 9, 10, 11, 12, 13, 14, 15, 16, 17, 18, 19, 20, 21, 22, 23, 24, 25, 26, 27, 28, 29, 30, 31, 32, 33, 34], [34])])
def laws_FnAndOf.B9 : List Nat := [0, 0, 3, 0, 0, 0, 55, 0, 0, 503, 1023, 2047, 4095, 8191, 8191, 32767, 8191, 73727, 8191, 466943, 991231, 8191, 4136959, 8331263, 16719871, 33554431, 67108863, 134217727, 268435455, 268435455, 268435455, 2147483647, 268435455, 8589934591, 17179869183, 34359738367]
theorem laws_FnAndOf.tab9 : rtab .any (opsOf Try.f6 9) = laws_FnAndOf.T9 := by kernel_rfl
theorem laws_FnAndOf.bits9 : waitsOk laws_FnAndOf.T9.2 laws_FnAndOf.B9 = true := by kernel_rfl
theorem zb_16 {p : Prop} (h : p := by kernel_rfl) : p := h
theorem zb_15 {p : Prop} (h : p := by repeat (first | (with_reducible exact HR664_0.out) | (with_reducible refine Kd.C_alloc ?_ _) | (with_reducible refine Kd.C_drewN ?_ _) | (with_reducible refine Kd.C_drew ?_) | exact HR664_0.out)) : p := h
theorem zb_14 {p : Prop} (h : p := by (with_reducible repeat (first | apply Kd.Q_alloc | apply Kd.Q_drewN | apply Kd.Q_drew)); exact (Kd.Q_mono (Kd.Q_far (p := ⟨a5, 1, none⟩) (Kd.Q_far (p := ⟨a5, 0, none⟩) (Kd.Q_types a3.out a1.out (by decide)) (fun _ hk => hk.2) (.slice e7 a4.length d9)) (fun _ hk => hk.2) (.slice e8 a6.length e0)) (fun _ h_ => h_.1))) : p := h
theorem zb_13 {p : Prop} (h : p := by (with_reducible repeat (first | apply Kd.Q_alloc | apply Kd.Q_drewN | apply Kd.Q_drew)); exact (Kd.Q_mono (Kd.Q_far (p := ⟨a5, 1, none⟩) (Kd.Q_far (p := ⟨a5, 0, none⟩) (Kd.Q_types a3.out a1.out (by decide)) (fun _ hk => hk.2) (.slice e9 a4.length e1)) (fun _ hk => hk.2) (.slice f0 a6.length e2)) (fun _ h_ => h_.1))) : p := h
theorem zb_12 {p : Prop} (h : p := by (with_reducible repeat (first | apply Kd.Q_alloc | apply Kd.Q_drewN | apply Kd.Q_drew)); exact (Kd.Q_mono (Kd.Q_far (p := ⟨a5, 1, none⟩) (Kd.Q_far (p := ⟨a5, 0, none⟩) (Kd.Q_types a3.out a1.out (by decide)) (fun _ hk => hk.2) (.slice f1 a4.length b1)) (fun _ hk => hk.2) (.slice b3 a6.length b2)) (fun _ h_ => h_.1))) : p := h
theorem zb_11 {p : Prop} (h : p := by (with_reducible repeat (first | apply Kd.Q_alloc | apply Kd.Q_drewN | apply Kd.Q_drew)); exact (Kd.Q_mono (Kd.Q_far (p := ⟨a5, 1, none⟩) (Kd.Q_far (p := ⟨a5, 0, none⟩) (Kd.Q_types a3.out a1.out (by decide)) (fun _ hk => hk.2) (.slice f2 a4.length b4)) (fun _ hk => hk.2) (.slice d2 a6.length b5)) (fun _ h_ => h_.1))) : p := h
theorem zb_10 {p : Prop} (h : p := by (with_reducible repeat (first | apply Kd.Q_alloc | apply Kd.Q_drewN | apply Kd.Q_drew)); exact (Kd.Q_mono (Kd.Q_far (p := ⟨a5, 1, none⟩) (Kd.Q_far (p := ⟨a5, 0, none⟩) (Kd.Q_types a3.out a1.out (by decide)) (fun _ hk => hk.2) (.slice d3 a4.length b6)) (fun _ hk => hk.2) (.slice d4 a6.length b7)) (fun _ h_ => h_.1))) : p := h
theorem zb_9 {p : Prop} (h : p := by (with_reducible repeat (first | apply Kd.Q_alloc | apply Kd.Q_drewN | apply Kd.Q_drew)); exact (Kd.Q_mono (Kd.Q_far (p := ⟨a5, 1, none⟩) (Kd.Q_far (p := ⟨a5, 0, none⟩) (Kd.Q_types a3.out a1.out (by decide)) (fun _ hk => hk.2) (.slice f3 a4.length e3)) (fun _ hk => hk.2) (.slice f4 a6.length e4)) (fun _ h_ => h_.1))) : p := h
theorem zb_8 {p : Prop} (h : p := by (with_reducible repeat (first | apply Kd.S_alloc | apply Kd.S_drewN | apply Kd.S_drew)); exact (Kd.S_mono (Kd.S_far (p := ⟨a5, 1, none⟩) (Kd.S_far (p := ⟨a5, 0, none⟩) (Kd.S_types a2.out a1.out (by decide)) (fun _ hk => hk.2) (.slice e7 a4.length d9)) (fun _ hk => hk.2) (.slice e8 a6.length e0)) (fun _ h_ => h_.1))) : p := h
theorem zb_7 {p : Prop} (h : p := by (with_reducible repeat (first | apply Kd.S_alloc | apply Kd.S_drewN | apply Kd.S_drew)); exact (Kd.S_mono (Kd.S_far (p := ⟨a5, 1, none⟩) (Kd.S_far (p := ⟨a5, 0, none⟩) (Kd.S_types a2.out a1.out (by decide)) (fun _ hk => hk.2) (.slice e9 a4.length e1)) (fun _ hk => hk.2) (.slice f0 a6.length e2)) (fun _ h_ => h_.1))) : p := h
theorem zb_6 {p : Prop} (h : p := by (with_reducible repeat (first | apply Kd.S_alloc | apply Kd.S_drewN | apply Kd.S_drew)); exact (Kd.S_mono (Kd.S_far (p := ⟨a5, 1, none⟩) (Kd.S_far (p := ⟨a5, 0, none⟩) (Kd.S_types a2.out a1.out (by decide)) (fun _ hk => hk.2) (.slice f1 a4.length b1)) (fun _ hk => hk.2) (.slice b3 a6.length b2)) (fun _ h_ => h_.1))) : p := h
theorem zb_5 {p : Prop} (h : p := by (with_reducible repeat (first | apply Kd.S_alloc | apply Kd.S_drewN | apply Kd.S_drew)); exact (Kd.S_mono (Kd.S_far (p := ⟨a5, 1, none⟩) (Kd.S_far (p := ⟨a5, 0, none⟩) (Kd.S_types a2.out a1.out (by decide)) (fun _ hk => hk.2) (.slice f2 a4.length b4)) (fun _ hk => hk.2) (.slice d2 a6.length b5)) (fun _ h_ => h_.1))) : p := h
theorem zb_4 {p : Prop} (h : p := by (with_reducible repeat (first | apply Kd.S_alloc | apply Kd.S_drewN | apply Kd.S_drew)); exact (Kd.S_mono (Kd.S_far (p := ⟨a5, 1, none⟩) (Kd.S_far (p := ⟨a5, 0, none⟩) (Kd.S_types a2.out a1.out (by decide)) (fun _ hk => hk.2) (.slice d3 a4.length b6)) (fun _ hk => hk.2) (.slice d4 a6.length b7)) (fun _ h_ => h_.1))) : p := h
theorem zb_3 {p : Prop} (h : p := by (with_reducible repeat (first | apply Kd.S_alloc | apply Kd.S_drewN | apply Kd.S_drew)); exact (Kd.S_mono (Kd.S_far (p := ⟨a5, 1, none⟩) (Kd.S_far (p := ⟨a5, 0, none⟩) (Kd.S_types a2.out a1.out (by decide)) (fun _ hk => hk.2) (.slice f3 a4.length e3)) (fun _ hk => hk.2) (.slice f4 a6.length e4)) (fun _ h_ => h_.1))) : p := h
theorem zb_2 {p : Prop} (h : p := by first | rfl | (simp [errW_none, errW_some] <;> rfl) | (simp [*, errW_none, errW_some] <;> rfl)) : p := h
theorem zb_1 {p : Prop} (h : p := by repeat (first | (with_reducible first | exact HB.out | apply below_alloc | apply pw_below_drewN | apply below_drew1) | exact HB.out)) : p := h
theorem zb_0 {p : Prop} (h : p := by repeat (first | (with_reducible first | exact HB.out | apply below_alloc | apply pw_below_drewN | apply below_drew1 | refine below_set ?_ d7.out) | exact HB.out)) : p := h
set_option maxHeartbeats 8000000 in
set_option maxRecDepth 100000 in
theorem laws_FnAndOf.calls (k : Nat) (A0 : Option Addr) (c0 : Nat) (l0 : List Int) (r : Bool) (w : World) (hr0 : Kd.C (Kd.int .u8) w A0 l0.length l0) (hc0 : l0.length ≤ c0) (h : laws_FnAndOf.f k l0 = some r) :
 Calls Try.prog 6 #[.slice A0 l0.length c0] w fun e w' => e = .returned (.bool r) ∧ Below w.heap.size w w' := by
 have hu26 := Try.underlying26
 have HR0 := ak hr0
 have g6 := ak hc0
 clear hr0 hc0
 have HB := ak (Below.refl w.heap.size w)
 have H : (if (l0.length : Int) > 1048576 then (some true) else ((spec_DrawAndOf.f k l0).bind fun a9 => ((impl_AndOf.f a9.1 a9.2.1 a9.2.2.1 a9.2.2.2).bind fun b0 => ((spec_AndOf.f k a9.1 a9.2.1 a9.2.2.1 a9.2.2.2).bind fun e5 => (if b0 = e5 then (if b0 < 0 then (if b0 = (-1) then ((laws_alive.f k).bind fun g3 => (some g3)) else (some false)) else ((impl_NotOf.f a9.1 a9.2.1 b0).bind fun f7 => ((impl_NotOf.f a9.1 a9.2.1 a9.2.2.1).bind fun d5 => ((impl_NotOf.f a9.1 a9.2.1 a9.2.2.2).bind fun d6 => ((impl_OrOf.f a9.1 a9.2.1 d5 d6).bind fun f8 => (if f7 = f8 then (if 0 ≤ a9.2.2.1 then (if a9.2.2.1 < (a9.1.length : Int) then (if 0 ≤ a9.2.2.2 then (if a9.2.2.2 < ((rd_L1 a9.1 a9.2.2.1).length : Int) then (if ((b0 == a9.2.2.1) == ((rd (rd_L1 a9.1 a9.2.2.1) a9.2.2.2) == 1)) = true then ((impl_AndOf.f a9.1 a9.2.1 a9.2.2.2 a9.2.2.1).bind fun g4 => (some (g4 == b0))) else (some false)) else (none)) else (none)) else (none)) else (none)) else (some false))))))) else (some false)))))) = some r := h
 clear h
 replace H := op_ H
 rcases H with ⟨c2, H⟩ | ⟨c2, H⟩
 ·
  have h3 : decide (1048576 < (l0.length : Int)) = true := dT_ c2
  have h4 : decide (1048576 < l0.length) = true := dT_ (by omega)
  clear c2
  obtain rfl := Option.some.inj H
  go_enter Try.func6, Try.ntmps6
  go_wp2
  go_ret
  exact ⟨zb_2, zb_1⟩
 have h3 : decide (1048576 < (l0.length : Int)) = false := dF_ c2
 have h4 : decide (1048576 < l0.length) = false := dF_ (by omega)
 clear c2
 replace H := bd_ H
 obtain ⟨⟨a4, a6, a7, a8⟩, A3, H⟩ := H
 try dsimp only at H
 replace H := bd_ H
 obtain ⟨b0, A4, H⟩ := H
 replace H := bd_ H
 obtain ⟨e5, A5, H⟩ := H
 try dsimp only at H
 replace H := oe2 H
 rcases H with ⟨⟨-, h5, h6⟩, H⟩ | ⟨⟨c6, h5, h6⟩, H⟩
 ·
  replace H := os_ H
  rcases H with ⟨h7, H⟩ | ⟨h7, H⟩
  ·
   replace H := oe2 H
   rcases H with ⟨⟨-, h8, h9⟩, H⟩ | ⟨⟨c8, h8, h9⟩, H⟩
   ·
    replace H := bd_ H
    obtain ⟨g3, A9, H⟩ := H
    try dsimp only at H
    obtain rfl := Option.some.inj H
    go_enter Try.func6, Try.ntmps6
    go_wp2_with (first | ((with_reducible refine gate_callee (f := 26) rfl ?_); refine gl_ (some 12) Try.func26 #[.slice A0 l0.length c0] ?_; (with_reducible refine (spec_DrawAndOf.calls k _ _ l0 a4 a6 a7 a8 _ (y4 HR0.out) g6.out A3.out).mono ?_); rintro e w' ⟨f9, g0, rfl, ho0, ho1, hb⟩; refine ⟨_, rfl, ?_⟩; have a2 := ak (Kd.S_lower ho0 (below_size zb_1)); have a3 := ak (Kd.Q_lower ho1 (below_size zb_1)); replace HB := ak (below_step zb_1 hb); (try clear hb); (try clear hb2); (try clear hk); (try clear hi); (try clear ho0); (try clear ho1)) | ((with_reducible refine gate_dst (N := 3) rfl ?_); refine bx_ (N := 3) (cs := #[.slice none 0 0, .slice none 0 0]) (t := 26) ?_; intro a5 hg k6 hbox hb; replace a2 := ak (Kd.S_below (xS a2.out) hb); replace a3 := ak (Kd.Q_below (xQ a3.out) hb); have a1 := ak (hbox); have e6 := ak ((by rw [hg]; exact (below_size zb_1) : w.heap.size ≤ a5)); have d7 := ak ((by rw [hg]; exact (below_size zb_1) : w.heap.size ≤ a5)); replace HB := ak (below_step zb_1 hb); clear hb hbox hg; obtain ⟨e7, d9, i0⟩ := Kd.S_slice a2.out; subst i0; have b8 := cz20 a1.out; have b9 := cz21 a1.out; have d0 := blk_frozen a1.out 0; have d1 := blk_frozen a1.out 1; obtain ⟨e8, e0, i1, _⟩ := Kd.Q_slice a3.out; subst i1) | ((with_reducible refine gate_callee (f := 27) rfl ?_); refine gl_ (some 19) Try.func27 #[.agg #[.slice e7 a4.length d9, .slice e8 a6.length e0], .int .i64 a7, .int .i64 a8] ?_; (with_reducible refine (impl_AndOf.calls _ _ a4 _ _ a6 a7 a8 b0 _ (by refine (Kd.S_reads' (e := 24) (base := w.heap.size) (ok := fun k_ => some k_ ≠ (.slice e8 a6.length e0 : Value).ownBlock) (n := a4.length) (c := d9) ?_).2.2; exact zb_8) (y2 a2.out) (by refine (Kd.Q_reads' (e := 3) (base := w.heap.size) (ok := fun k_ => True) (n := a6.length) (c := e0) ?_).2.2; exact zb_14) (y2 a3.out) A4.out).mono ?_); rintro e w' ⟨rfl, hb⟩; refine ⟨_, rfl, ?_⟩; replace a2 := ak (Kd.S_below zb_8 hb); replace a3 := ak (Kd.Q_below zb_14 hb); replace a1 := ak (blk_below (g := a5) (o := .cells #[.slice e7 a4.length d9, .slice e8 a6.length e0] 26 (0, 0)) (by (with_reducible repeat (first | refine blk_drewN ?_ _ | refine blk_drew ?_ | refine blk_alloc ?_ _)); refine blk_put (cs := #[.slice e7 a4.length d9, .slice none 0 0]) ?_ 1 _ rfl; (with_reducible repeat (first | refine blk_drewN ?_ _ | refine blk_drew ?_ | refine blk_alloc ?_ _)); refine blk_put (cs := #[.slice none 0 0, .slice none 0 0]) ?_ 0 _ rfl; (with_reducible repeat (first | refine blk_drewN ?_ _ | refine blk_drew ?_ | refine blk_alloc ?_ _)); exact a1.out) hb); replace HB := ak (below_step zb_0 hb); (try clear hb); (try clear hb2); (try clear hk); (try clear hi); have b8 := cz20 a1.out; have b9 := cz21 a1.out; have d0 := blk_frozen a1.out 0; have d1 := blk_frozen a1.out 1) | ((first | ((with_reducible refine gate_callee (f := 28) rfl ?_); refine gl_ (some 24) Try.func28 #[.agg #[.slice e7 a4.length d9, .slice e8 a6.length e0], .int .i64 a7, .int .i64 a8] ?_; (with_reducible refine (spec_AndOf.calls k _ _ a4 _ _ a6 a7 a8 e5 _ (y1 a2.out) (y2 a2.out) (y1 a3.out) (y2 a3.out) A5.out).mono ?_); rintro e w' ⟨rfl, hb⟩; refine ⟨_, rfl, ?_⟩) | (go_at_call 17; (with_reducible refine (laws_alive.calls k  g3 _ A9.out).mono ?_); rintro e w' ⟨rfl, hb⟩)); replace a2 := ak (Kd.S_below (xS a2.out) hb); replace a3 := ak (Kd.Q_below (xQ a3.out) hb); replace a1 := ak (blk_below (g := a5) (o := .cells #[.slice e7 a4.length d9, .slice e8 a6.length e0] 26 (0, 0)) (xb a1.out) hb); replace HB := ak (below_step zb_0 hb); (try clear hb); (try clear hb2); (try clear hk); (try clear hi)))
    go_ret
    exact ⟨zb_2, zb_0⟩
   obtain rfl := Option.some.inj H
   go_enter Try.func6, Try.ntmps6
   go_wp2_with (first | ((with_reducible refine gate_callee (f := 26) rfl ?_); refine gl_ (some 12) Try.func26 #[.slice A0 l0.length c0] ?_; (with_reducible refine (spec_DrawAndOf.calls k _ _ l0 a4 a6 a7 a8 _ (y4 HR0.out) g6.out A3.out).mono ?_); rintro e w' ⟨f9, g0, rfl, ho0, ho1, hb⟩; refine ⟨_, rfl, ?_⟩; have a2 := ak (Kd.S_lower ho0 (below_size zb_1)); have a3 := ak (Kd.Q_lower ho1 (below_size zb_1)); replace HB := ak (below_step zb_1 hb); (try clear hb); (try clear hb2); (try clear hk); (try clear hi); (try clear ho0); (try clear ho1)) | ((with_reducible refine gate_dst (N := 3) rfl ?_); refine bx_ (N := 3) (cs := #[.slice none 0 0, .slice none 0 0]) (t := 26) ?_; intro a5 hg k7 hbox hb; replace a2 := ak (Kd.S_below (xS a2.out) hb); replace a3 := ak (Kd.Q_below (xQ a3.out) hb); have a1 := ak (hbox); have e6 := ak ((by rw [hg]; exact (below_size zb_1) : w.heap.size ≤ a5)); have d7 := ak ((by rw [hg]; exact (below_size zb_1) : w.heap.size ≤ a5)); replace HB := ak (below_step zb_1 hb); clear hb hbox hg; obtain ⟨e9, e1, i2⟩ := Kd.S_slice a2.out; subst i2; have b8 := cz20 a1.out; have b9 := cz21 a1.out; have d0 := blk_frozen a1.out 0; have d1 := blk_frozen a1.out 1; obtain ⟨f0, e2, i3, _⟩ := Kd.Q_slice a3.out; subst i3) | ((with_reducible refine gate_callee (f := 27) rfl ?_); refine gl_ (some 19) Try.func27 #[.agg #[.slice e9 a4.length e1, .slice f0 a6.length e2], .int .i64 a7, .int .i64 a8] ?_; (with_reducible refine (impl_AndOf.calls _ _ a4 _ _ a6 a7 a8 b0 _ (by refine (Kd.S_reads' (e := 24) (base := w.heap.size) (ok := fun k_ => some k_ ≠ (.slice f0 a6.length e2 : Value).ownBlock) (n := a4.length) (c := e1) ?_).2.2; exact zb_7) (y2 a2.out) (by refine (Kd.Q_reads' (e := 3) (base := w.heap.size) (ok := fun k_ => True) (n := a6.length) (c := e2) ?_).2.2; exact zb_13) (y2 a3.out) A4.out).mono ?_); rintro e w' ⟨rfl, hb⟩; refine ⟨_, rfl, ?_⟩; replace a2 := ak (Kd.S_below zb_7 hb); replace a3 := ak (Kd.Q_below zb_13 hb); replace a1 := ak (blk_below (g := a5) (o := .cells #[.slice e9 a4.length e1, .slice f0 a6.length e2] 26 (0, 0)) (by (with_reducible repeat (first | refine blk_drewN ?_ _ | refine blk_drew ?_ | refine blk_alloc ?_ _)); refine blk_put (cs := #[.slice e9 a4.length e1, .slice none 0 0]) ?_ 1 _ rfl; (with_reducible repeat (first | refine blk_drewN ?_ _ | refine blk_drew ?_ | refine blk_alloc ?_ _)); refine blk_put (cs := #[.slice none 0 0, .slice none 0 0]) ?_ 0 _ rfl; (with_reducible repeat (first | refine blk_drewN ?_ _ | refine blk_drew ?_ | refine blk_alloc ?_ _)); exact a1.out) hb); replace HB := ak (below_step zb_0 hb); (try clear hb); (try clear hb2); (try clear hk); (try clear hi); have b8 := cz20 a1.out; have b9 := cz21 a1.out; have d0 := blk_frozen a1.out 0; have d1 := blk_frozen a1.out 1) | ((with_reducible refine gate_callee (f := 28) rfl ?_); refine gl_ (some 24) Try.func28 #[.agg #[.slice e9 a4.length e1, .slice f0 a6.length e2], .int .i64 a7, .int .i64 a8] ?_; (with_reducible refine (spec_AndOf.calls k _ _ a4 _ _ a6 a7 a8 e5 _ (y1 a2.out) (y2 a2.out) (y1 a3.out) (y2 a3.out) A5.out).mono ?_); rintro e w' ⟨rfl, hb⟩; refine ⟨_, rfl, ?_⟩; replace a2 := ak (Kd.S_below (xS a2.out) hb); replace a3 := ak (Kd.Q_below (xQ a3.out) hb); replace a1 := ak (blk_below (g := a5) (o := .cells #[.slice e9 a4.length e1, .slice f0 a6.length e2] 26 (0, 0)) (xb a1.out) hb); replace HB := ak (below_step zb_0 hb); (try clear hb); (try clear hb2); (try clear hk); (try clear hi)))
   go_ret
   exact ⟨zb_2, zb_0⟩
  replace H := bd_ H
  obtain ⟨f7, i4, H⟩ := H
  replace H := bd_ H
  obtain ⟨d5, i5, H⟩ := H
  replace H := bd_ H
  obtain ⟨d6, i6, H⟩ := H
  replace H := bd_ H
  obtain ⟨f8, i7, H⟩ := H
  try dsimp only at H
  replace H := oe2 H
  rcases H with ⟨⟨-, g7, g8⟩, H⟩ | ⟨⟨k8, g7, g8⟩, H⟩
  ·
   replace H := od4 H
   obtain ⟨j7, j8, j9, k0, H⟩ := H
   replace H := op_ H
   rcases H with ⟨g1, H⟩ | ⟨g1, H⟩
   ·
    have g9 : ((b0 == a7) == ((rd (rd_L1 a4 a7) a8) == 1)) = true := g1
    (try (have h0 : decide ((b0 == a7) = ((rd (rd_L1 a4 a7) a8) == 1)) = true := by simpa using g1))
    (try (have h2 : ((b0 == a7) == ((rd (rd_L1 a4 a7) a8) == 1)) = true := by simpa using g1))
    clear g1
    replace H := bd_ H
    obtain ⟨g4, k2, H⟩ := H
    try dsimp only at H
    obtain rfl := Option.some.inj H
    go_enter Try.func6, Try.ntmps6
    try go_wp2_with (first | ((with_reducible refine gate_callee (f := 26) rfl ?_); refine gl_ (some 12) Try.func26 #[.slice A0 l0.length c0] ?_; (with_reducible refine (spec_DrawAndOf.calls k _ _ l0 a4 a6 a7 a8 _ (y4 HR0.out) g6.out A3.out).mono ?_); rintro e w' ⟨f9, g0, rfl, ho0, ho1, hb⟩; refine ⟨_, rfl, ?_⟩; have a2 := ak (Kd.S_lower ho0 (below_size zb_1)); have a3 := ak (Kd.Q_lower ho1 (below_size zb_1)); replace HB := ak (below_step zb_1 hb); (try clear hb); (try clear hb2); (try clear hk); (try clear hi); (try clear ho0); (try clear ho1)) | ((with_reducible refine gate_dst (N := 3) rfl ?_); refine bx_ (N := 3) (cs := #[.slice none 0 0, .slice none 0 0]) (t := 26) ?_; intro a5 hg k9 hbox hb; replace a2 := ak (Kd.S_below (xS a2.out) hb); replace a3 := ak (Kd.Q_below (xQ a3.out) hb); have a1 := ak (hbox); have e6 := ak ((by rw [hg]; exact (below_size zb_1) : w.heap.size ≤ a5)); have d7 := ak ((by rw [hg]; exact (below_size zb_1) : w.heap.size ≤ a5)); replace HB := ak (below_step zb_1 hb); clear hb hbox hg; obtain ⟨f1, b1, i8⟩ := Kd.S_slice a2.out; subst i8; have b8 := cz20 a1.out; have b9 := cz21 a1.out; have d0 := blk_frozen a1.out 0; have d1 := blk_frozen a1.out 1; obtain ⟨b3, b2, i9, _⟩ := Kd.Q_slice a3.out; subst i9) | ((with_reducible refine gate_callee (f := 27) rfl ?_); refine gl_ (some 19) Try.func27 #[.agg #[.slice f1 a4.length b1, .slice b3 a6.length b2], .int .i64 a7, .int .i64 a8] ?_; (with_reducible refine (impl_AndOf.calls _ _ a4 _ _ a6 a7 a8 b0 _ (by refine (Kd.S_reads' (e := 24) (base := w.heap.size) (ok := fun k_ => some k_ ≠ (.slice b3 a6.length b2 : Value).ownBlock) (n := a4.length) (c := b1) ?_).2.2; exact zb_6) (y2 a2.out) (by refine (Kd.Q_reads' (e := 3) (base := w.heap.size) (ok := fun k_ => True) (n := a6.length) (c := b2) ?_).2.2; exact zb_12) (y2 a3.out) A4.out).mono ?_); rintro e w' ⟨rfl, hb⟩; refine ⟨_, rfl, ?_⟩; replace a2 := ak (Kd.S_below zb_6 hb); replace a3 := ak (Kd.Q_below zb_12 hb); replace a1 := ak (blk_below (g := a5) (o := .cells #[.slice f1 a4.length b1, .slice b3 a6.length b2] 26 (0, 0)) (by (with_reducible repeat (first | refine blk_drewN ?_ _ | refine blk_drew ?_ | refine blk_alloc ?_ _)); refine blk_put (cs := #[.slice f1 a4.length b1, .slice none 0 0]) ?_ 1 _ rfl; (with_reducible repeat (first | refine blk_drewN ?_ _ | refine blk_drew ?_ | refine blk_alloc ?_ _)); refine blk_put (cs := #[.slice none 0 0, .slice none 0 0]) ?_ 0 _ rfl; (with_reducible repeat (first | refine blk_drewN ?_ _ | refine blk_drew ?_ | refine blk_alloc ?_ _)); exact a1.out) hb); replace HB := ak (below_step zb_0 hb); (try clear hb); (try clear hb2); (try clear hk); (try clear hi); have b8 := cz20 a1.out; have b9 := cz21 a1.out; have d0 := blk_frozen a1.out 0; have d1 := blk_frozen a1.out 1) | ((with_reducible refine gate_callee (f := 28) rfl ?_); refine gl_ (some 24) Try.func28 #[.agg #[.slice f1 a4.length b1, .slice b3 a6.length b2], .int .i64 a7, .int .i64 a8] ?_; (with_reducible refine (spec_AndOf.calls k _ _ a4 _ _ a6 a7 a8 e5 _ (y1 a2.out) (y2 a2.out) (y1 a3.out) (y2 a3.out) A5.out).mono ?_); rintro e k3 ⟨rfl, hb⟩; refine ⟨_, rfl, ?_⟩; replace a2 := ak (Kd.S_below (xS a2.out) hb); replace a3 := ak (Kd.Q_below (xQ a3.out) hb); replace a1 := ak (blk_below (g := a5) (o := .cells #[.slice f1 a4.length b1, .slice b3 a6.length b2] 26 (0, 0)) (xb a1.out) hb); replace HB := ak (below_step zb_0 hb); (try clear hb); (try clear hb2); (try clear hk); (try clear hi)))
    replace a2 := ak (Kd.S_drew a2.out)
    replace a3 := ak (Kd.Q_drew a3.out)
    replace a1 := ak (blk_drew a1.out)
    replace HB := ak (below_drew1 HB.out)
    have d8 : 0 ≤ (a7 : Int) := oa_
    have q664 : a7 < (a4.length : Int) := oa_
    obtain ⟨ad664, g5, f5, e664, hx664_0, hl664_0, hi664_0⟩ := at_L1 (Kd.S_reads' a2.out).2.2 a7 d8 q664
    cases e664
    obtain ⟨ce664, hce664, hMe664, hcc664⟩ := Kd.S_get a2.out [] a7 d8 (by first | exact q664 | exact oa_ | (have e_ := (Kd.S_reads' a2.out).1; omega))
    obtain ⟨ve664_0, rfl, ge664_0⟩ := hMe664
    have hv664_0 := hcc664 0 _ rfl
    rw [Nat.add_zero, show ((Kd.slice 3 (Kd.int .i64))).sz = 1 from rfl, Nat.mul_one] at hv664_0
    replace hv664_0 := Option.some.inj (hv664_0.symm.trans hx664_0)
    rw [hv664_0] at ge664_0
    have HL664_0 := ak (show Kd.R (Kd.int .i64) 3 _ _ _ _ (rd_L1 a4 a7) from ge664_0)
    clear hv664_0 ge664_0 hcc664 hce664
    have HR664_0 := ak hi664_0
    have g2 := ak hl664_0
    clear hi664_0 hl664_0
    replace d8 := eq_true d8
    replace q664 := eq_true q664
    obtain ⟨ad665, e665, hx665_0, j0, q665⟩ := ai_ zb_15 a8
    cases e665
    refine start_ (n := 36) (S := fun w' => w'.cell? ⟨a5, 0, none⟩ = some (.slice (some ad664) a4.length b1) ∧ w'.cell? ⟨a5, 1, none⟩ = some (.slice b3 a6.length b2) ∧ w'.cell? (ad664.add (a7).toNat) = some (.slice (some ad665) (rd_L1 a4 a7).length f5) ∧ w'.cell? (ad665.add (a8).toNat) = some (.int .i64 (rd (rd_L1 a4 a7) a8))) (ds := []) (bA 36 0) zb_16 rfl rfl ⟨(blk_cell a1.out 0).trans rfl, (blk_cell a1.out 1).trans rfl, hx664_0, hx665_0⟩ (fun hHeld => ?_); refine with_tabW laws_FnAndOf.tab9 laws_FnAndOf.bits9 (fun HT_ HW_ => ?_)
    generalize k3.drew = l1 at a2 a3 a1 HB HL664_0 HR664_0 hx664_0 hHeld ⊢
    refine pu_ (i := 1) (N := some 34) (bA 36 2) ?_
    refine pu_ (i := 5) (N := some 38) (bA 36 34) ?_
    refine pu_ (i := 8) (N := some 41) (bA 36 290) ?_
    refine tk_ (i := 0) (N := some 33) (bA 36 291) ?_
    refine tk_ (i := 3) (N := some 36) (bA 36 299) ?_
    refine tk_ (i := 4) (N := some 37) (bA 36 315) ?_
    refine tk_ (i := 7) (N := some 40) (bA 36 443) ?_
    refine one_ (i := 2) (N := some 35) (bA 36 447) rfl rfl (one_of HT_.out zb_16) (by decide) (fun K hK => ?_)
    refine ge_ Try.func29 #[.agg #[.slice (some ad664) a4.length b1, .slice b3 a6.length b2], .int .i64 b0] ?_
    with_reducible refine (impl_NotOf.calls _ _ a4 _ _ a6 b0 f7 _ ?side1 ?side2 ?side3 ?side4 i4.out).mono ?_
    (case side1 => repeat (first | exact (Kd.S_reads' a2.out).2.2 | (with_reducible refine Kd.C_alloc ?_ _) | (with_reducible refine Kd.C_drewN ?_ _) | (with_reducible refine Kd.C_drew ?_)))
    (case side2 => exact (Kd.S_reads' a2.out).2.1)
    (case side3 => repeat (first | exact (Kd.Q_reads' a3.out).2.2 | (with_reducible refine Kd.C_alloc ?_ _) | (with_reducible refine Kd.C_drewN ?_ _) | (with_reducible refine Kd.C_drew ?_)))
    (case side4 => exact (Kd.Q_reads' a3.out).2.1)
    rintro e w' ⟨rfl, hb⟩
    have HS2_ := (hb.cell (World.block_lt_of_cell? _ _ (hHeld.2.2.1))).trans (hHeld.2.2.1)
    have HS3_ := (hb.cell (World.block_lt_of_cell? _ _ (hHeld.2.2.2))).trans (hHeld.2.2.2)
    refine ⟨_, rfl, ?_⟩
    replace a2 := ak (Kd.S_below (xS a2.out) hb)
    replace a3 := ak (Kd.Q_below (xQ a3.out) hb)
    replace a1 := ak (blk_below (g := a5) (o := .cells #[.slice (some ad664) a4.length b1, .slice b3 a6.length b2] 26 (0, 0)) (xb a1.out) hb)
    replace HB := ak (below_step zb_0 hb)
    (try clear hb)
    (try clear hb2)
    (try clear hk)
    (try clear hi)
    refine hK.out _ _ ⟨(blk_cell a1.out 0).trans rfl, (blk_cell a1.out 1).trans rfl, HS2_, HS3_⟩ (fun hHeld => ?_)
    clear hK K
    refine no_ (N := some 35) ?_
    refine one_ (i := 6) (N := some 39) (bA 36 511) rfl rfl (one_of HT_.out zb_16) (by decide) (fun K hK => ?_)
    refine ge_ Try.func29 #[.agg #[.slice (some ad664) a4.length b1, .slice b3 a6.length b2], .int .i64 a7] ?_
    with_reducible refine (impl_NotOf.calls _ _ a4 _ _ a6 a7 d5 _ ?side1 ?side2 ?side3 ?side4 i5.out).mono ?_
    (case side1 => repeat (first | exact (Kd.S_reads' a2.out).2.2 | (with_reducible refine Kd.C_alloc ?_ _) | (with_reducible refine Kd.C_drewN ?_ _) | (with_reducible refine Kd.C_drew ?_)))
    (case side2 => exact (Kd.S_reads' a2.out).2.1)
    (case side3 => repeat (first | exact (Kd.Q_reads' a3.out).2.2 | (with_reducible refine Kd.C_alloc ?_ _) | (with_reducible refine Kd.C_drewN ?_ _) | (with_reducible refine Kd.C_drew ?_)))
    (case side4 => exact (Kd.Q_reads' a3.out).2.1)
    rintro e w' ⟨rfl, hb⟩
    have HS2_ := (hb.cell (World.block_lt_of_cell? _ _ (hHeld.2.2.1))).trans (hHeld.2.2.1)
    have HS3_ := (hb.cell (World.block_lt_of_cell? _ _ (hHeld.2.2.2))).trans (hHeld.2.2.2)
    refine ⟨_, rfl, ?_⟩
    replace a2 := ak (Kd.S_below (xS a2.out) hb)
    replace a3 := ak (Kd.Q_below (xQ a3.out) hb)
    replace a1 := ak (blk_below (g := a5) (o := .cells #[.slice (some ad664) a4.length b1, .slice b3 a6.length b2] 26 (0, 0)) (xb a1.out) hb)
    replace HB := ak (below_step zb_0 hb)
    (try clear hb)
    (try clear hb2)
    (try clear hk)
    (try clear hi)
    refine hK.out _ _ ⟨(blk_cell a1.out 0).trans rfl, (blk_cell a1.out 1).trans rfl, HS2_, HS3_⟩ (fun hHeld => ?_)
    clear hK K
    refine no_ (N := some 39) ?_
    refine one_ (i := 9) (N := some 42) (bA 36 1023) rfl rfl (one_of HT_.out zb_16) (by decide) (fun K hK => ?_)
    refine ge_ Try.func29 #[.agg #[.slice (some ad664) a4.length b1, .slice b3 a6.length b2], .int .i64 a8] ?_
    with_reducible refine (impl_NotOf.calls _ _ a4 _ _ a6 a8 d6 _ ?side1 ?side2 ?side3 ?side4 i6.out).mono ?_
    (case side1 => repeat (first | exact (Kd.S_reads' a2.out).2.2 | (with_reducible refine Kd.C_alloc ?_ _) | (with_reducible refine Kd.C_drewN ?_ _) | (with_reducible refine Kd.C_drew ?_)))
    (case side2 => exact (Kd.S_reads' a2.out).2.1)
    (case side3 => repeat (first | exact (Kd.Q_reads' a3.out).2.2 | (with_reducible refine Kd.C_alloc ?_ _) | (with_reducible refine Kd.C_drewN ?_ _) | (with_reducible refine Kd.C_drew ?_)))
    (case side4 => exact (Kd.Q_reads' a3.out).2.1)
    rintro e w' ⟨rfl, hb⟩
    have HS2_ := (hb.cell (World.block_lt_of_cell? _ _ (hHeld.2.2.1))).trans (hHeld.2.2.1)
    have HS3_ := (hb.cell (World.block_lt_of_cell? _ _ (hHeld.2.2.2))).trans (hHeld.2.2.2)
    refine ⟨_, rfl, ?_⟩
    replace a2 := ak (Kd.S_below (xS a2.out) hb)
    replace a3 := ak (Kd.Q_below (xQ a3.out) hb)
    replace a1 := ak (blk_below (g := a5) (o := .cells #[.slice (some ad664) a4.length b1, .slice b3 a6.length b2] 26 (0, 0)) (xb a1.out) hb)
    replace HB := ak (below_step zb_0 hb)
    (try clear hb)
    (try clear hb2)
    (try clear hk)
    (try clear hi)
    refine hK.out _ _ ⟨(blk_cell a1.out 0).trans rfl, (blk_cell a1.out 1).trans rfl, HS2_, HS3_⟩ (fun hHeld => ?_)
    clear hK K
    refine no_ (N := some 42) ?_
    refine one_ (i := 10) (N := some 43) (bA 36 2047) rfl rfl (one_of HT_.out zb_16) (by decide) (fun K hK => ?_)
    refine ge_ Try.func30 #[.agg #[.slice (some ad664) a4.length b1, .slice b3 a6.length b2], .int .i64 d5, .int .i64 d6] ?_
    with_reducible refine (impl_OrOf.calls _ _ a4 _ _ a6 d5 d6 f8 _ ?side1 ?side2 ?side3 ?side4 i7.out).mono ?_
    (case side1 => repeat (first | exact (Kd.S_reads' a2.out).2.2 | (with_reducible refine Kd.C_alloc ?_ _) | (with_reducible refine Kd.C_drewN ?_ _) | (with_reducible refine Kd.C_drew ?_)))
    (case side2 => exact (Kd.S_reads' a2.out).2.1)
    (case side3 => repeat (first | exact (Kd.Q_reads' a3.out).2.2 | (with_reducible refine Kd.C_alloc ?_ _) | (with_reducible refine Kd.C_drewN ?_ _) | (with_reducible refine Kd.C_drew ?_)))
    (case side4 => exact (Kd.Q_reads' a3.out).2.1)
    rintro e w' ⟨rfl, hb⟩
    have HS2_ := (hb.cell (World.block_lt_of_cell? _ _ (hHeld.2.2.1))).trans (hHeld.2.2.1)
    have HS3_ := (hb.cell (World.block_lt_of_cell? _ _ (hHeld.2.2.2))).trans (hHeld.2.2.2)
    refine ⟨_, rfl, ?_⟩
    replace a2 := ak (Kd.S_below (xS a2.out) hb)
    replace a3 := ak (Kd.Q_below (xQ a3.out) hb)
    replace a1 := ak (blk_below (g := a5) (o := .cells #[.slice (some ad664) a4.length b1, .slice b3 a6.length b2] 26 (0, 0)) (xb a1.out) hb)
    replace HB := ak (below_step zb_0 hb)
    (try clear hb)
    (try clear hb2)
    (try clear hk)
    (try clear hi)
    refine hK.out _ _ ⟨(blk_cell a1.out 0).trans rfl, (blk_cell a1.out 1).trans rfl, HS2_, HS3_⟩ (fun hHeld => ?_)
    clear hK K
    refine no_ (N := some 43) ?_
    refine pu_ (i := 11) (N := some 44) (bA 36 4095) ?_
    refine pu_ (i := 12) (N := some 45) (bA 36 8191) ?_
    refine pu_ (i := 13) (N := some 46) (bA 36 16383) ?_
    refine pu_ (i := 14) (N := some 47) (bA 36 32767) ?_
    refine pu_ (i := 15) (N := some 48) (bA 36 65535) ?_
    refine pu_ (i := 16) (N := some 49) (bA 36 131071) ?_
    refine pu_ (i := 18) (N := some 51) (bA 36 393215) ?_
    refine pu_ (i := 21) (N := some 54) (bA 36 2490367) ?_
    refine tk_ (i := 17) (N := some 50) (bA 36 2621439) ?_
    refine pu_ (i := 19) (N := some 52) (bA 36 3145727) ?_
    refine tk_ (i := 20) (N := some 53) (bA 36 4194303) ?_
    refine pu_ (i := 22) (N := some 55) (bA 36 8388607) ?_
    refine tk_ (i := 23) (N := some 56) (bA 36 16777215) ?_
    refine pu_ (i := 24) (N := some 57) (bA 36 33554431) ?_
    refine pu_ (i := 25) (N := some 58) (bA 36 67108863) ?_
    refine pu_ (i := 26) (N := some 59) (bA 36 134217727) ?_
    refine pu_ (i := 27) (N := some 60) (bA 36 268435455) ?_
    refine pu_ (i := 29) (N := some 62) (bA 36 805306367) ?_
    refine pu_ (i := 30) (N := some 63) (bA 36 1879048191) ?_
    refine pu_ (i := 32) (N := some 65) (bA 36 6174015487) ?_
    refine tk_ (i := 28) (N := some 61) (bA 36 6442450943) ?_
    refine one_ (i := 31) (N := some 64) (bA 36 8589934591) rfl rfl (one_of HT_.out zb_16) (by decide) (fun K hK => ?_)
    refine ge_ Try.func27 #[.agg #[.slice (some ad664) a4.length b1, .slice b3 a6.length b2], .int .i64 a8, .int .i64 a7] ?_
    with_reducible refine (impl_AndOf.calls _ _ a4 _ _ a6 a8 a7 g4 _ ?side1 ?side2 ?side3 ?side4 k2.out).mono ?_
    (case side1 => repeat (first | exact (Kd.S_reads' a2.out).2.2 | (with_reducible refine Kd.C_alloc ?_ _) | (with_reducible refine Kd.C_drewN ?_ _) | (with_reducible refine Kd.C_drew ?_)))
    (case side2 => exact (Kd.S_reads' a2.out).2.1)
    (case side3 => repeat (first | exact (Kd.Q_reads' a3.out).2.2 | (with_reducible refine Kd.C_alloc ?_ _) | (with_reducible refine Kd.C_drewN ?_ _) | (with_reducible refine Kd.C_drew ?_)))
    (case side4 => exact (Kd.Q_reads' a3.out).2.1)
    rintro e w' ⟨rfl, hb⟩
    have HS2_ := (hb.cell (World.block_lt_of_cell? _ _ (hHeld.2.2.1))).trans (hHeld.2.2.1)
    have HS3_ := (hb.cell (World.block_lt_of_cell? _ _ (hHeld.2.2.2))).trans (hHeld.2.2.2)
    refine ⟨_, rfl, ?_⟩
    have n0_ := ak (Kd.S_below (xS a2.out) hb)
    have n1_ := ak (Kd.Q_below (xQ a3.out) hb)
    have n3_ := ak (blk_below (g := a5) (o := .cells #[.slice (some ad664) a4.length b1, .slice b3 a6.length b2] 26 (0, 0)) (xb a1.out) hb)
    have n5_ := ak (below_step zb_0 hb)
    clear a2 a3 HL664_0 a1 HR664_0 HB
    have a2 := n0_
    have a3 := n1_
    have a1 := n3_
    have HB := n5_
    clear n0_ n1_ n3_ n5_
    (try clear hb)
    (try clear hb2)
    (try clear hk)
    (try clear hi)
    refine hK.out _ _ ⟨(blk_cell a1.out 0).trans rfl, (blk_cell a1.out 1).trans rfl, HS2_, HS3_⟩ (fun hHeld => ?_)
    clear hK K
    refine no_ (N := some 64) ?_
    refine pu_ (i := 33) (N := some 66) (bA 36 17179869183) ?_
    refine pu_ (i := 34) (N := some 67) (bA 36 34359738367) ?_
    refine pu_ (i := 35) (N := some 2) (bA 36 68719476735) ?_
    refine done_ (done_of HT_.out zb_16) ?_
    try go_wp2
    go_ret
    exact ⟨zb_2, zb_0⟩
   have g9 : ((b0 == a7) == ((rd (rd_L1 a4 a7) a8) == 1)) = false := by simpa using g1
   (try (have h0 : decide ((b0 == a7) = ((rd (rd_L1 a4 a7) a8) == 1)) = false := by simpa using g1))
   (try (have h2 : ((b0 == a7) == ((rd (rd_L1 a4 a7) a8) == 1)) = false := by simpa using g1))
   (try (have k1 : ¬ ((b0 == a7) = ((rd (rd_L1 a4 a7) a8) == 1)) := by simpa using g1))
   clear g1
   obtain rfl := Option.some.inj H
   go_enter Try.func6, Try.ntmps6
   try go_wp2_with (first | ((with_reducible refine gate_callee (f := 26) rfl ?_); refine gl_ (some 12) Try.func26 #[.slice A0 l0.length c0] ?_; (with_reducible refine (spec_DrawAndOf.calls k _ _ l0 a4 a6 a7 a8 _ (y4 HR0.out) g6.out A3.out).mono ?_); rintro e w' ⟨f9, g0, rfl, ho0, ho1, hb⟩; refine ⟨_, rfl, ?_⟩; have a2 := ak (Kd.S_lower ho0 (below_size zb_1)); have a3 := ak (Kd.Q_lower ho1 (below_size zb_1)); replace HB := ak (below_step zb_1 hb); (try clear hb); (try clear hb2); (try clear hk); (try clear hi); (try clear ho0); (try clear ho1)) | ((with_reducible refine gate_dst (N := 3) rfl ?_); refine bx_ (N := 3) (cs := #[.slice none 0 0, .slice none 0 0]) (t := 26) ?_; intro a5 hg l2 hbox hb; replace a2 := ak (Kd.S_below (xS a2.out) hb); replace a3 := ak (Kd.Q_below (xQ a3.out) hb); have a1 := ak (hbox); have e6 := ak ((by rw [hg]; exact (below_size zb_1) : w.heap.size ≤ a5)); have d7 := ak ((by rw [hg]; exact (below_size zb_1) : w.heap.size ≤ a5)); replace HB := ak (below_step zb_1 hb); clear hb hbox hg; obtain ⟨f2, b4, j1⟩ := Kd.S_slice a2.out; subst j1; have b8 := cz20 a1.out; have b9 := cz21 a1.out; have d0 := blk_frozen a1.out 0; have d1 := blk_frozen a1.out 1; obtain ⟨d2, b5, j2, _⟩ := Kd.Q_slice a3.out; subst j2) | ((with_reducible refine gate_callee (f := 27) rfl ?_); refine gl_ (some 19) Try.func27 #[.agg #[.slice f2 a4.length b4, .slice d2 a6.length b5], .int .i64 a7, .int .i64 a8] ?_; (with_reducible refine (impl_AndOf.calls _ _ a4 _ _ a6 a7 a8 b0 _ (by refine (Kd.S_reads' (e := 24) (base := w.heap.size) (ok := fun k_ => some k_ ≠ (.slice d2 a6.length b5 : Value).ownBlock) (n := a4.length) (c := b4) ?_).2.2; exact zb_5) (y2 a2.out) (by refine (Kd.Q_reads' (e := 3) (base := w.heap.size) (ok := fun k_ => True) (n := a6.length) (c := b5) ?_).2.2; exact zb_11) (y2 a3.out) A4.out).mono ?_); rintro e w' ⟨rfl, hb⟩; refine ⟨_, rfl, ?_⟩; replace a2 := ak (Kd.S_below zb_5 hb); replace a3 := ak (Kd.Q_below zb_11 hb); replace a1 := ak (blk_below (g := a5) (o := .cells #[.slice f2 a4.length b4, .slice d2 a6.length b5] 26 (0, 0)) (by (with_reducible repeat (first | refine blk_drewN ?_ _ | refine blk_drew ?_ | refine blk_alloc ?_ _)); refine blk_put (cs := #[.slice f2 a4.length b4, .slice none 0 0]) ?_ 1 _ rfl; (with_reducible repeat (first | refine blk_drewN ?_ _ | refine blk_drew ?_ | refine blk_alloc ?_ _)); refine blk_put (cs := #[.slice none 0 0, .slice none 0 0]) ?_ 0 _ rfl; (with_reducible repeat (first | refine blk_drewN ?_ _ | refine blk_drew ?_ | refine blk_alloc ?_ _)); exact a1.out) hb); replace HB := ak (below_step zb_0 hb); (try clear hb); (try clear hb2); (try clear hk); (try clear hi); have b8 := cz20 a1.out; have b9 := cz21 a1.out; have d0 := blk_frozen a1.out 0; have d1 := blk_frozen a1.out 1) | ((with_reducible refine gate_callee (f := 28) rfl ?_); refine gl_ (some 24) Try.func28 #[.agg #[.slice f2 a4.length b4, .slice d2 a6.length b5], .int .i64 a7, .int .i64 a8] ?_; (with_reducible refine (spec_AndOf.calls k _ _ a4 _ _ a6 a7 a8 e5 _ (y1 a2.out) (y2 a2.out) (y1 a3.out) (y2 a3.out) A5.out).mono ?_); rintro e k4 ⟨rfl, hb⟩; refine ⟨_, rfl, ?_⟩; replace a2 := ak (Kd.S_below (xS a2.out) hb); replace a3 := ak (Kd.Q_below (xQ a3.out) hb); replace a1 := ak (blk_below (g := a5) (o := .cells #[.slice f2 a4.length b4, .slice d2 a6.length b5] 26 (0, 0)) (xb a1.out) hb); replace HB := ak (below_step zb_0 hb); (try clear hb); (try clear hb2); (try clear hk); (try clear hi)))
   replace a2 := ak (Kd.S_drew a2.out)
   replace a3 := ak (Kd.Q_drew a3.out)
   replace a1 := ak (blk_drew a1.out)
   replace HB := ak (below_drew1 HB.out)
   have d8 : 0 ≤ (a7 : Int) := oa_
   have q664 : a7 < (a4.length : Int) := oa_
   obtain ⟨ad664, g5, f5, e664, hx664_0, hl664_0, hi664_0⟩ := at_L1 (Kd.S_reads' a2.out).2.2 a7 d8 q664
   cases e664
   obtain ⟨ce664, hce664, hMe664, hcc664⟩ := Kd.S_get a2.out [] a7 d8 (by first | exact q664 | exact oa_ | (have e_ := (Kd.S_reads' a2.out).1; omega))
   obtain ⟨ve664_0, rfl, ge664_0⟩ := hMe664
   have hv664_0 := hcc664 0 _ rfl
   rw [Nat.add_zero, show ((Kd.slice 3 (Kd.int .i64))).sz = 1 from rfl, Nat.mul_one] at hv664_0
   replace hv664_0 := Option.some.inj (hv664_0.symm.trans hx664_0)
   rw [hv664_0] at ge664_0
   have HL664_0 := ak (show Kd.R (Kd.int .i64) 3 _ _ _ _ (rd_L1 a4 a7) from ge664_0)
   clear hv664_0 ge664_0 hcc664 hce664
   have HR664_0 := ak hi664_0
   have g2 := ak hl664_0
   clear hi664_0 hl664_0
   replace d8 := eq_true d8
   replace q664 := eq_true q664
   obtain ⟨ad665, e665, hx665_0, j0, q665⟩ := ai_ zb_15 a8
   cases e665
   refine start_ (n := 36) (S := fun w' => w'.cell? ⟨a5, 0, none⟩ = some (.slice (some ad664) a4.length b4) ∧ w'.cell? ⟨a5, 1, none⟩ = some (.slice d2 a6.length b5) ∧ w'.cell? (ad664.add (a7).toNat) = some (.slice (some ad665) (rd_L1 a4 a7).length f5) ∧ w'.cell? (ad665.add (a8).toNat) = some (.int .i64 (rd (rd_L1 a4 a7) a8))) (ds := []) (bA 36 0) zb_16 rfl rfl ⟨(blk_cell a1.out 0).trans rfl, (blk_cell a1.out 1).trans rfl, hx664_0, hx665_0⟩ (fun hHeld => ?_); refine with_tabW laws_FnAndOf.tab9 laws_FnAndOf.bits9 (fun HT_ HW_ => ?_)
   generalize k4.drew = l3 at a2 a3 a1 HB HL664_0 HR664_0 hx664_0 hHeld ⊢
   refine pu_ (i := 1) (N := some 34) (bA 36 2) ?_
   refine pu_ (i := 5) (N := some 38) (bA 36 34) ?_
   refine pu_ (i := 8) (N := some 41) (bA 36 290) ?_
   refine tk_ (i := 0) (N := some 33) (bA 36 291) ?_
   refine tk_ (i := 3) (N := some 36) (bA 36 299) ?_
   refine tk_ (i := 4) (N := some 37) (bA 36 315) ?_
   refine tk_ (i := 7) (N := some 40) (bA 36 443) ?_
   refine one_ (i := 2) (N := some 35) (bA 36 447) rfl rfl (one_of HT_.out zb_16) (by decide) (fun K hK => ?_)
   refine ge_ Try.func29 #[.agg #[.slice (some ad664) a4.length b4, .slice d2 a6.length b5], .int .i64 b0] ?_
   with_reducible refine (impl_NotOf.calls _ _ a4 _ _ a6 b0 f7 _ ?side1 ?side2 ?side3 ?side4 i4.out).mono ?_
   (case side1 => repeat (first | exact (Kd.S_reads' a2.out).2.2 | (with_reducible refine Kd.C_alloc ?_ _) | (with_reducible refine Kd.C_drewN ?_ _) | (with_reducible refine Kd.C_drew ?_)))
   (case side2 => exact (Kd.S_reads' a2.out).2.1)
   (case side3 => repeat (first | exact (Kd.Q_reads' a3.out).2.2 | (with_reducible refine Kd.C_alloc ?_ _) | (with_reducible refine Kd.C_drewN ?_ _) | (with_reducible refine Kd.C_drew ?_)))
   (case side4 => exact (Kd.Q_reads' a3.out).2.1)
   rintro e w' ⟨rfl, hb⟩
   have HS2_ := (hb.cell (World.block_lt_of_cell? _ _ (hHeld.2.2.1))).trans (hHeld.2.2.1)
   have HS3_ := (hb.cell (World.block_lt_of_cell? _ _ (hHeld.2.2.2))).trans (hHeld.2.2.2)
   refine ⟨_, rfl, ?_⟩
   replace a2 := ak (Kd.S_below (xS a2.out) hb)
   replace a3 := ak (Kd.Q_below (xQ a3.out) hb)
   replace a1 := ak (blk_below (g := a5) (o := .cells #[.slice (some ad664) a4.length b4, .slice d2 a6.length b5] 26 (0, 0)) (xb a1.out) hb)
   replace HB := ak (below_step zb_0 hb)
   (try clear hb)
   (try clear hb2)
   (try clear hk)
   (try clear hi)
   refine hK.out _ _ ⟨(blk_cell a1.out 0).trans rfl, (blk_cell a1.out 1).trans rfl, HS2_, HS3_⟩ (fun hHeld => ?_)
   clear hK K
   refine no_ (N := some 35) ?_
   refine one_ (i := 6) (N := some 39) (bA 36 511) rfl rfl (one_of HT_.out zb_16) (by decide) (fun K hK => ?_)
   refine ge_ Try.func29 #[.agg #[.slice (some ad664) a4.length b4, .slice d2 a6.length b5], .int .i64 a7] ?_
   with_reducible refine (impl_NotOf.calls _ _ a4 _ _ a6 a7 d5 _ ?side1 ?side2 ?side3 ?side4 i5.out).mono ?_
   (case side1 => repeat (first | exact (Kd.S_reads' a2.out).2.2 | (with_reducible refine Kd.C_alloc ?_ _) | (with_reducible refine Kd.C_drewN ?_ _) | (with_reducible refine Kd.C_drew ?_)))
   (case side2 => exact (Kd.S_reads' a2.out).2.1)
   (case side3 => repeat (first | exact (Kd.Q_reads' a3.out).2.2 | (with_reducible refine Kd.C_alloc ?_ _) | (with_reducible refine Kd.C_drewN ?_ _) | (with_reducible refine Kd.C_drew ?_)))
   (case side4 => exact (Kd.Q_reads' a3.out).2.1)
   rintro e w' ⟨rfl, hb⟩
   have HS2_ := (hb.cell (World.block_lt_of_cell? _ _ (hHeld.2.2.1))).trans (hHeld.2.2.1)
   have HS3_ := (hb.cell (World.block_lt_of_cell? _ _ (hHeld.2.2.2))).trans (hHeld.2.2.2)
   refine ⟨_, rfl, ?_⟩
   replace a2 := ak (Kd.S_below (xS a2.out) hb)
   replace a3 := ak (Kd.Q_below (xQ a3.out) hb)
   replace a1 := ak (blk_below (g := a5) (o := .cells #[.slice (some ad664) a4.length b4, .slice d2 a6.length b5] 26 (0, 0)) (xb a1.out) hb)
   replace HB := ak (below_step zb_0 hb)
   (try clear hb)
   (try clear hb2)
   (try clear hk)
   (try clear hi)
   refine hK.out _ _ ⟨(blk_cell a1.out 0).trans rfl, (blk_cell a1.out 1).trans rfl, HS2_, HS3_⟩ (fun hHeld => ?_)
   clear hK K
   refine no_ (N := some 39) ?_
   refine one_ (i := 9) (N := some 42) (bA 36 1023) rfl rfl (one_of HT_.out zb_16) (by decide) (fun K hK => ?_)
   refine ge_ Try.func29 #[.agg #[.slice (some ad664) a4.length b4, .slice d2 a6.length b5], .int .i64 a8] ?_
   with_reducible refine (impl_NotOf.calls _ _ a4 _ _ a6 a8 d6 _ ?side1 ?side2 ?side3 ?side4 i6.out).mono ?_
   (case side1 => repeat (first | exact (Kd.S_reads' a2.out).2.2 | (with_reducible refine Kd.C_alloc ?_ _) | (with_reducible refine Kd.C_drewN ?_ _) | (with_reducible refine Kd.C_drew ?_)))
   (case side2 => exact (Kd.S_reads' a2.out).2.1)
   (case side3 => repeat (first | exact (Kd.Q_reads' a3.out).2.2 | (with_reducible refine Kd.C_alloc ?_ _) | (with_reducible refine Kd.C_drewN ?_ _) | (with_reducible refine Kd.C_drew ?_)))
   (case side4 => exact (Kd.Q_reads' a3.out).2.1)
   rintro e w' ⟨rfl, hb⟩
   have HS2_ := (hb.cell (World.block_lt_of_cell? _ _ (hHeld.2.2.1))).trans (hHeld.2.2.1)
   have HS3_ := (hb.cell (World.block_lt_of_cell? _ _ (hHeld.2.2.2))).trans (hHeld.2.2.2)
   refine ⟨_, rfl, ?_⟩
   replace a2 := ak (Kd.S_below (xS a2.out) hb)
   replace a3 := ak (Kd.Q_below (xQ a3.out) hb)
   replace a1 := ak (blk_below (g := a5) (o := .cells #[.slice (some ad664) a4.length b4, .slice d2 a6.length b5] 26 (0, 0)) (xb a1.out) hb)
   replace HB := ak (below_step zb_0 hb)
   (try clear hb)
   (try clear hb2)
   (try clear hk)
   (try clear hi)
   refine hK.out _ _ ⟨(blk_cell a1.out 0).trans rfl, (blk_cell a1.out 1).trans rfl, HS2_, HS3_⟩ (fun hHeld => ?_)
   clear hK K
   refine no_ (N := some 42) ?_
   refine one_ (i := 10) (N := some 43) (bA 36 2047) rfl rfl (one_of HT_.out zb_16) (by decide) (fun K hK => ?_)
   refine ge_ Try.func30 #[.agg #[.slice (some ad664) a4.length b4, .slice d2 a6.length b5], .int .i64 d5, .int .i64 d6] ?_
   with_reducible refine (impl_OrOf.calls _ _ a4 _ _ a6 d5 d6 f8 _ ?side1 ?side2 ?side3 ?side4 i7.out).mono ?_
   (case side1 => repeat (first | exact (Kd.S_reads' a2.out).2.2 | (with_reducible refine Kd.C_alloc ?_ _) | (with_reducible refine Kd.C_drewN ?_ _) | (with_reducible refine Kd.C_drew ?_)))
   (case side2 => exact (Kd.S_reads' a2.out).2.1)
   (case side3 => repeat (first | exact (Kd.Q_reads' a3.out).2.2 | (with_reducible refine Kd.C_alloc ?_ _) | (with_reducible refine Kd.C_drewN ?_ _) | (with_reducible refine Kd.C_drew ?_)))
   (case side4 => exact (Kd.Q_reads' a3.out).2.1)
   rintro e w' ⟨rfl, hb⟩
   have HS2_ := (hb.cell (World.block_lt_of_cell? _ _ (hHeld.2.2.1))).trans (hHeld.2.2.1)
   have HS3_ := (hb.cell (World.block_lt_of_cell? _ _ (hHeld.2.2.2))).trans (hHeld.2.2.2)
   refine ⟨_, rfl, ?_⟩
   replace a2 := ak (Kd.S_below (xS a2.out) hb)
   replace a3 := ak (Kd.Q_below (xQ a3.out) hb)
   replace a1 := ak (blk_below (g := a5) (o := .cells #[.slice (some ad664) a4.length b4, .slice d2 a6.length b5] 26 (0, 0)) (xb a1.out) hb)
   replace HB := ak (below_step zb_0 hb)
   (try clear hb)
   (try clear hb2)
   (try clear hk)
   (try clear hi)
   refine hK.out _ _ ⟨(blk_cell a1.out 0).trans rfl, (blk_cell a1.out 1).trans rfl, HS2_, HS3_⟩ (fun hHeld => ?_)
   clear hK K
   refine no_ (N := some 43) ?_
   refine pu_ (i := 11) (N := some 44) (bA 36 4095) ?_
   refine pu_ (i := 12) (N := some 45) (bA 36 8191) ?_
   refine pu_ (i := 13) (N := some 46) (bA 36 16383) ?_
   refine pu_ (i := 14) (N := some 47) (bA 36 32767) ?_
   refine pu_ (i := 15) (N := some 48) (bA 36 65535) ?_
   refine pu_ (i := 16) (N := some 49) (bA 36 131071) ?_
   refine pu_ (i := 18) (N := some 51) (bA 36 393215) ?_
   refine pu_ (i := 21) (N := some 54) (bA 36 2490367) ?_
   refine tk_ (i := 17) (N := some 50) (bA 36 2621439) ?_
   refine pu_ (i := 19) (N := some 52) (bA 36 3145727) ?_
   refine tk_ (i := 20) (N := some 53) (bA 36 4194303) ?_
   refine pu_ (i := 22) (N := some 55) (bA 36 8388607) ?_
   refine tk_ (i := 23) (N := some 56) (bA 36 16777215) ?_
   refine pu_ (i := 24) (N := some 57) (bA 36 33554431) ?_
   refine pu_ (i := 25) (N := some 58) (bA 36 67108863) ?_
   refine pu_ (i := 26) (N := some 59) (bA 36 134217727) ?_
   refine pu_ (i := 27) (N := some 60) (bA 36 268435455) ?_
   refine of_ (i := 28) (N := some 61) (bA 36 536870911) ?_
   refine of_ (i := 29) (N := some 62) (bA 36 1073741823) ?_
   refine of_ (i := 30) (N := some 63) (bA 36 2147483647) ?_
   refine of_ (i := 31) (N := some 64) (bA 36 4294967295) ?_
   refine of_ (i := 32) (N := some 65) (bA 36 8589934591) ?_
   refine of_ (i := 33) (N := some 66) (bA 36 17179869183) ?_
   refine pu_ (i := 34) (N := some 67) (bA 36 34359738367) ?_
   refine pu_ (i := 35) (N := some 2) (bA 36 68719476735) ?_
   refine done_ (done_of HT_.out zb_16) ?_
   try go_wp2
   go_ret
   exact ⟨zb_2, zb_0⟩
  obtain rfl := Option.some.inj H
  go_enter Try.func6, Try.ntmps6
  try go_wp2_with (first | ((with_reducible refine gate_callee (f := 26) rfl ?_); refine gl_ (some 12) Try.func26 #[.slice A0 l0.length c0] ?_; (with_reducible refine (spec_DrawAndOf.calls k _ _ l0 a4 a6 a7 a8 _ (y4 HR0.out) g6.out A3.out).mono ?_); rintro e w' ⟨f9, g0, rfl, ho0, ho1, hb⟩; refine ⟨_, rfl, ?_⟩; have a2 := ak (Kd.S_lower ho0 (below_size zb_1)); have a3 := ak (Kd.Q_lower ho1 (below_size zb_1)); replace HB := ak (below_step zb_1 hb); (try clear hb); (try clear hb2); (try clear hk); (try clear hi); (try clear ho0); (try clear ho1)) | ((with_reducible refine gate_dst (N := 3) rfl ?_); refine bx_ (N := 3) (cs := #[.slice none 0 0, .slice none 0 0]) (t := 26) ?_; intro a5 hg l4 hbox hb; replace a2 := ak (Kd.S_below (xS a2.out) hb); replace a3 := ak (Kd.Q_below (xQ a3.out) hb); have a1 := ak (hbox); have e6 := ak ((by rw [hg]; exact (below_size zb_1) : w.heap.size ≤ a5)); have d7 := ak ((by rw [hg]; exact (below_size zb_1) : w.heap.size ≤ a5)); replace HB := ak (below_step zb_1 hb); clear hb hbox hg; obtain ⟨d3, b6, j3⟩ := Kd.S_slice a2.out; subst j3; have b8 := cz20 a1.out; have b9 := cz21 a1.out; have d0 := blk_frozen a1.out 0; have d1 := blk_frozen a1.out 1; obtain ⟨d4, b7, j4, _⟩ := Kd.Q_slice a3.out; subst j4) | ((with_reducible refine gate_callee (f := 27) rfl ?_); refine gl_ (some 19) Try.func27 #[.agg #[.slice d3 a4.length b6, .slice d4 a6.length b7], .int .i64 a7, .int .i64 a8] ?_; (with_reducible refine (impl_AndOf.calls _ _ a4 _ _ a6 a7 a8 b0 _ (by refine (Kd.S_reads' (e := 24) (base := w.heap.size) (ok := fun k_ => some k_ ≠ (.slice d4 a6.length b7 : Value).ownBlock) (n := a4.length) (c := b6) ?_).2.2; exact zb_4) (y2 a2.out) (by refine (Kd.Q_reads' (e := 3) (base := w.heap.size) (ok := fun k_ => True) (n := a6.length) (c := b7) ?_).2.2; exact zb_10) (y2 a3.out) A4.out).mono ?_); rintro e w' ⟨rfl, hb⟩; refine ⟨_, rfl, ?_⟩; replace a2 := ak (Kd.S_below zb_4 hb); replace a3 := ak (Kd.Q_below zb_10 hb); replace a1 := ak (blk_below (g := a5) (o := .cells #[.slice d3 a4.length b6, .slice d4 a6.length b7] 26 (0, 0)) (by (with_reducible repeat (first | refine blk_drewN ?_ _ | refine blk_drew ?_ | refine blk_alloc ?_ _)); refine blk_put (cs := #[.slice d3 a4.length b6, .slice none 0 0]) ?_ 1 _ rfl; (with_reducible repeat (first | refine blk_drewN ?_ _ | refine blk_drew ?_ | refine blk_alloc ?_ _)); refine blk_put (cs := #[.slice none 0 0, .slice none 0 0]) ?_ 0 _ rfl; (with_reducible repeat (first | refine blk_drewN ?_ _ | refine blk_drew ?_ | refine blk_alloc ?_ _)); exact a1.out) hb); replace HB := ak (below_step zb_0 hb); (try clear hb); (try clear hb2); (try clear hk); (try clear hi); have b8 := cz20 a1.out; have b9 := cz21 a1.out; have d0 := blk_frozen a1.out 0; have d1 := blk_frozen a1.out 1) | ((with_reducible refine gate_callee (f := 28) rfl ?_); refine gl_ (some 24) Try.func28 #[.agg #[.slice d3 a4.length b6, .slice d4 a6.length b7], .int .i64 a7, .int .i64 a8] ?_; (with_reducible refine (spec_AndOf.calls k _ _ a4 _ _ a6 a7 a8 e5 _ (y1 a2.out) (y2 a2.out) (y1 a3.out) (y2 a3.out) A5.out).mono ?_); rintro e k5 ⟨rfl, hb⟩; refine ⟨_, rfl, ?_⟩; replace a2 := ak (Kd.S_below (xS a2.out) hb); replace a3 := ak (Kd.Q_below (xQ a3.out) hb); replace a1 := ak (blk_below (g := a5) (o := .cells #[.slice d3 a4.length b6, .slice d4 a6.length b7] 26 (0, 0)) (xb a1.out) hb); replace HB := ak (below_step zb_0 hb); (try clear hb); (try clear hb2); (try clear hk); (try clear hi)))
  replace a2 := ak (Kd.S_drew a2.out)
  replace a3 := ak (Kd.Q_drew a3.out)
  replace a1 := ak (blk_drew a1.out)
  replace HB := ak (below_drew1 HB.out)
  refine start_ (n := 36) (S := fun w' => w'.cell? ⟨a5, 0, none⟩ = some (.slice d3 a4.length b6) ∧ w'.cell? ⟨a5, 1, none⟩ = some (.slice d4 a6.length b7)) (ds := []) (bA 36 0) zb_16 rfl rfl ⟨(blk_cell a1.out 0).trans rfl, (blk_cell a1.out 1).trans rfl⟩ (fun hHeld => ?_); refine with_tabW laws_FnAndOf.tab9 laws_FnAndOf.bits9 (fun HT_ HW_ => ?_)
  generalize k5.drew = l5 at a2 a3 a1 HB hHeld ⊢
  refine pu_ (i := 1) (N := some 34) (bA 36 2) ?_
  refine pu_ (i := 5) (N := some 38) (bA 36 34) ?_
  refine pu_ (i := 8) (N := some 41) (bA 36 290) ?_
  refine tk_ (i := 0) (N := some 33) (bA 36 291) ?_
  refine tk_ (i := 3) (N := some 36) (bA 36 299) ?_
  refine tk_ (i := 4) (N := some 37) (bA 36 315) ?_
  refine tk_ (i := 7) (N := some 40) (bA 36 443) ?_
  refine one_ (i := 2) (N := some 35) (bA 36 447) rfl rfl (one_of HT_.out zb_16) (by decide) (fun K hK => ?_)
  refine ge_ Try.func29 #[.agg #[.slice d3 a4.length b6, .slice d4 a6.length b7], .int .i64 b0] ?_
  with_reducible refine (impl_NotOf.calls _ _ a4 _ _ a6 b0 f7 _ ?side1 ?side2 ?side3 ?side4 i4.out).mono ?_
  (case side1 => repeat (first | exact (Kd.S_reads' a2.out).2.2 | (with_reducible refine Kd.C_alloc ?_ _) | (with_reducible refine Kd.C_drewN ?_ _) | (with_reducible refine Kd.C_drew ?_)))
  (case side2 => exact (Kd.S_reads' a2.out).2.1)
  (case side3 => repeat (first | exact (Kd.Q_reads' a3.out).2.2 | (with_reducible refine Kd.C_alloc ?_ _) | (with_reducible refine Kd.C_drewN ?_ _) | (with_reducible refine Kd.C_drew ?_)))
  (case side4 => exact (Kd.Q_reads' a3.out).2.1)
  rintro e w' ⟨rfl, hb⟩
  refine ⟨_, rfl, ?_⟩
  replace a2 := ak (Kd.S_below (xS a2.out) hb)
  replace a3 := ak (Kd.Q_below (xQ a3.out) hb)
  replace a1 := ak (blk_below (g := a5) (o := .cells #[.slice d3 a4.length b6, .slice d4 a6.length b7] 26 (0, 0)) (xb a1.out) hb)
  replace HB := ak (below_step zb_0 hb)
  (try clear hb)
  (try clear hb2)
  (try clear hk)
  (try clear hi)
  refine hK.out _ _ ⟨(blk_cell a1.out 0).trans rfl, (blk_cell a1.out 1).trans rfl⟩ (fun hHeld => ?_)
  clear hK K
  refine no_ (N := some 35) ?_
  refine one_ (i := 6) (N := some 39) (bA 36 511) rfl rfl (one_of HT_.out zb_16) (by decide) (fun K hK => ?_)
  refine ge_ Try.func29 #[.agg #[.slice d3 a4.length b6, .slice d4 a6.length b7], .int .i64 a7] ?_
  with_reducible refine (impl_NotOf.calls _ _ a4 _ _ a6 a7 d5 _ ?side1 ?side2 ?side3 ?side4 i5.out).mono ?_
  (case side1 => repeat (first | exact (Kd.S_reads' a2.out).2.2 | (with_reducible refine Kd.C_alloc ?_ _) | (with_reducible refine Kd.C_drewN ?_ _) | (with_reducible refine Kd.C_drew ?_)))
  (case side2 => exact (Kd.S_reads' a2.out).2.1)
  (case side3 => repeat (first | exact (Kd.Q_reads' a3.out).2.2 | (with_reducible refine Kd.C_alloc ?_ _) | (with_reducible refine Kd.C_drewN ?_ _) | (with_reducible refine Kd.C_drew ?_)))
  (case side4 => exact (Kd.Q_reads' a3.out).2.1)
  rintro e w' ⟨rfl, hb⟩
  refine ⟨_, rfl, ?_⟩
  replace a2 := ak (Kd.S_below (xS a2.out) hb)
  replace a3 := ak (Kd.Q_below (xQ a3.out) hb)
  replace a1 := ak (blk_below (g := a5) (o := .cells #[.slice d3 a4.length b6, .slice d4 a6.length b7] 26 (0, 0)) (xb a1.out) hb)
  replace HB := ak (below_step zb_0 hb)
  (try clear hb)
  (try clear hb2)
  (try clear hk)
  (try clear hi)
  refine hK.out _ _ ⟨(blk_cell a1.out 0).trans rfl, (blk_cell a1.out 1).trans rfl⟩ (fun hHeld => ?_)
  clear hK K
  refine no_ (N := some 39) ?_
  refine one_ (i := 9) (N := some 42) (bA 36 1023) rfl rfl (one_of HT_.out zb_16) (by decide) (fun K hK => ?_)
  refine ge_ Try.func29 #[.agg #[.slice d3 a4.length b6, .slice d4 a6.length b7], .int .i64 a8] ?_
  with_reducible refine (impl_NotOf.calls _ _ a4 _ _ a6 a8 d6 _ ?side1 ?side2 ?side3 ?side4 i6.out).mono ?_
  (case side1 => repeat (first | exact (Kd.S_reads' a2.out).2.2 | (with_reducible refine Kd.C_alloc ?_ _) | (with_reducible refine Kd.C_drewN ?_ _) | (with_reducible refine Kd.C_drew ?_)))
  (case side2 => exact (Kd.S_reads' a2.out).2.1)
  (case side3 => repeat (first | exact (Kd.Q_reads' a3.out).2.2 | (with_reducible refine Kd.C_alloc ?_ _) | (with_reducible refine Kd.C_drewN ?_ _) | (with_reducible refine Kd.C_drew ?_)))
  (case side4 => exact (Kd.Q_reads' a3.out).2.1)
  rintro e w' ⟨rfl, hb⟩
  refine ⟨_, rfl, ?_⟩
  replace a2 := ak (Kd.S_below (xS a2.out) hb)
  replace a3 := ak (Kd.Q_below (xQ a3.out) hb)
  replace a1 := ak (blk_below (g := a5) (o := .cells #[.slice d3 a4.length b6, .slice d4 a6.length b7] 26 (0, 0)) (xb a1.out) hb)
  replace HB := ak (below_step zb_0 hb)
  (try clear hb)
  (try clear hb2)
  (try clear hk)
  (try clear hi)
  refine hK.out _ _ ⟨(blk_cell a1.out 0).trans rfl, (blk_cell a1.out 1).trans rfl⟩ (fun hHeld => ?_)
  clear hK K
  refine no_ (N := some 42) ?_
  refine one_ (i := 10) (N := some 43) (bA 36 2047) rfl rfl (one_of HT_.out zb_16) (by decide) (fun K hK => ?_)
  refine ge_ Try.func30 #[.agg #[.slice d3 a4.length b6, .slice d4 a6.length b7], .int .i64 d5, .int .i64 d6] ?_
  with_reducible refine (impl_OrOf.calls _ _ a4 _ _ a6 d5 d6 f8 _ ?side1 ?side2 ?side3 ?side4 i7.out).mono ?_
  (case side1 => repeat (first | exact (Kd.S_reads' a2.out).2.2 | (with_reducible refine Kd.C_alloc ?_ _) | (with_reducible refine Kd.C_drewN ?_ _) | (with_reducible refine Kd.C_drew ?_)))
  (case side2 => exact (Kd.S_reads' a2.out).2.1)
  (case side3 => repeat (first | exact (Kd.Q_reads' a3.out).2.2 | (with_reducible refine Kd.C_alloc ?_ _) | (with_reducible refine Kd.C_drewN ?_ _) | (with_reducible refine Kd.C_drew ?_)))
  (case side4 => exact (Kd.Q_reads' a3.out).2.1)
  rintro e w' ⟨rfl, hb⟩
  refine ⟨_, rfl, ?_⟩
  replace a2 := ak (Kd.S_below (xS a2.out) hb)
  replace a3 := ak (Kd.Q_below (xQ a3.out) hb)
  replace a1 := ak (blk_below (g := a5) (o := .cells #[.slice d3 a4.length b6, .slice d4 a6.length b7] 26 (0, 0)) (xb a1.out) hb)
  replace HB := ak (below_step zb_0 hb)
  (try clear hb)
  (try clear hb2)
  (try clear hk)
  (try clear hi)
  refine hK.out _ _ ⟨(blk_cell a1.out 0).trans rfl, (blk_cell a1.out 1).trans rfl⟩ (fun hHeld => ?_)
  clear hK K
  refine no_ (N := some 43) ?_
  refine pu_ (i := 11) (N := some 44) (bA 36 4095) ?_
  refine pu_ (i := 12) (N := some 45) (bA 36 8191) ?_
  refine of_ (i := 13) (N := some 46) (bA 36 16383) ?_
  refine of_ (i := 14) (N := some 47) (bA 36 32767) ?_
  refine of_ (i := 15) (N := some 48) (bA 36 65535) ?_
  refine of_ (i := 16) (N := some 49) (bA 36 131071) ?_
  refine of_ (i := 17) (N := some 50) (bA 36 262143) ?_
  refine of_ (i := 18) (N := some 51) (bA 36 524287) ?_
  refine of_ (i := 19) (N := some 52) (bA 36 1048575) ?_
  refine of_ (i := 20) (N := some 53) (bA 36 2097151) ?_
  refine of_ (i := 21) (N := some 54) (bA 36 4194303) ?_
  refine of_ (i := 22) (N := some 55) (bA 36 8388607) ?_
  refine of_ (i := 23) (N := some 56) (bA 36 16777215) ?_
  refine of_ (i := 24) (N := some 57) (bA 36 33554431) ?_
  refine of_ (i := 25) (N := some 58) (bA 36 67108863) ?_
  refine pu_ (i := 26) (N := some 59) (bA 36 134217727) ?_
  refine pu_ (i := 27) (N := some 60) (bA 36 268435455) ?_
  refine of_ (i := 28) (N := some 61) (bA 36 536870911) ?_
  refine of_ (i := 29) (N := some 62) (bA 36 1073741823) ?_
  refine of_ (i := 30) (N := some 63) (bA 36 2147483647) ?_
  refine of_ (i := 31) (N := some 64) (bA 36 4294967295) ?_
  refine of_ (i := 32) (N := some 65) (bA 36 8589934591) ?_
  refine of_ (i := 33) (N := some 66) (bA 36 17179869183) ?_
  refine pu_ (i := 34) (N := some 67) (bA 36 34359738367) ?_
  refine pu_ (i := 35) (N := some 2) (bA 36 68719476735) ?_
  refine done_ (done_of HT_.out zb_16) ?_
  try go_wp2
  go_ret
  exact ⟨zb_2, zb_0⟩
 obtain rfl := Option.some.inj H
 go_enter Try.func6, Try.ntmps6
 go_wp2_with (first | ((with_reducible refine gate_callee (f := 26) rfl ?_); refine gl_ (some 12) Try.func26 #[.slice A0 l0.length c0] ?_; (with_reducible refine (spec_DrawAndOf.calls k _ _ l0 a4 a6 a7 a8 _ (y4 HR0.out) g6.out A3.out).mono ?_); rintro e w' ⟨f9, g0, rfl, ho0, ho1, hb⟩; refine ⟨_, rfl, ?_⟩; have a2 := ak (Kd.S_lower ho0 (below_size zb_1)); have a3 := ak (Kd.Q_lower ho1 (below_size zb_1)); replace HB := ak (below_step zb_1 hb); (try clear hb); (try clear hb2); (try clear hk); (try clear hi); (try clear ho0); (try clear ho1)) | ((with_reducible refine gate_dst (N := 3) rfl ?_); refine bx_ (N := 3) (cs := #[.slice none 0 0, .slice none 0 0]) (t := 26) ?_; intro a5 hg l6 hbox hb; replace a2 := ak (Kd.S_below (xS a2.out) hb); replace a3 := ak (Kd.Q_below (xQ a3.out) hb); have a1 := ak (hbox); have e6 := ak ((by rw [hg]; exact (below_size zb_1) : w.heap.size ≤ a5)); have d7 := ak ((by rw [hg]; exact (below_size zb_1) : w.heap.size ≤ a5)); replace HB := ak (below_step zb_1 hb); clear hb hbox hg; obtain ⟨f3, e3, j5⟩ := Kd.S_slice a2.out; subst j5; have b8 := cz20 a1.out; have b9 := cz21 a1.out; have d0 := blk_frozen a1.out 0; have d1 := blk_frozen a1.out 1; obtain ⟨f4, e4, j6, _⟩ := Kd.Q_slice a3.out; subst j6) | ((with_reducible refine gate_callee (f := 27) rfl ?_); refine gl_ (some 19) Try.func27 #[.agg #[.slice f3 a4.length e3, .slice f4 a6.length e4], .int .i64 a7, .int .i64 a8] ?_; (with_reducible refine (impl_AndOf.calls _ _ a4 _ _ a6 a7 a8 b0 _ (by refine (Kd.S_reads' (e := 24) (base := w.heap.size) (ok := fun k_ => some k_ ≠ (.slice f4 a6.length e4 : Value).ownBlock) (n := a4.length) (c := e3) ?_).2.2; exact zb_3) (y2 a2.out) (by refine (Kd.Q_reads' (e := 3) (base := w.heap.size) (ok := fun k_ => True) (n := a6.length) (c := e4) ?_).2.2; exact zb_9) (y2 a3.out) A4.out).mono ?_); rintro e w' ⟨rfl, hb⟩; refine ⟨_, rfl, ?_⟩; replace a2 := ak (Kd.S_below zb_3 hb); replace a3 := ak (Kd.Q_below zb_9 hb); replace a1 := ak (blk_below (g := a5) (o := .cells #[.slice f3 a4.length e3, .slice f4 a6.length e4] 26 (0, 0)) (by (with_reducible repeat (first | refine blk_drewN ?_ _ | refine blk_drew ?_ | refine blk_alloc ?_ _)); refine blk_put (cs := #[.slice f3 a4.length e3, .slice none 0 0]) ?_ 1 _ rfl; (with_reducible repeat (first | refine blk_drewN ?_ _ | refine blk_drew ?_ | refine blk_alloc ?_ _)); refine blk_put (cs := #[.slice none 0 0, .slice none 0 0]) ?_ 0 _ rfl; (with_reducible repeat (first | refine blk_drewN ?_ _ | refine blk_drew ?_ | refine blk_alloc ?_ _)); exact a1.out) hb); replace HB := ak (below_step zb_0 hb); (try clear hb); (try clear hb2); (try clear hk); (try clear hi); have b8 := cz20 a1.out; have b9 := cz21 a1.out; have d0 := blk_frozen a1.out 0; have d1 := blk_frozen a1.out 1) | ((with_reducible refine gate_callee (f := 28) rfl ?_); refine gl_ (some 24) Try.func28 #[.agg #[.slice f3 a4.length e3, .slice f4 a6.length e4], .int .i64 a7, .int .i64 a8] ?_; (with_reducible refine (spec_AndOf.calls k _ _ a4 _ _ a6 a7 a8 e5 _ (y1 a2.out) (y2 a2.out) (y1 a3.out) (y2 a3.out) A5.out).mono ?_); rintro e w' ⟨rfl, hb⟩; refine ⟨_, rfl, ?_⟩; replace a2 := ak (Kd.S_below (xS a2.out) hb); replace a3 := ak (Kd.Q_below (xQ a3.out) hb); replace a1 := ak (blk_below (g := a5) (o := .cells #[.slice f3 a4.length e3, .slice f4 a6.length e4] 26 (0, 0)) (xb a1.out) hb); replace HB := ak (below_step zb_0 hb); (try clear hb); (try clear hb2); (try clear hk); (try clear hi)))
 go_ret
 exact ⟨zb_2, zb_0⟩

theorem laws_FnAndOf.walk (P : laws_FnAndOf.Pure) (a0 : Option Addr) (len0 cap0 : Nat) (z0 : List Int) (w : World) (w0 : (a0 = none ∧ len0 = 0 ∧ cap0 = 0 ∧ z0 = []) ∨ ∃ x, a0 = some x ∧ len0 ≤ cap0 ∧ cap0 ≤ maxLen ∧ z0.length = cap0 ∧ (∀ i, i < z0.length → w.cell? (x.add i) = some (.int .u8 (z0.getD i 0))) ∧ ∀ n ∈ z0, (Lit.int .u8 n).wf = true) (y0 : len0 * 1 ≤ 140737488351232) :
 Calls Try.prog 6 #[.slice a0 len0 cap0] w fun e w' => e = .returned (.bool true) ∧ Below w.heap.size w w' := by
 obtain ⟨l0, rfl, hr0, hm0, hw0, hc0⟩ := ReadsInt.ofRowC w0
 obtain ⟨k, h⟩ := P l0 hm0 y0 hw0
 refine (laws_FnAndOf.calls k _ _ l0 true w (Kd.C_of_reads (d := (0 : Int)) (h1 := fun _ => rfl) hr0) hc0 h).mono ?_
 rintro e w' ⟨rfl, hd⟩
 exact ⟨rfl, hd⟩

end Go.Proofs.Ytjgfpiilfnchnaa.P
