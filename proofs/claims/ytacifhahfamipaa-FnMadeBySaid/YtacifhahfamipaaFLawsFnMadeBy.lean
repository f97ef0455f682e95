-- written by gen.py (a program of this session) out of the kit's print of this seat's translation
import Derived.Test.YtacifhahfamipaaPk2
import Derived.Test.YtacifhahfamipaaFSpecDrawMadeBy
import Derived.Test.YtacifhahfamipaaFSpecMadeBy
import Derived.Test.YtacifhahfamipaaPk6
namespace Go.Proofs.Ytacifhahfamipaa.P
open Go.RowKit Go.Proofs.YtacifhahfamipaaW.PrintWords Go.Proofs.YtacifhahfamipaaW.PrintLast Go.Proofs.YtacifhahfamipaaW.PrintMore
attribute [local go_sem] max2_int min2_int max_two min_two max_three min_three max_four min_four
set_option linter.unusedVariables false
set_option linter.unusedSimpArgs false
def laws_FnMadeBy.T12 : Bool × List (List Nat × List Nat) := (true, [([], []), ([], []), ([1], [1]), ([0, 2], [0, 2]), ([], []), ([], []), ([5], [5]), ([], []), ([6, 7], [6, 7]), ([8], [8]), ([9], [9]), ([4, 10, 3], [4, 10]), ([3, 11], [3, 11])])
def laws_FnMadeBy.B12 : List Nat := [0, 0, 2, 7, 0, 0, 32, 0, 224, 480, 992, 2047, 4095]
theorem laws_FnMadeBy.tab12 : rtab .any (opsOf Try.f6 12) = laws_FnMadeBy.T12 := by kernel_rfl
theorem laws_FnMadeBy.bits12 : waitsOk laws_FnMadeBy.T12.2 laws_FnMadeBy.B12 = true := by kernel_rfl
theorem zd_12 {p : Prop} (h : p := by (try simp only [List.map_toArray, List.map_cons, List.map_nil]); first | done | (simp only [hji37]; rfl) | rfl | (simp only [List.length_drop, List.length_take]; rfl)) : p := h
theorem zd_11 {p : Prop} (h : p := by (try simp only [List.map_toArray, List.map_cons, List.map_nil]); first | done | (simp only [hji40]; rfl) | rfl | (simp only [List.length_drop, List.length_take]; rfl)) : p := h
theorem zd_10 {p : Prop} (h : p := by (with_reducible repeat (first | apply Kd.Q_alloc | apply Kd.Q_drewN | apply Kd.Q_drew)); exact (Kd.Q_mono (Kd.Q_far (p := ⟨a6, 1, none⟩) (Kd.Q_far (p := ⟨a6, 0, none⟩) (Kd.Q_types a7.out a1.out (by decide)) (fun _ hk => hk.2) (.slice d7 a5.length d1)) (fun _ hk => hk.2) (.slice d8 a4.length d2)) (fun _ h_ => h_.1))) : p := h
theorem zd_9 {p : Prop} (h : p := by (with_reducible repeat (first | apply Kd.Q_alloc | apply Kd.Q_drewN | apply Kd.Q_drew)); exact (Kd.Q_mono (Kd.Q_far (p := ⟨a6, 1, none⟩) (Kd.Q_far (p := ⟨a6, 0, none⟩) (Kd.Q_types a7.out a1.out (by decide)) (fun _ hk => hk.2) (.slice d9 a5.length d3)) (fun _ hk => hk.2) (.slice e0 a4.length d4)) (fun _ h_ => h_.1))) : p := h
theorem zd_8 {p : Prop} (h : p := by (with_reducible repeat (first | apply Kd.Q_alloc | apply Kd.Q_drewN | apply Kd.Q_drew)); exact (Kd.Q_mono (Kd.Q_far (p := ⟨a6, 1, none⟩) (Kd.Q_far (p := ⟨a6, 0, none⟩) (Kd.Q_types a7.out a1.out (by decide)) (fun _ hk => hk.2) (.slice b2 a5.length b1)) (fun _ hk => hk.2) (.slice b9 a4.length b0)) (fun _ h_ => h_.1))) : p := h
theorem zd_7 {p : Prop} (h : p := by (with_reducible repeat (first | apply Kd.Q_alloc | apply Kd.Q_drewN | apply Kd.Q_drew)); exact (Kd.Q_mono (Kd.Q_far (p := ⟨a6, 1, none⟩) (Kd.Q_far (p := ⟨a6, 0, none⟩) (Kd.Q_types a7.out a1.out (by decide)) (fun _ hk => hk.2) (.slice e1 a5.length d5)) (fun _ hk => hk.2) (.slice e2 a4.length d6)) (fun _ h_ => h_.1))) : p := h
theorem zd_6 {p : Prop} (h : p := by (with_reducible repeat (first | apply Kd.S_alloc | apply Kd.S_drewN | apply Kd.S_drew)); exact (Kd.S_mono (Kd.S_far (p := ⟨a6, 1, none⟩) (Kd.S_far (p := ⟨a6, 0, none⟩) (Kd.S_types a8.out a1.out (by decide)) (fun _ hk => hk.2) (.slice d7 a5.length d1)) (fun _ hk => hk.2) (.slice d8 a4.length d2)) (fun _ h_ => h_.1))) : p := h
theorem zd_5 {p : Prop} (h : p := by (with_reducible repeat (first | apply Kd.S_alloc | apply Kd.S_drewN | apply Kd.S_drew)); exact (Kd.S_mono (Kd.S_far (p := ⟨a6, 1, none⟩) (Kd.S_far (p := ⟨a6, 0, none⟩) (Kd.S_types a8.out a1.out (by decide)) (fun _ hk => hk.2) (.slice d9 a5.length d3)) (fun _ hk => hk.2) (.slice e0 a4.length d4)) (fun _ h_ => h_.1))) : p := h
theorem zd_4 {p : Prop} (h : p := by (with_reducible repeat (first | apply Kd.S_alloc | apply Kd.S_drewN | apply Kd.S_drew)); exact (Kd.S_mono (Kd.S_far (p := ⟨a6, 1, none⟩) (Kd.S_far (p := ⟨a6, 0, none⟩) (Kd.S_types a8.out a1.out (by decide)) (fun _ hk => hk.2) (.slice b2 a5.length b1)) (fun _ hk => hk.2) (.slice b9 a4.length b0)) (fun _ h_ => h_.1))) : p := h
theorem zd_3 {p : Prop} (h : p := by (with_reducible repeat (first | apply Kd.S_alloc | apply Kd.S_drewN | apply Kd.S_drew)); exact (Kd.S_mono (Kd.S_far (p := ⟨a6, 1, none⟩) (Kd.S_far (p := ⟨a6, 0, none⟩) (Kd.S_types a8.out a1.out (by decide)) (fun _ hk => hk.2) (.slice e1 a5.length d5)) (fun _ hk => hk.2) (.slice e2 a4.length d6)) (fun _ h_ => h_.1))) : p := h
theorem zd_2 {p : Prop} (h : p := by first | rfl | (simp [errW_none, errW_some] <;> rfl) | (simp [*, errW_none, errW_some] <;> rfl)) : p := h
theorem zd_1 {p : Prop} (h : p := by repeat (first | (with_reducible first | exact HB.out | apply below_alloc | apply pw_below_drewN | apply below_drew1) | exact HB.out)) : p := h
theorem zd_0 {p : Prop} (h : p := by repeat (first | (with_reducible first | exact HB.out | apply below_alloc | apply pw_below_drewN | apply below_drew1 | refine below_set ?_ e3.out) | exact HB.out)) : p := h
set_option maxHeartbeats 8000000 in
set_option maxRecDepth 100000 in
theorem laws_FnMadeBy.calls (k : Nat) (A0 : Option Addr) (c0 : Nat) (l0 : List Int) (r : Bool) (w : World) (hr0 : Kd.C (Kd.int .u8) w A0 l0.length l0) (hc0 : l0.length ≤ c0) (h : laws_FnMadeBy.f k l0 = some r) :
 Calls Try.prog 6 #[.slice A0 l0.length c0] w fun e w' => e = .returned (.bool r) ∧ Below w.heap.size w w' := by
 have hu27 := Try.underlying27
 have HR0 := ak hr0
 have g2 := ak hc0
 clear hr0 hc0
 have HB := ak (Below.refl w.heap.size w)
 have H : (if (l0.length : Int) > 1048576 then (some true) else ((spec_DrawMadeBy.f k l0).bind fun d0 => ((impl_MadeBy.f d0.1 d0.2.1 d0.2.2).bind fun b8 => ((spec_MadeBy.f k d0.1 d0.2.1 d0.2.2).bind fun e4 => (if b8 = e4 then (if b8 < 0 then (if b8 = (-1) then ((laws_alive.f k).bind fun e8 => (some e8)) else (some false)) else (laws_FnMadeBy.l0 k d0.2.2 b8 0 d0.1 d0.2.1)) else (some false)))))) = some r := h
 clear h
 replace H := op_ H
 rcases H with ⟨c2, H⟩ | ⟨c2, H⟩
 ·
  have f1 : decide (1048576 < (l0.length : Int)) = true := dT_ c2
  have f2 : decide (1048576 < l0.length) = true := dT_ (by omega)
  clear c2
  obtain rfl := Option.some.inj H
  go_enter Try.func6, Try.ntmps6
  go_wp2
  go_ret
  exact ⟨zd_2, zd_1⟩
 have f1 : decide (1048576 < (l0.length : Int)) = false := dF_ c2
 have f2 : decide (1048576 < l0.length) = false := dF_ (by omega)
 clear c2
 replace H := bd_ H
 obtain ⟨⟨a5, a4, b3⟩, A3, H⟩ := H
 try dsimp only at H
 replace H := bd_ H
 obtain ⟨b8, A4, H⟩ := H
 replace H := bd_ H
 obtain ⟨e4, A5, H⟩ := H
 try dsimp only at H
 replace H := oe2 H
 rcases H with ⟨⟨-, f3, f4⟩, H⟩ | ⟨⟨c6, f3, f4⟩, H⟩
 ·
  replace H := os_ H
  rcases H with ⟨f5, H⟩ | ⟨f5, H⟩
  ·
   replace H := oe2 H
   rcases H with ⟨⟨-, g3, g4⟩, H⟩ | ⟨⟨c8, g3, g4⟩, H⟩
   ·
    replace H := bd_ H
    obtain ⟨e8, A9, H⟩ := H
    try dsimp only at H
    obtain rfl := Option.some.inj H
    go_enter Try.func6, Try.ntmps6
    go_wp2_with (first | ((with_reducible refine gate_callee (f := 31) rfl ?_); refine gl_ (some 12) Try.func31 #[.slice A0 l0.length c0] ?_; (with_reducible refine (spec_DrawMadeBy.calls k _ _ l0 a5 a4 b3 _ (y4 HR0.out) g2.out A3.out).mono ?_); rintro e w' ⟨e9, f0, rfl, ho0, ho1, hb⟩; refine ⟨_, rfl, ?_⟩; have a8 := ak (Kd.S_lower ho0 (below_size zd_1)); have a7 := ak (Kd.Q_lower ho1 (below_size zd_1)); replace HB := ak (below_step zd_1 hb); (try clear hb); (try clear hb2); (try clear hk); (try clear hi); (try clear ho0); (try clear ho1)) | ((with_reducible refine gate_dst (N := 3) rfl ?_); refine bx_ (N := 3) (cs := #[.slice none 0 0, .slice none 0 0]) (t := 27) ?_; intro a6 hg i7 hbox hb; replace a8 := ak (Kd.S_below (xS a8.out) hb); replace a7 := ak (Kd.Q_below (xQ a7.out) hb); have a1 := ak (hbox); have e6 := ak ((by rw [hg]; exact (below_size zd_1) : w.heap.size ≤ a6)); have e3 := ak ((by rw [hg]; exact (below_size zd_1) : w.heap.size ≤ a6)); replace HB := ak (below_step zd_1 hb); clear hb hbox hg; obtain ⟨d7, d1, g5⟩ := Kd.S_slice a8.out; subst g5; have b4 := cz20 a1.out; have b5 := cz21 a1.out; have b6 := blk_frozen a1.out 0; have b7 := blk_frozen a1.out 1; obtain ⟨d8, d2, g6, _⟩ := Kd.Q_slice a7.out; subst g6) | ((with_reducible refine gate_callee (f := 32) rfl ?_); refine gl_ (some 17) Try.func32 #[.agg #[.slice d7 a5.length d1, .slice d8 a4.length d2], .int .i64 b3] ?_; (with_reducible refine (impl_MadeBy.calls _ _ a5 _ _ a4 b3 b8 _ (by refine (Kd.S_reads' (e := 25) (base := w.heap.size) (ok := fun k_ => some k_ ≠ (.slice d8 a4.length d2 : Value).ownBlock) (n := a5.length) (c := d1) ?_).2.2; exact zd_6) (y2 a8.out) (by refine (Kd.Q_reads' (e := 3) (base := w.heap.size) (ok := fun k_ => True) (n := a4.length) (c := d2) ?_).2.2; exact zd_10) (y2 a7.out) A4.out).mono ?_); rintro e w' ⟨rfl, hb⟩; refine ⟨_, rfl, ?_⟩; replace a8 := ak (Kd.S_below zd_6 hb); replace a7 := ak (Kd.Q_below zd_10 hb); replace a1 := ak (blk_below (g := a6) (o := .cells #[.slice d7 a5.length d1, .slice d8 a4.length d2] 27 (0, 0)) (by (with_reducible repeat (first | refine blk_drewN ?_ _ | refine blk_drew ?_ | refine blk_alloc ?_ _)); refine blk_put (cs := #[.slice d7 a5.length d1, .slice none 0 0]) ?_ 1 _ rfl; (with_reducible repeat (first | refine blk_drewN ?_ _ | refine blk_drew ?_ | refine blk_alloc ?_ _)); refine blk_put (cs := #[.slice none 0 0, .slice none 0 0]) ?_ 0 _ rfl; (with_reducible repeat (first | refine blk_drewN ?_ _ | refine blk_drew ?_ | refine blk_alloc ?_ _)); exact a1.out) hb); replace HB := ak (below_step zd_0 hb); (try clear hb); (try clear hb2); (try clear hk); (try clear hi); have b4 := cz20 a1.out; have b5 := cz21 a1.out; have b6 := blk_frozen a1.out 0; have b7 := blk_frozen a1.out 1) | ((first | ((with_reducible refine gate_callee (f := 33) rfl ?_); refine gl_ (some 21) Try.func33 #[.agg #[.slice d7 a5.length d1, .slice d8 a4.length d2], .int .i64 b3] ?_; (with_reducible refine (spec_MadeBy.calls k _ _ a5 _ _ a4 b3 e4 _ (y1 a8.out) (y2 a8.out) (y1 a7.out) (y2 a7.out) A5.out).mono ?_); rintro e w' ⟨rfl, hb⟩; refine ⟨_, rfl, ?_⟩) | (go_at_call 19; (with_reducible refine (laws_alive.calls k  e8 _ A9.out).mono ?_); rintro e w' ⟨rfl, hb⟩)); replace a8 := ak (Kd.S_below (xS a8.out) hb); replace a7 := ak (Kd.Q_below (xQ a7.out) hb); replace a1 := ak (blk_below (g := a6) (o := .cells #[.slice d7 a5.length d1, .slice d8 a4.length d2] 27 (0, 0)) (xb a1.out) hb); replace HB := ak (below_step zd_0 hb); (try clear hb); (try clear hb2); (try clear hk); (try clear hi)))
    go_ret
    exact ⟨zd_2, zd_0⟩
   obtain rfl := Option.some.inj H
   go_enter Try.func6, Try.ntmps6
   go_wp2_with (first | ((with_reducible refine gate_callee (f := 31) rfl ?_); refine gl_ (some 12) Try.func31 #[.slice A0 l0.length c0] ?_; (with_reducible refine (spec_DrawMadeBy.calls k _ _ l0 a5 a4 b3 _ (y4 HR0.out) g2.out A3.out).mono ?_); rintro e w' ⟨e9, f0, rfl, ho0, ho1, hb⟩; refine ⟨_, rfl, ?_⟩; have a8 := ak (Kd.S_lower ho0 (below_size zd_1)); have a7 := ak (Kd.Q_lower ho1 (below_size zd_1)); replace HB := ak (below_step zd_1 hb); (try clear hb); (try clear hb2); (try clear hk); (try clear hi); (try clear ho0); (try clear ho1)) | ((with_reducible refine gate_dst (N := 3) rfl ?_); refine bx_ (N := 3) (cs := #[.slice none 0 0, .slice none 0 0]) (t := 27) ?_; intro a6 hg i8 hbox hb; replace a8 := ak (Kd.S_below (xS a8.out) hb); replace a7 := ak (Kd.Q_below (xQ a7.out) hb); have a1 := ak (hbox); have e6 := ak ((by rw [hg]; exact (below_size zd_1) : w.heap.size ≤ a6)); have e3 := ak ((by rw [hg]; exact (below_size zd_1) : w.heap.size ≤ a6)); replace HB := ak (below_step zd_1 hb); clear hb hbox hg; obtain ⟨d9, d3, g7⟩ := Kd.S_slice a8.out; subst g7; have b4 := cz20 a1.out; have b5 := cz21 a1.out; have b6 := blk_frozen a1.out 0; have b7 := blk_frozen a1.out 1; obtain ⟨e0, d4, g8, _⟩ := Kd.Q_slice a7.out; subst g8) | ((with_reducible refine gate_callee (f := 32) rfl ?_); refine gl_ (some 17) Try.func32 #[.agg #[.slice d9 a5.length d3, .slice e0 a4.length d4], .int .i64 b3] ?_; (with_reducible refine (impl_MadeBy.calls _ _ a5 _ _ a4 b3 b8 _ (by refine (Kd.S_reads' (e := 25) (base := w.heap.size) (ok := fun k_ => some k_ ≠ (.slice e0 a4.length d4 : Value).ownBlock) (n := a5.length) (c := d3) ?_).2.2; exact zd_5) (y2 a8.out) (by refine (Kd.Q_reads' (e := 3) (base := w.heap.size) (ok := fun k_ => True) (n := a4.length) (c := d4) ?_).2.2; exact zd_9) (y2 a7.out) A4.out).mono ?_); rintro e w' ⟨rfl, hb⟩; refine ⟨_, rfl, ?_⟩; replace a8 := ak (Kd.S_below zd_5 hb); replace a7 := ak (Kd.Q_below zd_9 hb); replace a1 := ak (blk_below (g := a6) (o := .cells #[.slice d9 a5.length d3, .slice e0 a4.length d4] 27 (0, 0)) (by (with_reducible repeat (first | refine blk_drewN ?_ _ | refine blk_drew ?_ | refine blk_alloc ?_ _)); refine blk_put (cs := #[.slice d9 a5.length d3, .slice none 0 0]) ?_ 1 _ rfl; (with_reducible repeat (first | refine blk_drewN ?_ _ | refine blk_drew ?_ | refine blk_alloc ?_ _)); refine blk_put (cs := #[.slice none 0 0, .slice none 0 0]) ?_ 0 _ rfl; (with_reducible repeat (first | refine blk_drewN ?_ _ | refine blk_drew ?_ | refine blk_alloc ?_ _)); exact a1.out) hb); replace HB := ak (below_step zd_0 hb); (try clear hb); (try clear hb2); (try clear hk); (try clear hi); have b4 := cz20 a1.out; have b5 := cz21 a1.out; have b6 := blk_frozen a1.out 0; have b7 := blk_frozen a1.out 1) | ((with_reducible refine gate_callee (f := 33) rfl ?_); refine gl_ (some 21) Try.func33 #[.agg #[.slice d9 a5.length d3, .slice e0 a4.length d4], .int .i64 b3] ?_; (with_reducible refine (spec_MadeBy.calls k _ _ a5 _ _ a4 b3 e4 _ (y1 a8.out) (y2 a8.out) (y1 a7.out) (y2 a7.out) A5.out).mono ?_); rintro e w' ⟨rfl, hb⟩; refine ⟨_, rfl, ?_⟩; replace a8 := ak (Kd.S_below (xS a8.out) hb); replace a7 := ak (Kd.Q_below (xQ a7.out) hb); replace a1 := ak (blk_below (g := a6) (o := .cells #[.slice d9 a5.length d3, .slice e0 a4.length d4] 27 (0, 0)) (xb a1.out) hb); replace HB := ak (below_step zd_0 hb); (try clear hb); (try clear hb2); (try clear hk); (try clear hi)))
   go_ret
   exact ⟨zd_2, zd_0⟩
  have H' := ak H
  clear H
  go_enter Try.func6, Try.ntmps6
  go_wp2_with (first | ((with_reducible refine gate_callee (f := 31) rfl ?_); refine gl_ (some 12) Try.func31 #[.slice A0 l0.length c0] ?_; (with_reducible refine (spec_DrawMadeBy.calls k _ _ l0 a5 a4 b3 _ (y4 HR0.out) g2.out A3.out).mono ?_); rintro e w' ⟨e9, f0, rfl, ho0, ho1, hb⟩; refine ⟨_, rfl, ?_⟩; have a8 := ak (Kd.S_lower ho0 (below_size zd_1)); have a7 := ak (Kd.Q_lower ho1 (below_size zd_1)); replace HB := ak (below_step zd_1 hb); (try clear hb); (try clear hb2); (try clear hk); (try clear hi); (try clear ho0); (try clear ho1)) | ((with_reducible refine gate_dst (N := 3) rfl ?_); refine bx_ (N := 3) (cs := #[.slice none 0 0, .slice none 0 0]) (t := 27) ?_; intro a6 hg i9 hbox hb; replace a8 := ak (Kd.S_below (xS a8.out) hb); replace a7 := ak (Kd.Q_below (xQ a7.out) hb); have a1 := ak (hbox); have e6 := ak ((by rw [hg]; exact (below_size zd_1) : w.heap.size ≤ a6)); have e3 := ak ((by rw [hg]; exact (below_size zd_1) : w.heap.size ≤ a6)); replace HB := ak (below_step zd_1 hb); clear hb hbox hg; obtain ⟨b2, b1, g9⟩ := Kd.S_slice a8.out; subst g9; have b4 := cz20 a1.out; have b5 := cz21 a1.out; have b6 := blk_frozen a1.out 0; have b7 := blk_frozen a1.out 1; obtain ⟨b9, b0, h0, _⟩ := Kd.Q_slice a7.out; subst h0) | ((with_reducible refine gate_callee (f := 32) rfl ?_); refine gl_ (some 17) Try.func32 #[.agg #[.slice b2 a5.length b1, .slice b9 a4.length b0], .int .i64 b3] ?_; (with_reducible refine (impl_MadeBy.calls _ _ a5 _ _ a4 b3 b8 _ (by refine (Kd.S_reads' (e := 25) (base := w.heap.size) (ok := fun k_ => some k_ ≠ (.slice b9 a4.length b0 : Value).ownBlock) (n := a5.length) (c := b1) ?_).2.2; exact zd_4) (y2 a8.out) (by refine (Kd.Q_reads' (e := 3) (base := w.heap.size) (ok := fun k_ => True) (n := a4.length) (c := b0) ?_).2.2; exact zd_8) (y2 a7.out) A4.out).mono ?_); rintro e w' ⟨rfl, hb⟩; refine ⟨_, rfl, ?_⟩; replace a8 := ak (Kd.S_below zd_4 hb); replace a7 := ak (Kd.Q_below zd_8 hb); replace a1 := ak (blk_below (g := a6) (o := .cells #[.slice b2 a5.length b1, .slice b9 a4.length b0] 27 (0, 0)) (by (with_reducible repeat (first | refine blk_drewN ?_ _ | refine blk_drew ?_ | refine blk_alloc ?_ _)); refine blk_put (cs := #[.slice b2 a5.length b1, .slice none 0 0]) ?_ 1 _ rfl; (with_reducible repeat (first | refine blk_drewN ?_ _ | refine blk_drew ?_ | refine blk_alloc ?_ _)); refine blk_put (cs := #[.slice none 0 0, .slice none 0 0]) ?_ 0 _ rfl; (with_reducible repeat (first | refine blk_drewN ?_ _ | refine blk_drew ?_ | refine blk_alloc ?_ _)); exact a1.out) hb); replace HB := ak (below_step zd_0 hb); (try clear hb); (try clear hb2); (try clear hk); (try clear hi); have b4 := cz20 a1.out; have b5 := cz21 a1.out; have b6 := blk_frozen a1.out 0; have b7 := blk_frozen a1.out 1) | ((with_reducible refine gate_callee (f := 33) rfl ?_); refine gl_ (some 21) Try.func33 #[.agg #[.slice b2 a5.length b1, .slice b9 a4.length b0], .int .i64 b3] ?_; (with_reducible refine (spec_MadeBy.calls k _ _ a5 _ _ a4 b3 e4 _ (y1 a8.out) (y2 a8.out) (y1 a7.out) (y2 a7.out) A5.out).mono ?_); rintro e w' ⟨rfl, hb⟩; refine ⟨_, rfl, ?_⟩; replace a8 := ak (Kd.S_below (xS a8.out) hb); replace a7 := ak (Kd.Q_below (xQ a7.out) hb); replace a1 := ak (blk_below (g := a6) (o := .cells #[.slice b2 a5.length b1, .slice b9 a4.length b0] 27 (0, 0)) (xb a1.out) hb); replace HB := ak (below_step zd_0 hb); (try clear hb); (try clear hb2); (try clear hk); (try clear hi)))
  go_loopg [6] k (fun kq v6 w' => ∃ (a9 : Int), v6 = .int .i64 a9 ∧ Aside0 (laws_FnMadeBy.l0 kq b3 b8 a9 a5 a4 = some r) ∧ Aside0 (kq ≤ k) ∧ Aside0 (Kd.S (Kd.slice 3 (Kd.int .i64)) 25 w' w.heap.size (fun k_ => some k_ ≠ ((.slice b9 a4.length b0) : Value).ownBlock) (.slice b2 a5.length b1) a5) ∧ Aside0 (Kd.Q (Kd.int .i64) 3 w' w.heap.size (fun _ => True) (.slice b9 a4.length b0) a4) ∧ Aside0 (w'.heap[a6]? = some (.cells #[(.slice b2 a5.length b1), (.slice b9 a4.length b0)] 27 (0, 0))) ∧ Aside0 (Below w.heap.size w w'))
  case atStart => exact ⟨(0), (by first | rfl | (simp; done) | (simp [*]; done)), H', ⟨Nat.le_refl _⟩, ⟨(xS a8.out)⟩, ⟨(xQ a7.out)⟩, ⟨(xb a1.out)⟩, ⟨zd_0⟩⟩
  case round =>
   clear H'
   try clear c2
   try clear f1
   try clear f2
   try clear c6
   try clear f3
   try clear f4
   try clear c7
   try clear f5
   try clear b4
   try clear b5
   try clear b6
   try clear b7
   obtain ⟨a9, rfl, HA, HK1, a3, a2, a1, HB⟩ := hrel
   cases gk with
   | zero => exact absurd HA.out (by simp [laws_FnMadeBy.l0])
   | succ k1 =>
    have H := HA.out
    clear HA
    simp only [laws_FnMadeBy.l0] at H
    replace H := os_ H
    rcases H with ⟨f7, H⟩ | ⟨f7, H⟩
    ·
     replace H := ok_ H
     obtain ⟨h2, H⟩ := H
     have i0 := eq_true h2
     have i1 : decide (0 ≤ a9) = true := dT_ h2
     clear h2
     obtain ⟨ji37, hji37⟩ : ∃ j_ : Int, (shl .i64 1 a9) = j_ := ⟨_, rfl⟩
     replace H : ((impl_MadeBy.f a5 a4 (ji37)).bind fun e7 => (if 0 ≤ (rd a4 a9) then ((impl_MadeBy.f a5 a4 (shl .i64 1 (rd a4 a9))).bind fun e5 => (if e7 = e5 then (laws_FnMadeBy.l0 k1 b3 b8 (wrap64 (a9 + 1)) a5 a4) else (some false))) else (none))) = some r := by first | (rw [hji37] at H; exact H) | (simp only [hji37] at H ⊢; exact H)
     have hji37_ : (IntKind.i64.wrap (1 * 2 ^ min a9.toNat 64)) = ji37 := hji37
     have hji37z : a9 ≤ 64 → (IntKind.i64.wrap (1 * 2 ^ a9.toNat)) = ji37 := shl_small hji37
     have hji37u : (IntKind.i64.wrap (2 ^ min a9.toNat 64)) = ji37 := by have h_ := hji37_; rw [Int.one_mul] at h_; exact h_
     have hji37v : a9 ≤ 64 → (IntKind.i64.wrap (2 ^ a9.toNat)) = ji37 := fun hle_ => by have h_ := hji37z hle_; rw [Int.one_mul] at h_; exact h_
     have hji37y : (wrap64 (1 * 2 ^ min a9.toNat 64)) = ji37 := (i64_w _).symm.trans hji37_
     have hji37x : a9 ≤ 64 → (wrap64 (1 * 2 ^ a9.toNat)) = ji37 := fun h_ => (i64_w _).symm.trans (hji37z h_)
     replace H := bd_ H
     obtain ⟨e7, h3, H⟩ := H
     replace H := ok_ H
     obtain ⟨h4, H⟩ := H
     have i2 := eq_true h4
     have i3 : decide (0 ≤ (rd a4 a9)) = true := dT_ h4
     clear h4
     obtain ⟨ji40, hji40⟩ : ∃ j_ : Int, (shl .i64 1 (rd a4 a9)) = j_ := ⟨_, rfl⟩
     replace H : ((impl_MadeBy.f a5 a4 (ji40)).bind fun e5 => (if e7 = e5 then (laws_FnMadeBy.l0 k1 b3 b8 (wrap64 (a9 + 1)) a5 a4) else (some false))) = some r := by first | (rw [hji40] at H; exact H) | (simp only [hji40] at H ⊢; exact H)
     (try rw [hji40] at h3)
     have hji40_ : (IntKind.i64.wrap (1 * 2 ^ min (rd a4 a9).toNat 64)) = ji40 := hji40
     have hji40z : (rd a4 a9) ≤ 64 → (IntKind.i64.wrap (1 * 2 ^ (rd a4 a9).toNat)) = ji40 := shl_small hji40
     have hji40u : (IntKind.i64.wrap (2 ^ min (rd a4 a9).toNat 64)) = ji40 := by have h_ := hji40_; rw [Int.one_mul] at h_; exact h_
     have hji40v : (rd a4 a9) ≤ 64 → (IntKind.i64.wrap (2 ^ (rd a4 a9).toNat)) = ji40 := fun hle_ => by have h_ := hji40z hle_; rw [Int.one_mul] at h_; exact h_
     have hji40y : (wrap64 (1 * 2 ^ min (rd a4 a9).toNat 64)) = ji40 := (i64_w _).symm.trans hji40_
     have hji40x : (rd a4 a9) ≤ 64 → (wrap64 (1 * 2 ^ (rd a4 a9).toNat)) = ji40 := fun h_ => (i64_w _).symm.trans (hji40z h_)
     replace H := bd_ H
     obtain ⟨e5, i4, H⟩ := H
     try dsimp only at H
     replace H := oe2 H
     rcases H with ⟨⟨-, f8, f9⟩, H⟩ | ⟨⟨j0, f8, f9⟩, H⟩
     ·
      have H' := ak H
      clear H
      have b4 := cz20 a1.out
      have b5 := cz21 a1.out
      have b6 := blk_frozen a1.out 0
      have b7 := blk_frozen a1.out 1
      try go_wp2
      replace a3 := ak (Kd.S_drew a3.out)
      replace a2 := ak (Kd.Q_drew a2.out)
      replace a1 := ak (blk_drew a1.out)
      replace HB := ak (below_drew1 HB.out)
      obtain ⟨ad756, e756, hx756_0, h5, q756⟩ := ai_ (Kd.Q_reads' a2.out).2.2 a9
      cases e756
      refine start_ (n := 13) (S := fun w' => w'.cell? ⟨a6, 0, none⟩ = some (.slice b2 a5.length b1) ∧ w'.cell? ⟨a6, 1, none⟩ = some (.slice (some ad756) a4.length b0) ∧ w'.cell? (ad756.add (a9).toNat) = some (.int .i64 (rd a4 a9))) (ds := []) (bA 13 0) (by kernel_rfl) rfl rfl ⟨(blk_cell a1.out 0).trans rfl, (blk_cell a1.out 1).trans rfl, hx756_0⟩ (fun hHeld => ?_); refine with_tabW laws_FnMadeBy.tab12 laws_FnMadeBy.bits12 (fun HT_ HW_ => ?_)
      generalize wr.drew = j1 at a3 a2 a1 HB hx756_0 hHeld ⊢
      refine pu_ (i := 1) (N := some 38) (bA 13 2) ?_
      refine pu_ (i := 2) (N := some 39) (bA 13 6) ?_
      refine pu_ (i := 5) (N := some 42) (bA 13 38) ?_
      refine pu_ (i := 7) (N := some 44) (bA 13 166) ?_
      refine tk_ (i := 0) (N := some 37) (bA 13 167) ?_
      refine tk_ (i := 4) (N := some 41) (bA 13 183) ?_
      refine tk_ (i := 6) (N := some 43) (bA 13 247) ?_
      refine pu_ (i := 8) (N := some 45) (bA 13 503) ?_
      refine tk_ (i := 9) (N := some 46) (bA 13 1015) ?_
      refine pu_ (i := 10) (N := some 47) (bA 13 2039) ?_
      refine one_ (i := 3) (N := some 40) (bA 13 2047) rfl rfl (one_of HT_.out (by kernel_rfl)) (by decide) (fun K hK => ?_)
      refine goes_ Try.func32 (by kernel_rfl) rfl #[.agg #[.slice b2 a5.length b1, .slice (some ad756) a4.length b0], .int .i64 ji37] (by rfl) rfl rfl zd_12 ?_
      with_reducible refine (impl_MadeBy.calls _ _ a5 _ _ a4 ji37 e7 _ ?side1 ?side2 ?side3 ?side4 h3.out).mono ?_
      (case side1 => repeat (first | exact (Kd.S_reads' a3.out).2.2 | (with_reducible refine Kd.C_alloc ?_ _) | (with_reducible refine Kd.C_drewN ?_ _) | (with_reducible refine Kd.C_drew ?_)))
      (case side2 => exact (Kd.S_reads' a3.out).2.1)
      (case side3 => repeat (first | exact (Kd.Q_reads' a2.out).2.2 | (with_reducible refine Kd.C_alloc ?_ _) | (with_reducible refine Kd.C_drewN ?_ _) | (with_reducible refine Kd.C_drew ?_)))
      (case side4 => exact (Kd.Q_reads' a2.out).2.1)
      rintro e w' ⟨rfl, hb⟩
      have HS2_ := (hb.cell (World.block_lt_of_cell? _ _ (hHeld.2.2))).trans (hHeld.2.2)
      refine ⟨_, rfl, ?_⟩
      replace a3 := ak (Kd.S_below (xS a3.out) hb)
      replace a2 := ak (Kd.Q_below (xQ a2.out) hb)
      replace a1 := ak (blk_below (g := a6) (o := .cells #[.slice b2 a5.length b1, .slice (some ad756) a4.length b0] 27 (0, 0)) (xb a1.out) hb)
      replace HB := ak (below_step zd_0 hb)
      (try clear hb)
      (try clear hb2)
      (try clear hk)
      (try clear hi)
      refine hK.out _ _ ⟨(blk_cell a1.out 0).trans rfl, (blk_cell a1.out 1).trans rfl, HS2_⟩ (fun hHeld => ?_)
      clear hK K
      refine no_ (N := some 40) ?_
      refine one_ (i := 11) (N := some 48) (bA 13 4095) rfl rfl (one_of HT_.out (by kernel_rfl)) (by decide) (fun K hK => ?_)
      refine goes_ Try.func32 (by kernel_rfl) rfl #[.agg #[.slice b2 a5.length b1, .slice (some ad756) a4.length b0], .int .i64 ji40] (by rfl) rfl rfl zd_11 ?_
      with_reducible refine (impl_MadeBy.calls _ _ a5 _ _ a4 ji40 e5 _ ?side1 ?side2 ?side3 ?side4 i4.out).mono ?_
      (case side1 => repeat (first | exact (Kd.S_reads' a3.out).2.2 | (with_reducible refine Kd.C_alloc ?_ _) | (with_reducible refine Kd.C_drewN ?_ _) | (with_reducible refine Kd.C_drew ?_)))
      (case side2 => exact (Kd.S_reads' a3.out).2.1)
      (case side3 => repeat (first | exact (Kd.Q_reads' a2.out).2.2 | (with_reducible refine Kd.C_alloc ?_ _) | (with_reducible refine Kd.C_drewN ?_ _) | (with_reducible refine Kd.C_drew ?_)))
      (case side4 => exact (Kd.Q_reads' a2.out).2.1)
      rintro e w' ⟨rfl, hb⟩
      have HS2_ := (hb.cell (World.block_lt_of_cell? _ _ (hHeld.2.2))).trans (hHeld.2.2)
      refine ⟨_, rfl, ?_⟩
      replace a3 := ak (Kd.S_below (xS a3.out) hb)
      replace a2 := ak (Kd.Q_below (xQ a2.out) hb)
      replace a1 := ak (blk_below (g := a6) (o := .cells #[.slice b2 a5.length b1, .slice (some ad756) a4.length b0] 27 (0, 0)) (xb a1.out) hb)
      replace HB := ak (below_step zd_0 hb)
      (try clear hb)
      (try clear hb2)
      (try clear hk)
      (try clear hi)
      refine hK.out _ _ ⟨(blk_cell a1.out 0).trans rfl, (blk_cell a1.out 1).trans rfl, HS2_⟩ (fun hHeld => ?_)
      clear hK K
      refine no_ (N := some 48) ?_
      refine pu_ (i := 12) (N := some 49) (bA 13 8191) ?_
      refine done_ (done_of HT_.out (by kernel_rfl)) ?_
      try go_wp2
      go_roundg k1
      case measure => have := HK1.out; omega
      case rel => exact ⟨(wrap64 (a9 + 1)), (by first | rfl | (simp; done) | (simp [*]; done)), H', ⟨(by have := HK1.out; omega)⟩, ⟨(xS a3.out)⟩, ⟨(xQ a2.out)⟩, ⟨(xb a1.out)⟩, ⟨zd_0⟩⟩
     obtain rfl := Option.some.inj H
     have b4 := cz20 a1.out
     have b5 := cz21 a1.out
     have b6 := blk_frozen a1.out 0
     have b7 := blk_frozen a1.out 1
     try go_wp2
     replace a3 := ak (Kd.S_drew a3.out)
     replace a2 := ak (Kd.Q_drew a2.out)
     replace a1 := ak (blk_drew a1.out)
     replace HB := ak (below_drew1 HB.out)
     obtain ⟨ad756, e756, hx756_0, h5, q756⟩ := ai_ (Kd.Q_reads' a2.out).2.2 a9
     cases e756
     refine start_ (n := 13) (S := fun w' => w'.cell? ⟨a6, 0, none⟩ = some (.slice b2 a5.length b1) ∧ w'.cell? ⟨a6, 1, none⟩ = some (.slice (some ad756) a4.length b0) ∧ w'.cell? (ad756.add (a9).toNat) = some (.int .i64 (rd a4 a9))) (ds := []) (bA 13 0) (by kernel_rfl) rfl rfl ⟨(blk_cell a1.out 0).trans rfl, (blk_cell a1.out 1).trans rfl, hx756_0⟩ (fun hHeld => ?_); refine with_tabW laws_FnMadeBy.tab12 laws_FnMadeBy.bits12 (fun HT_ HW_ => ?_)
     generalize wr.drew = j2 at a3 a2 a1 HB hx756_0 hHeld ⊢
     refine pu_ (i := 1) (N := some 38) (bA 13 2) ?_
     refine pu_ (i := 2) (N := some 39) (bA 13 6) ?_
     refine pu_ (i := 5) (N := some 42) (bA 13 38) ?_
     refine pu_ (i := 7) (N := some 44) (bA 13 166) ?_
     refine tk_ (i := 0) (N := some 37) (bA 13 167) ?_
     refine tk_ (i := 4) (N := some 41) (bA 13 183) ?_
     refine tk_ (i := 6) (N := some 43) (bA 13 247) ?_
     refine pu_ (i := 8) (N := some 45) (bA 13 503) ?_
     refine tk_ (i := 9) (N := some 46) (bA 13 1015) ?_
     refine pu_ (i := 10) (N := some 47) (bA 13 2039) ?_
     refine one_ (i := 3) (N := some 40) (bA 13 2047) rfl rfl (one_of HT_.out (by kernel_rfl)) (by decide) (fun K hK => ?_)
     refine goes_ Try.func32 (by kernel_rfl) rfl #[.agg #[.slice b2 a5.length b1, .slice (some ad756) a4.length b0], .int .i64 ji37] (by rfl) rfl rfl zd_12 ?_
     with_reducible refine (impl_MadeBy.calls _ _ a5 _ _ a4 ji37 e7 _ ?side1 ?side2 ?side3 ?side4 h3.out).mono ?_
     (case side1 => repeat (first | exact (Kd.S_reads' a3.out).2.2 | (with_reducible refine Kd.C_alloc ?_ _) | (with_reducible refine Kd.C_drewN ?_ _) | (with_reducible refine Kd.C_drew ?_)))
     (case side2 => exact (Kd.S_reads' a3.out).2.1)
     (case side3 => repeat (first | exact (Kd.Q_reads' a2.out).2.2 | (with_reducible refine Kd.C_alloc ?_ _) | (with_reducible refine Kd.C_drewN ?_ _) | (with_reducible refine Kd.C_drew ?_)))
     (case side4 => exact (Kd.Q_reads' a2.out).2.1)
     rintro e w' ⟨rfl, hb⟩
     have HS2_ := (hb.cell (World.block_lt_of_cell? _ _ (hHeld.2.2))).trans (hHeld.2.2)
     refine ⟨_, rfl, ?_⟩
     replace a3 := ak (Kd.S_below (xS a3.out) hb)
     replace a2 := ak (Kd.Q_below (xQ a2.out) hb)
     replace a1 := ak (blk_below (g := a6) (o := .cells #[.slice b2 a5.length b1, .slice (some ad756) a4.length b0] 27 (0, 0)) (xb a1.out) hb)
     replace HB := ak (below_step zd_0 hb)
     (try clear hb)
     (try clear hb2)
     (try clear hk)
     (try clear hi)
     refine hK.out _ _ ⟨(blk_cell a1.out 0).trans rfl, (blk_cell a1.out 1).trans rfl, HS2_⟩ (fun hHeld => ?_)
     clear hK K
     refine no_ (N := some 40) ?_
     refine one_ (i := 11) (N := some 48) (bA 13 4095) rfl rfl (one_of HT_.out (by kernel_rfl)) (by decide) (fun K hK => ?_)
     refine goes_ Try.func32 (by kernel_rfl) rfl #[.agg #[.slice b2 a5.length b1, .slice (some ad756) a4.length b0], .int .i64 ji40] (by rfl) rfl rfl zd_11 ?_
     with_reducible refine (impl_MadeBy.calls _ _ a5 _ _ a4 ji40 e5 _ ?side1 ?side2 ?side3 ?side4 i4.out).mono ?_
     (case side1 => repeat (first | exact (Kd.S_reads' a3.out).2.2 | (with_reducible refine Kd.C_alloc ?_ _) | (with_reducible refine Kd.C_drewN ?_ _) | (with_reducible refine Kd.C_drew ?_)))
     (case side2 => exact (Kd.S_reads' a3.out).2.1)
     (case side3 => repeat (first | exact (Kd.Q_reads' a2.out).2.2 | (with_reducible refine Kd.C_alloc ?_ _) | (with_reducible refine Kd.C_drewN ?_ _) | (with_reducible refine Kd.C_drew ?_)))
     (case side4 => exact (Kd.Q_reads' a2.out).2.1)
     rintro e w' ⟨rfl, hb⟩
     have HS2_ := (hb.cell (World.block_lt_of_cell? _ _ (hHeld.2.2))).trans (hHeld.2.2)
     refine ⟨_, rfl, ?_⟩
     replace a3 := ak (Kd.S_below (xS a3.out) hb)
     replace a2 := ak (Kd.Q_below (xQ a2.out) hb)
     replace a1 := ak (blk_below (g := a6) (o := .cells #[.slice b2 a5.length b1, .slice (some ad756) a4.length b0] 27 (0, 0)) (xb a1.out) hb)
     replace HB := ak (below_step zd_0 hb)
     (try clear hb)
     (try clear hb2)
     (try clear hk)
     (try clear hi)
     refine hK.out _ _ ⟨(blk_cell a1.out 0).trans rfl, (blk_cell a1.out 1).trans rfl, HS2_⟩ (fun hHeld => ?_)
     clear hK K
     refine no_ (N := some 48) ?_
     refine pu_ (i := 12) (N := some 49) (bA 13 8191) ?_
     refine done_ (done_of HT_.out (by kernel_rfl)) ?_
     try go_wp2
     go_ret
     exact ⟨(by first | rfl | (simp [errW_none, errW_some] <;> rfl) | (simp only [← hji37, ← hji40]; first | rfl | (simp [errW_none, errW_some] <;> rfl)) | (simp [*, errW_none, errW_some] <;> rfl)), zd_0⟩
    replace H := bd_ H
    obtain ⟨i5, h6, H⟩ := H
    try dsimp only at H
    replace H := ox_ H
    rcases H with ⟨rfl, H⟩ | ⟨rfl, H⟩
    ·
     replace H := oe2 H
     rcases H with ⟨⟨-, g0, g1⟩, H⟩ | ⟨⟨j3, g0, g1⟩, H⟩
     ·
      replace H := bd_ H
      obtain ⟨h7, i6, H⟩ := H
      try dsimp only at H
      obtain rfl := Option.some.inj H
      have b4 := cz20 a1.out
      have b5 := cz21 a1.out
      have b6 := blk_frozen a1.out 0
      have b7 := blk_frozen a1.out 1
      go_wp2_with (first | ((with_reducible refine gate_callee (f := 34) rfl ?_); refine gl_ (some 52) Try.func34 #[.agg #[.slice b2 a5.length b1, .slice b9 a4.length b0], .int .i64 b8] ?_; (with_reducible refine (impl_SubOk.calls _ _ a5 _ _ a4 b8 true _ (y1 a3.out) (y2 a3.out) (y1 a2.out) (y2 a2.out) h6.out).mono ?_); rintro e w' ⟨rfl, hb⟩; refine ⟨_, rfl, ?_⟩; replace a3 := ak (Kd.S_below (xS a3.out) hb); replace a2 := ak (Kd.Q_below (xQ a2.out) hb); replace a1 := ak (blk_below (g := a6) (o := .cells #[.slice b2 a5.length b1, .slice b9 a4.length b0] 27 (0, 0)) (xb a1.out) hb); replace HB := ak (below_step zd_0 hb); (try clear hb); (try clear hb2); (try clear hk); (try clear hi); have b4 := cz20 a1.out; have b5 := cz21 a1.out; have b6 := blk_frozen a1.out 0; have b7 := blk_frozen a1.out 1) | (go_at_call 32; (with_reducible refine (impl_MadeBy.calls _ _ a5 _ _ a4 b8 h7 _ (y1 a3.out) (y2 a3.out) (y1 a2.out) (y2 a2.out) i6.out).mono ?_); rintro e w' ⟨rfl, hb⟩; replace a3 := ak (Kd.S_below (xS a3.out) hb); replace a2 := ak (Kd.Q_below (xQ a2.out) hb); replace a1 := ak (blk_below (g := a6) (o := .cells #[.slice b2 a5.length b1, .slice b9 a4.length b0] 27 (0, 0)) (xb a1.out) hb); replace HB := ak (below_step zd_0 hb); (try clear hb); (try clear hb2); (try clear hk); (try clear hi)))
      go_ret
      exact ⟨zd_2, zd_0⟩
     obtain rfl := Option.some.inj H
     have b4 := cz20 a1.out
     have b5 := cz21 a1.out
     have b6 := blk_frozen a1.out 0
     have b7 := blk_frozen a1.out 1
     go_wp2_with (first | ((with_reducible refine gate_callee (f := 34) rfl ?_); refine gl_ (some 52) Try.func34 #[.agg #[.slice b2 a5.length b1, .slice b9 a4.length b0], .int .i64 b8] ?_; (with_reducible refine (impl_SubOk.calls _ _ a5 _ _ a4 b8 true _ (y1 a3.out) (y2 a3.out) (y1 a2.out) (y2 a2.out) h6.out).mono ?_); rintro e w' ⟨rfl, hb⟩; refine ⟨_, rfl, ?_⟩; replace a3 := ak (Kd.S_below (xS a3.out) hb); replace a2 := ak (Kd.Q_below (xQ a2.out) hb); replace a1 := ak (blk_below (g := a6) (o := .cells #[.slice b2 a5.length b1, .slice b9 a4.length b0] 27 (0, 0)) (xb a1.out) hb); replace HB := ak (below_step zd_0 hb); (try clear hb); (try clear hb2); (try clear hk); (try clear hi)))
     go_ret
     exact ⟨zd_2, zd_0⟩
    obtain rfl := Option.some.inj H
    have b4 := cz20 a1.out
    have b5 := cz21 a1.out
    have b6 := blk_frozen a1.out 0
    have b7 := blk_frozen a1.out 1
    go_wp2_with (first | ((with_reducible refine gate_callee (f := 34) rfl ?_); refine gl_ (some 52) Try.func34 #[.agg #[.slice b2 a5.length b1, .slice b9 a4.length b0], .int .i64 b8] ?_; (with_reducible refine (impl_SubOk.calls _ _ a5 _ _ a4 b8 false _ (y1 a3.out) (y2 a3.out) (y1 a2.out) (y2 a2.out) h6.out).mono ?_); rintro e w' ⟨rfl, hb⟩; refine ⟨_, rfl, ?_⟩; replace a3 := ak (Kd.S_below (xS a3.out) hb); replace a2 := ak (Kd.Q_below (xQ a2.out) hb); replace a1 := ak (blk_below (g := a6) (o := .cells #[.slice b2 a5.length b1, .slice b9 a4.length b0] 27 (0, 0)) (xb a1.out) hb); replace HB := ak (below_step zd_0 hb); (try clear hb); (try clear hb2); (try clear hk); (try clear hi)))
    go_ret
    exact ⟨zd_2, zd_0⟩
 obtain rfl := Option.some.inj H
 go_enter Try.func6, Try.ntmps6
 go_wp2_with (first | ((with_reducible refine gate_callee (f := 31) rfl ?_); refine gl_ (some 12) Try.func31 #[.slice A0 l0.length c0] ?_; (with_reducible refine (spec_DrawMadeBy.calls k _ _ l0 a5 a4 b3 _ (y4 HR0.out) g2.out A3.out).mono ?_); rintro e w' ⟨e9, f0, rfl, ho0, ho1, hb⟩; refine ⟨_, rfl, ?_⟩; have a8 := ak (Kd.S_lower ho0 (below_size zd_1)); have a7 := ak (Kd.Q_lower ho1 (below_size zd_1)); replace HB := ak (below_step zd_1 hb); (try clear hb); (try clear hb2); (try clear hk); (try clear hi); (try clear ho0); (try clear ho1)) | ((with_reducible refine gate_dst (N := 3) rfl ?_); refine bx_ (N := 3) (cs := #[.slice none 0 0, .slice none 0 0]) (t := 27) ?_; intro a6 hg j4 hbox hb; replace a8 := ak (Kd.S_below (xS a8.out) hb); replace a7 := ak (Kd.Q_below (xQ a7.out) hb); have a1 := ak (hbox); have e6 := ak ((by rw [hg]; exact (below_size zd_1) : w.heap.size ≤ a6)); have e3 := ak ((by rw [hg]; exact (below_size zd_1) : w.heap.size ≤ a6)); replace HB := ak (below_step zd_1 hb); clear hb hbox hg; obtain ⟨e1, d5, h8⟩ := Kd.S_slice a8.out; subst h8; have b4 := cz20 a1.out; have b5 := cz21 a1.out; have b6 := blk_frozen a1.out 0; have b7 := blk_frozen a1.out 1; obtain ⟨e2, d6, h9, _⟩ := Kd.Q_slice a7.out; subst h9) | ((with_reducible refine gate_callee (f := 32) rfl ?_); refine gl_ (some 17) Try.func32 #[.agg #[.slice e1 a5.length d5, .slice e2 a4.length d6], .int .i64 b3] ?_; (with_reducible refine (impl_MadeBy.calls _ _ a5 _ _ a4 b3 b8 _ (by refine (Kd.S_reads' (e := 25) (base := w.heap.size) (ok := fun k_ => some k_ ≠ (.slice e2 a4.length d6 : Value).ownBlock) (n := a5.length) (c := d5) ?_).2.2; exact zd_3) (y2 a8.out) (by refine (Kd.Q_reads' (e := 3) (base := w.heap.size) (ok := fun k_ => True) (n := a4.length) (c := d6) ?_).2.2; exact zd_7) (y2 a7.out) A4.out).mono ?_); rintro e w' ⟨rfl, hb⟩; refine ⟨_, rfl, ?_⟩; replace a8 := ak (Kd.S_below zd_3 hb); replace a7 := ak (Kd.Q_below zd_7 hb); replace a1 := ak (blk_below (g := a6) (o := .cells #[.slice e1 a5.length d5, .slice e2 a4.length d6] 27 (0, 0)) (by (with_reducible repeat (first | refine blk_drewN ?_ _ | refine blk_drew ?_ | refine blk_alloc ?_ _)); refine blk_put (cs := #[.slice e1 a5.length d5, .slice none 0 0]) ?_ 1 _ rfl; (with_reducible repeat (first | refine blk_drewN ?_ _ | refine blk_drew ?_ | refine blk_alloc ?_ _)); refine blk_put (cs := #[.slice none 0 0, .slice none 0 0]) ?_ 0 _ rfl; (with_reducible repeat (first | refine blk_drewN ?_ _ | refine blk_drew ?_ | refine blk_alloc ?_ _)); exact a1.out) hb); replace HB := ak (below_step zd_0 hb); (try clear hb); (try clear hb2); (try clear hk); (try clear hi); have b4 := cz20 a1.out; have b5 := cz21 a1.out; have b6 := blk_frozen a1.out 0; have b7 := blk_frozen a1.out 1) | ((with_reducible refine gate_callee (f := 33) rfl ?_); refine gl_ (some 21) Try.func33 #[.agg #[.slice e1 a5.length d5, .slice e2 a4.length d6], .int .i64 b3] ?_; (with_reducible refine (spec_MadeBy.calls k _ _ a5 _ _ a4 b3 e4 _ (y1 a8.out) (y2 a8.out) (y1 a7.out) (y2 a7.out) A5.out).mono ?_); rintro e w' ⟨rfl, hb⟩; refine ⟨_, rfl, ?_⟩; replace a8 := ak (Kd.S_below (xS a8.out) hb); replace a7 := ak (Kd.Q_below (xQ a7.out) hb); replace a1 := ak (blk_below (g := a6) (o := .cells #[.slice e1 a5.length d5, .slice e2 a4.length d6] 27 (0, 0)) (xb a1.out) hb); replace HB := ak (below_step zd_0 hb); (try clear hb); (try clear hb2); (try clear hk); (try clear hi)))
 go_ret
 exact ⟨zd_2, zd_0⟩

theorem laws_FnMadeBy.walk (P : laws_FnMadeBy.Pure) (a0 : Option Addr) (len0 cap0 : Nat) (z0 : List Int) (w : World) (w0 : (a0 = none ∧ len0 = 0 ∧ cap0 = 0 ∧ z0 = []) ∨ ∃ x, a0 = some x ∧ len0 ≤ cap0 ∧ cap0 ≤ maxLen ∧ z0.length = cap0 ∧ (∀ i, i < z0.length → w.cell? (x.add i) = some (.int .u8 (z0.getD i 0))) ∧ ∀ n ∈ z0, (Lit.int .u8 n).wf = true) (y0 : len0 * 1 ≤ 140737488351232) :
 Calls Try.prog 6 #[.slice a0 len0 cap0] w fun e w' => e = .returned (.bool true) ∧ Below w.heap.size w w' := by
 obtain ⟨l0, rfl, hr0, hm0, hw0, hc0⟩ := ReadsInt.ofRowC w0
 obtain ⟨k, h⟩ := P l0 hm0 y0 hw0
 refine (laws_FnMadeBy.calls k _ _ l0 true w (Kd.C_of_reads (d := (0 : Int)) (h1 := fun _ => rfl) hr0) hc0 h).mono ?_
 rintro e w' ⟨rfl, hd⟩
 exact ⟨rfl, hd⟩

end Go.Proofs.Ytacifhahfamipaa.P
