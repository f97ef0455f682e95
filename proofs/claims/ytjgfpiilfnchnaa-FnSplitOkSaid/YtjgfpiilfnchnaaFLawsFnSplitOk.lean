-- written by gen.py (a program of this session) out of the kit's print of this seat's translation
import Derived.Test.YtjgfpiilfnchnaaPk2
import Derived.Test.YtjgfpiilfnchnaaFLawsAlive
import Derived.Test.YtjgfpiilfnchnaaFSpecAndOf
import Derived.Test.YtjgfpiilfnchnaaFSpecDrawSplitOk
import Derived.Test.YtjgfpiilfnchnaaFSpecKeepsOk
import Derived.Test.YtjgfpiilfnchnaaPk4
import Derived.Test.YtjgfpiilfnchnaaFSpecSplitOk
import Derived.Test.YtjgfpiilfnchnaaV3
namespace Go.Proofs.Ytjgfpiilfnchnaa.P
open Go.RowKit Go.Proofs.YtjgfpiilfnchnaaW.PrintWords Go.Proofs.YtjgfpiilfnchnaaW.PrintLast Go.Proofs.YtjgfpiilfnchnaaW.PrintMore
attribute [local go_sem] max2_int min2_int max_two min_two max_three min_three max_four min_four
set_option linter.unusedVariables false
set_option linter.unusedSimpArgs false
theorem zj_6 {p : Prop} (h : p := by (with_reducible repeat (first | apply Kd.Q_alloc | apply Kd.Q_drewN | apply Kd.Q_drew)); exact (Kd.Q_mono (Kd.Q_far (p := ⟨a8, 1, none⟩) (Kd.Q_far (p := ⟨a8, 0, none⟩) (Kd.Q_types b8.out a3.out (by decide)) (fun _ hk => hk.2) (.slice f6 a5.length f3)) (fun _ hk => hk.2) (.slice d9 a4.length d5)) (fun _ h_ => h_.1))) : p := h
theorem zj_5 {p : Prop} (h : p := by (with_reducible repeat (first | apply Kd.S_alloc | apply Kd.S_drewN | apply Kd.S_drew)); exact (Kd.S_mono (Kd.S_far (p := ⟨a8, 1, none⟩) (Kd.S_far (p := ⟨a8, 0, none⟩) (Kd.S_types b9.out a3.out (by decide)) (fun _ hk => hk.2) (.slice f6 a5.length f3)) (fun _ hk => hk.2) (.slice d9 a4.length d5)) (fun _ h_ => h_.1))) : p := h
theorem zj_4 {p : Prop} (h : p := by (with_reducible repeat (first | apply Kd.Q_alloc | apply Kd.Q_drewN | apply Kd.Q_drew)); exact (Kd.Q_mono (Kd.Q_far (p := ⟨a8, 1, none⟩) (Kd.Q_far (p := ⟨a8, 0, none⟩) (Kd.Q_types b8.out a3.out (by decide)) (fun _ hk => hk.2) (.slice b2 a5.length b0)) (fun _ hk => hk.2) (.slice b1 a4.length a9)) (fun _ h_ => h_.1))) : p := h
theorem zj_3 {p : Prop} (h : p := by (with_reducible repeat (first | apply Kd.S_alloc | apply Kd.S_drewN | apply Kd.S_drew)); exact (Kd.S_mono (Kd.S_far (p := ⟨a8, 1, none⟩) (Kd.S_far (p := ⟨a8, 0, none⟩) (Kd.S_types b9.out a3.out (by decide)) (fun _ hk => hk.2) (.slice b2 a5.length b0)) (fun _ hk => hk.2) (.slice b1 a4.length a9)) (fun _ h_ => h_.1))) : p := h
theorem zj_2 {p : Prop} (h : p := by repeat (first | (with_reducible first | exact HB.out | apply below_alloc | apply pw_below_drewN | apply below_drew1) | exact HB.out)) : p := h
theorem zj_1 {p : Prop} (h : p := by first | rfl | (simp [errW_none, errW_some] <;> rfl) | (simp [*, errW_none, errW_some] <;> rfl)) : p := h
theorem zj_0 {p : Prop} (h : p := by repeat (first | (with_reducible first | exact HB.out | apply below_alloc | apply pw_below_drewN | apply below_drew1 | refine below_set ?_ f4.out) | exact HB.out)) : p := h
set_option maxHeartbeats 8000000 in
set_option maxRecDepth 100000 in
theorem laws_FnSplitOk.calls (k : Nat) (A0 : Option Addr) (c0 : Nat) (l0 : List Int) (r : Bool) (w : World) (hr0 : Kd.C (Kd.int .u8) w A0 l0.length l0) (hc0 : l0.length ≤ c0) (h : laws_FnSplitOk.f k l0 = some r) :
 Calls Try.prog 12 #[.slice A0 l0.length c0] w fun e w' => e = .returned (.bool r) ∧ Below w.heap.size w w' := by
 have hu26 := Try.underlying26
 have HR0 := ak hr0
 have j3 := ak hc0
 clear hr0 hc0
 have HB := ak (Below.refl w.heap.size w)
 have H : (if (l0.length : Int) > 1048576 then (some true) else ((spec_DrawSplitOk.f k l0).bind fun d0 => ((impl_SplitOk.f d0.1 d0.2.1 d0.2.2.1 d0.2.2.2.1 d0.2.2.2.2).bind fun d1 => ((spec_SplitOk.f k d0.1 d0.2.1 d0.2.2.1 d0.2.2.2.1 d0.2.2.2.2).bind fun d4 => (if (d1 != d4) = true then (some false) else ((spec_KeepsOk.f k d0.1 d0.2.1).bind fun f8 => (if f8 = true then ((spec_AndOf.f k d0.1 d0.2.1 d0.2.2.1 d0.2.2.2.1).bind fun e7 => (if e7 < 0 then (laws_FnSplitOk.j0 k d0.2.2.1 d0.2.2.2.1 d0.2.2.2.2 d1 true d0.1 d0.2.1) else ((spec_AndOf.f k d0.1 d0.2.1 d0.2.2.1 d0.2.2.2.2).bind fun e8 => (laws_FnSplitOk.j0 k d0.2.2.1 d0.2.2.2.1 d0.2.2.2.2 d1 (decide (e8 < 0)) d0.1 d0.2.1)))) else (laws_FnSplitOk.j0 k d0.2.2.1 d0.2.2.2.1 d0.2.2.2.2 d1 true d0.1 d0.2.1)))))))) = some r := h
 clear h
 replace H := op_ H
 rcases H with ⟨c2, H⟩ | ⟨c2, H⟩
 ·
  have f9 : decide (1048576 < (l0.length : Int)) = true := dT_ c2
  have g0 : decide (1048576 < l0.length) = true := dT_ (by omega)
  clear c2
  obtain rfl := Option.some.inj H
  go_enter Try.func12, Try.ntmps12
  go_wp2
  go_ret
  exact ⟨zj_1, zj_2⟩
 have f9 : decide (1048576 < (l0.length : Int)) = false := dF_ c2
 have g0 : decide (1048576 < l0.length) = false := dF_ (by omega)
 clear c2
 replace H := bd_ H
 obtain ⟨⟨a5, a4, a6, a7, b7⟩, A3, H⟩ := H
 try dsimp only at H
 replace H := bd_ H
 obtain ⟨d1, A4, H⟩ := H
 replace H := bd_ H
 obtain ⟨d4, A5, H⟩ := H
 try dsimp only at H
 replace H := op_ H
 rcases H with ⟨c6, H⟩ | ⟨c6, H⟩
 ·
  have g1 : (d1 != d4) = true := c6
  (try (have g2 : decide (d1 = d4) = false := by simpa using c6))
  (try (have g3 : (d1 == d4) = false := by simpa using c6))
  (try (have j7 : ¬ (d1 = d4) := by simpa using c6))
  clear c6
  obtain rfl := Option.some.inj H
  go_enter Try.func12, Try.ntmps12
  go_wp2_with (first | ((with_reducible refine gate_callee (f := 47) rfl ?_); refine gl_ (some 14) Try.func47 #[.slice A0 l0.length c0] ?_; (with_reducible refine (spec_DrawSplitOk.calls k _ _ l0 a5 a4 a6 a7 b7 _ (y4 HR0.out) j3.out A3.out).mono ?_); rintro e w' ⟨h0, h2, rfl, ho0, ho1, hb⟩; refine ⟨_, rfl, ?_⟩; have b9 := ak (Kd.S_lower ho0 (below_size zj_2)); have b8 := ak (Kd.Q_lower ho1 (below_size zj_2)); replace HB := ak (below_step zj_2 hb); (try clear hb); (try clear hb2); (try clear hk); (try clear hi); (try clear ho0); (try clear ho1)) | ((with_reducible refine gate_dst (N := 3) rfl ?_); refine bx_ (N := 3) (cs := #[.slice none 0 0, .slice none 0 0]) (t := 26) ?_; intro a8 hg w8 hbox hb; replace b9 := ak (Kd.S_below (xS b9.out) hb); replace b8 := ak (Kd.Q_below (xQ b8.out) hb); have a3 := ak (hbox); have g4 := ak ((by rw [hg]; exact (below_size zj_2) : w.heap.size ≤ a8)); have f4 := ak ((by rw [hg]; exact (below_size zj_2) : w.heap.size ≤ a8)); replace HB := ak (below_step zj_2 hb); clear hb hbox hg; obtain ⟨f6, f3, j8⟩ := Kd.S_slice b9.out; subst j8; have b3 := cz20 a3.out; have b4 := cz21 a3.out; have b5 := blk_frozen a3.out 0; have b6 := blk_frozen a3.out 1; obtain ⟨d9, d5, h3, _⟩ := Kd.Q_slice b8.out; subst h3) | ((with_reducible refine gate_callee (f := 48) rfl ?_); refine gl_ (some 23) Try.func48 #[.agg #[.slice f6 a5.length f3, .slice d9 a4.length d5], .int .i64 a6, .int .i64 a7, .int .i64 b7] ?_; (with_reducible refine (impl_SplitOk.calls _ _ a5 _ _ a4 a6 a7 b7 d1 _ (by refine (Kd.S_reads' (e := 24) (base := w.heap.size) (ok := fun k_ => some k_ ≠ (.slice d9 a4.length d5 : Value).ownBlock) (n := a5.length) (c := f3) ?_).2.2; exact zj_5) (y2 b9.out) (by refine (Kd.Q_reads' (e := 3) (base := w.heap.size) (ok := fun k_ => True) (n := a4.length) (c := d5) ?_).2.2; exact zj_6) (y2 b8.out) A4.out).mono ?_); rintro e w' ⟨rfl, hb⟩; refine ⟨_, rfl, ?_⟩; replace b9 := ak (Kd.S_below zj_5 hb); replace b8 := ak (Kd.Q_below zj_6 hb); replace a3 := ak (blk_below (g := a8) (o := .cells #[.slice f6 a5.length f3, .slice d9 a4.length d5] 26 (0, 0)) (by (with_reducible repeat (first | refine blk_drewN ?_ _ | refine blk_drew ?_ | refine blk_alloc ?_ _)); refine blk_put (cs := #[.slice f6 a5.length f3, .slice none 0 0]) ?_ 1 _ rfl; (with_reducible repeat (first | refine blk_drewN ?_ _ | refine blk_drew ?_ | refine blk_alloc ?_ _)); refine blk_put (cs := #[.slice none 0 0, .slice none 0 0]) ?_ 0 _ rfl; (with_reducible repeat (first | refine blk_drewN ?_ _ | refine blk_drew ?_ | refine blk_alloc ?_ _)); exact a3.out) hb); replace HB := ak (below_step zj_0 hb); (try clear hb); (try clear hb2); (try clear hk); (try clear hi); have b3 := cz20 a3.out; have b4 := cz21 a3.out; have b5 := blk_frozen a3.out 0; have b6 := blk_frozen a3.out 1) | ((with_reducible refine gate_callee (f := 49) rfl ?_); refine gl_ (some 29) Try.func49 #[.agg #[.slice f6 a5.length f3, .slice d9 a4.length d5], .int .i64 a6, .int .i64 a7, .int .i64 b7] ?_; (with_reducible refine (spec_SplitOk.calls k _ _ a5 _ _ a4 a6 a7 b7 d4 _ (y1 b9.out) (y2 b9.out) (y1 b8.out) (y2 b8.out) A5.out).mono ?_); rintro e w' ⟨rfl, hb⟩; refine ⟨_, rfl, ?_⟩; replace b9 := ak (Kd.S_below (xS b9.out) hb); replace b8 := ak (Kd.Q_below (xQ b8.out) hb); replace a3 := ak (blk_below (g := a8) (o := .cells #[.slice f6 a5.length f3, .slice d9 a4.length d5] 26 (0, 0)) (xb a3.out) hb); replace HB := ak (below_step zj_0 hb); (try clear hb); (try clear hb2); (try clear hk); (try clear hi)))
  go_ret
  exact ⟨zj_1, zj_0⟩
 have g1 : (d1 != d4) = false := by simpa using c6
 (try (have g2 : decide (d1 = d4) = true := by simpa using c6))
 (try (have g3 : (d1 == d4) = true := by simpa using c6))
 clear c6
 have f7 := ak H
 clear H
 go_enter Try.func12, Try.ntmps12
 go_upto_region 7 with (first | ((with_reducible refine gate_callee (f := 47) rfl ?_); refine gl_ (some 14) Try.func47 #[.slice A0 l0.length c0] ?_; (with_reducible refine (spec_DrawSplitOk.calls k _ _ l0 a5 a4 a6 a7 b7 _ (y4 HR0.out) j3.out A3.out).mono ?_); rintro e w' ⟨h0, h2, rfl, ho0, ho1, hb⟩; refine ⟨_, rfl, ?_⟩; have b9 := ak (Kd.S_lower ho0 (below_size zj_2)); have b8 := ak (Kd.Q_lower ho1 (below_size zj_2)); replace HB := ak (below_step zj_2 hb); (try clear hb); (try clear hb2); (try clear hk); (try clear hi); (try clear ho0); (try clear ho1)) | ((with_reducible refine gate_dst (N := 3) rfl ?_); refine bx_ (N := 3) (cs := #[.slice none 0 0, .slice none 0 0]) (t := 26) ?_; intro a8 hg m9 hbox hb; replace b9 := ak (Kd.S_below (xS b9.out) hb); replace b8 := ak (Kd.Q_below (xQ b8.out) hb); have a3 := ak (hbox); have g4 := ak ((by rw [hg]; exact (below_size zj_2) : w.heap.size ≤ a8)); have f4 := ak ((by rw [hg]; exact (below_size zj_2) : w.heap.size ≤ a8)); replace HB := ak (below_step zj_2 hb); clear hb hbox hg; obtain ⟨b2, b0, h4⟩ := Kd.S_slice b9.out; subst h4; have b3 := cz20 a3.out; have b4 := cz21 a3.out; have b5 := blk_frozen a3.out 0; have b6 := blk_frozen a3.out 1; obtain ⟨b1, a9, h5, _⟩ := Kd.Q_slice b8.out; subst h5) | ((with_reducible refine gate_callee (f := 48) rfl ?_); refine gl_ (some 23) Try.func48 #[.agg #[.slice b2 a5.length b0, .slice b1 a4.length a9], .int .i64 a6, .int .i64 a7, .int .i64 b7] ?_; (with_reducible refine (impl_SplitOk.calls _ _ a5 _ _ a4 a6 a7 b7 d1 _ (by refine (Kd.S_reads' (e := 24) (base := w.heap.size) (ok := fun k_ => some k_ ≠ (.slice b1 a4.length a9 : Value).ownBlock) (n := a5.length) (c := b0) ?_).2.2; exact zj_3) (y2 b9.out) (by refine (Kd.Q_reads' (e := 3) (base := w.heap.size) (ok := fun k_ => True) (n := a4.length) (c := a9) ?_).2.2; exact zj_4) (y2 b8.out) A4.out).mono ?_); rintro e w' ⟨rfl, hb⟩; refine ⟨_, rfl, ?_⟩; replace b9 := ak (Kd.S_below zj_3 hb); replace b8 := ak (Kd.Q_below zj_4 hb); replace a3 := ak (blk_below (g := a8) (o := .cells #[.slice b2 a5.length b0, .slice b1 a4.length a9] 26 (0, 0)) (by (with_reducible repeat (first | refine blk_drewN ?_ _ | refine blk_drew ?_ | refine blk_alloc ?_ _)); refine blk_put (cs := #[.slice b2 a5.length b0, .slice none 0 0]) ?_ 1 _ rfl; (with_reducible repeat (first | refine blk_drewN ?_ _ | refine blk_drew ?_ | refine blk_alloc ?_ _)); refine blk_put (cs := #[.slice none 0 0, .slice none 0 0]) ?_ 0 _ rfl; (with_reducible repeat (first | refine blk_drewN ?_ _ | refine blk_drew ?_ | refine blk_alloc ?_ _)); exact a3.out) hb); replace HB := ak (below_step zj_0 hb); (try clear hb); (try clear hb2); (try clear hk); (try clear hi); have b3 := cz20 a3.out; have b4 := cz21 a3.out; have b5 := blk_frozen a3.out 0; have b6 := blk_frozen a3.out 1) | ((with_reducible refine gate_callee (f := 49) rfl ?_); refine gl_ (some 29) Try.func49 #[.agg #[.slice b2 a5.length b0, .slice b1 a4.length a9], .int .i64 a6, .int .i64 a7, .int .i64 b7] ?_; (with_reducible refine (spec_SplitOk.calls k _ _ a5 _ _ a4 a6 a7 b7 d4 _ (y1 b9.out) (y2 b9.out) (y1 b8.out) (y2 b8.out) A5.out).mono ?_); rintro e w' ⟨rfl, hb⟩; refine ⟨_, rfl, ?_⟩; replace b9 := ak (Kd.S_below (xS b9.out) hb); replace b8 := ak (Kd.Q_below (xQ b8.out) hb); replace a3 := ak (blk_below (g := a8) (o := .cells #[.slice b2 a5.length b0, .slice b1 a4.length a9] 26 (0, 0)) (xb a3.out) hb); replace HB := ak (below_step zj_0 hb); (try clear hb); (try clear hb2); (try clear hk); (try clear hi)))
 (try simp only [Act.put, List.setIfInBounds_toArray, List.set_cons_zero, List.set_cons_succ])
 go_cut [47] (fun j9 wc => ∃ (kq : Nat) (e0 : Bool), j9 = .bool e0 ∧ Aside0 (laws_FnSplitOk.j0 kq a6 a7 b7 d1 e0 a5 a4 = some r) ∧ Aside0 (kq ≤ k) ∧ Aside0 (Kd.S (Kd.slice 3 (Kd.int .i64)) 24 wc w.heap.size (fun k_ => some k_ ≠ ((.slice b1 a4.length a9) : Value).ownBlock) (.slice b2 a5.length b0) a5) ∧ Aside0 (Kd.Q (Kd.int .i64) 3 wc w.heap.size (fun _ => True) (.slice b1 a4.length a9) a4) ∧ Aside0 (wc.heap[a8]? = some (.cells #[(.slice b2 a5.length b0), (.slice b1 a4.length a9)] 26 (0, 0))) ∧ Aside0 (Below w.heap.size w wc))
 case first =>
  have H := f7.out
  clear f7
  replace H := bd_ H
  obtain ⟨f8, h6, H⟩ := H
  try dsimp only at H
  replace H := ox_ H
  rcases H with ⟨rfl, H⟩ | ⟨rfl, H⟩
  ·
   replace H := bd_ H
   obtain ⟨e7, j4, H⟩ := H
   try dsimp only at H
   replace H := os_ H
   rcases H with ⟨d6, H⟩ | ⟨d6, H⟩
   ·
    (first | rw [d6] | (simp only [i64_w, i32_w]; rw [d6]) | skip)
    have H' := ak H
    clear H
    have b3 := cz20 a3.out
    have b4 := cz21 a3.out
    have b5 := blk_frozen a3.out 0
    have b6 := blk_frozen a3.out 1
    go_wp2_with (first | ((with_reducible refine gate_callee (f := 50) rfl ?_); refine gl_ (some 32) Try.func50 #[.agg #[.slice b2 a5.length b0, .slice b1 a4.length a9]] ?_; (with_reducible refine (spec_KeepsOk.calls k _ _ a5 _ _ a4 true _ (y1 b9.out) (y2 b9.out) (y1 b8.out) (y2 b8.out) h6.out).mono ?_); rintro e w' ⟨rfl, hb⟩; refine ⟨_, rfl, ?_⟩; replace b9 := ak (Kd.S_below (xS b9.out) hb); replace b8 := ak (Kd.Q_below (xQ b8.out) hb); replace a3 := ak (blk_below (g := a8) (o := .cells #[.slice b2 a5.length b0, .slice b1 a4.length a9] 26 (0, 0)) (xb a3.out) hb); replace HB := ak (below_step zj_0 hb); (try clear hb); (try clear hb2); (try clear hk); (try clear hi); have b3 := cz20 a3.out; have b4 := cz21 a3.out; have b5 := blk_frozen a3.out 0; have b6 := blk_frozen a3.out 1) | (go_at_call 28; (with_reducible refine (spec_AndOf.calls k _ _ a5 _ _ a4 a6 a7 e7 _ (y1 b9.out) (y2 b9.out) (y1 b8.out) (y2 b8.out) j4.out).mono ?_); rintro e w' ⟨rfl, hb⟩; replace b9 := ak (Kd.S_below (xS b9.out) hb); replace b8 := ak (Kd.Q_below (xQ b8.out) hb); replace a3 := ak (blk_below (g := a8) (o := .cells #[.slice b2 a5.length b0, .slice b1 a4.length a9] 26 (0, 0)) (xb a3.out) hb); replace HB := ak (below_step zj_0 hb); (try clear hb); (try clear hb2); (try clear hk); (try clear hi)))
    go_meet
    case rel => exact ⟨_, (true), (by first | rfl | (simp; done) | (simp [*]; done)), H', ⟨(by first | omega | exact Nat.le_refl _)⟩, ⟨(xS b9.out)⟩, ⟨(xQ b8.out)⟩, ⟨(xb a3.out)⟩, ⟨zj_0⟩⟩
   (first | rw [d6] | (simp only [i64_w, i32_w]; rw [d6]) | skip)
   replace H := bd_ H
   obtain ⟨e8, k0, H⟩ := H
   try dsimp only at H
   have H' := ak H
   clear H
   have b3 := cz20 a3.out
   have b4 := cz21 a3.out
   have b5 := blk_frozen a3.out 0
   have b6 := blk_frozen a3.out 1
   go_wp2_with (first | ((first | ((with_reducible refine gate_callee (f := 50) rfl ?_); refine gl_ (some 32) Try.func50 #[.agg #[.slice b2 a5.length b0, .slice b1 a4.length a9]] ?_; (with_reducible refine (spec_KeepsOk.calls k _ _ a5 _ _ a4 true _ (y1 b9.out) (y2 b9.out) (y1 b8.out) (y2 b8.out) h6.out).mono ?_); rintro e w' ⟨rfl, hb⟩; refine ⟨_, rfl, ?_⟩) | (go_at_call 28; (with_reducible refine (spec_AndOf.calls k _ _ a5 _ _ a4 a6 a7 e7 _ (y1 b9.out) (y2 b9.out) (y1 b8.out) (y2 b8.out) j4.out).mono ?_); rintro e w' ⟨rfl, hb⟩)); replace b9 := ak (Kd.S_below (xS b9.out) hb); replace b8 := ak (Kd.Q_below (xQ b8.out) hb); replace a3 := ak (blk_below (g := a8) (o := .cells #[.slice b2 a5.length b0, .slice b1 a4.length a9] 26 (0, 0)) (xb a3.out) hb); replace HB := ak (below_step zj_0 hb); (try clear hb); (try clear hb2); (try clear hk); (try clear hi); have b3 := cz20 a3.out; have b4 := cz21 a3.out; have b5 := blk_frozen a3.out 0; have b6 := blk_frozen a3.out 1) | (go_at_call 28; (with_reducible refine (spec_AndOf.calls k _ _ a5 _ _ a4 a6 b7 e8 _ (y1 b9.out) (y2 b9.out) (y1 b8.out) (y2 b8.out) k0.out).mono ?_); rintro e w' ⟨rfl, hb⟩; replace b9 := ak (Kd.S_below (xS b9.out) hb); replace b8 := ak (Kd.Q_below (xQ b8.out) hb); replace a3 := ak (blk_below (g := a8) (o := .cells #[.slice b2 a5.length b0, .slice b1 a4.length a9] 26 (0, 0)) (xb a3.out) hb); replace HB := ak (below_step zj_0 hb); (try clear hb); (try clear hb2); (try clear hk); (try clear hi)))
   go_meet
   case rel => exact ⟨_, (decide (e8 < 0)), (by first | rfl | (simp; done) | (simp [*]; done)), H', ⟨(by first | omega | exact Nat.le_refl _)⟩, ⟨(xS b9.out)⟩, ⟨(xQ b8.out)⟩, ⟨(xb a3.out)⟩, ⟨zj_0⟩⟩
  have H' := ak H
  clear H
  have b3 := cz20 a3.out
  have b4 := cz21 a3.out
  have b5 := blk_frozen a3.out 0
  have b6 := blk_frozen a3.out 1
  go_wp2_with (first | ((with_reducible refine gate_callee (f := 50) rfl ?_); refine gl_ (some 32) Try.func50 #[.agg #[.slice b2 a5.length b0, .slice b1 a4.length a9]] ?_; (with_reducible refine (spec_KeepsOk.calls k _ _ a5 _ _ a4 false _ (y1 b9.out) (y2 b9.out) (y1 b8.out) (y2 b8.out) h6.out).mono ?_); rintro e w' ⟨rfl, hb⟩; refine ⟨_, rfl, ?_⟩; replace b9 := ak (Kd.S_below (xS b9.out) hb); replace b8 := ak (Kd.Q_below (xQ b8.out) hb); replace a3 := ak (blk_below (g := a8) (o := .cells #[.slice b2 a5.length b0, .slice b1 a4.length a9] 26 (0, 0)) (xb a3.out) hb); replace HB := ak (below_step zj_0 hb); (try clear hb); (try clear hb2); (try clear hk); (try clear hi)))
  go_meet
  case rel => exact ⟨_, (true), (by first | rfl | (simp; done) | (simp [*]; done)), H', ⟨(by first | omega | exact Nat.le_refl _)⟩, ⟨(xS b9.out)⟩, ⟨(xQ b8.out)⟩, ⟨(xb a3.out)⟩, ⟨zj_0⟩⟩
 case rest =>
  clear f7
  try clear c2
  try clear f9
  try clear g0
  try clear c6
  try clear g1
  try clear g2
  try clear g3
  try clear b3
  try clear b4
  try clear b5
  try clear b6
  obtain ⟨kq, e0, rfl, HA, k1, a1, a2, a3, HB⟩ := hcut
  cases kq with
  | zero => exact absurd HA.out (by simp [laws_FnSplitOk.j0])
  | succ e2 =>
   have H := HA.out
   clear HA
   simp only [laws_FnSplitOk.j0] at H
   replace H := ox_ H
   rcases H with ⟨rfl, H⟩ | ⟨rfl, H⟩
   ·
    replace H := bd_ H
    obtain ⟨k2, h7, H⟩ := H
    try dsimp only at H
    replace H := ox_ H
    rcases H with ⟨rfl, H⟩ | ⟨rfl, H⟩
    ·
     replace H := bd_ H
     obtain ⟨h8, k3, H⟩ := H
     try dsimp only at H
     obtain rfl := Option.some.inj H
     have b3 := cz20 a3.out
     have b4 := cz21 a3.out
     have b5 := blk_frozen a3.out 0
     have b6 := blk_frozen a3.out 1
     go_wp2_with (first | ((first | ((with_reducible refine gate_callee (f := 16) rfl ?_); refine gl_ (some 49) Try.func16 #[.agg #[.slice b2 a5.length b0, .slice b1 a4.length a9]] ?_; (with_reducible refine (spec_LogicOk.calls e2 _ _ a5 _ _ a4 true _ (y1 a1.out) (y2 a1.out) (y1 a2.out) (y2 a2.out) h7.out).mono ?_); rintro e w' ⟨rfl, hb⟩; refine ⟨_, rfl, ?_⟩) | (go_at_call 17; (with_reducible refine (laws_alive.calls e2  h8 _ k3.out).mono ?_); rintro e w' ⟨rfl, hb⟩)); replace a1 := ak (Kd.S_below (xS a1.out) hb); replace a2 := ak (Kd.Q_below (xQ a2.out) hb); replace a3 := ak (blk_below (g := a8) (o := .cells #[.slice b2 a5.length b0, .slice b1 a4.length a9] 26 (0, 0)) (xb a3.out) hb); replace HB := ak (below_step zj_0 hb); (try clear hb); (try clear hb2); (try clear hk); (try clear hi)))
     go_ret
     exact ⟨zj_1, zj_0⟩
    replace H := ox_ H
    rcases H with ⟨rfl, H⟩ | ⟨rfl, H⟩
    ·
     obtain rfl := Option.some.inj H
     have b3 := cz20 a3.out
     have b4 := cz21 a3.out
     have b5 := blk_frozen a3.out 0
     have b6 := blk_frozen a3.out 1
     go_wp2_with (first | ((with_reducible refine gate_callee (f := 16) rfl ?_); refine gl_ (some 49) Try.func16 #[.agg #[.slice b2 a5.length b0, .slice b1 a4.length a9]] ?_; (with_reducible refine (spec_LogicOk.calls e2 _ _ a5 _ _ a4 false _ (y1 a1.out) (y2 a1.out) (y1 a2.out) (y2 a2.out) h7.out).mono ?_); rintro e w' ⟨rfl, hb⟩; refine ⟨_, rfl, ?_⟩; replace a1 := ak (Kd.S_below (xS a1.out) hb); replace a2 := ak (Kd.Q_below (xQ a2.out) hb); replace a3 := ak (blk_below (g := a8) (o := .cells #[.slice b2 a5.length b0, .slice b1 a4.length a9] 26 (0, 0)) (xb a3.out) hb); replace HB := ak (below_step zj_0 hb); (try clear hb); (try clear hb2); (try clear hk); (try clear hi)))
     go_ret
     exact ⟨zj_1, zj_0⟩
    replace H := bd_ H
    obtain ⟨h9, k4, H⟩ := H
    try dsimp only at H
    obtain rfl := Option.some.inj H
    have b3 := cz20 a3.out
    have b4 := cz21 a3.out
    have b5 := blk_frozen a3.out 0
    have b6 := blk_frozen a3.out 1
    go_wp2_with (first | ((first | ((with_reducible refine gate_callee (f := 16) rfl ?_); refine gl_ (some 49) Try.func16 #[.agg #[.slice b2 a5.length b0, .slice b1 a4.length a9]] ?_; (with_reducible refine (spec_LogicOk.calls e2 _ _ a5 _ _ a4 false _ (y1 a1.out) (y2 a1.out) (y1 a2.out) (y2 a2.out) h7.out).mono ?_); rintro e w' ⟨rfl, hb⟩; refine ⟨_, rfl, ?_⟩) | (go_at_call 17; (with_reducible refine (laws_alive.calls e2  h9 _ k4.out).mono ?_); rintro e w' ⟨rfl, hb⟩)); replace a1 := ak (Kd.S_below (xS a1.out) hb); replace a2 := ak (Kd.Q_below (xQ a2.out) hb); replace a3 := ak (blk_below (g := a8) (o := .cells #[.slice b2 a5.length b0, .slice b1 a4.length a9] 26 (0, 0)) (xb a3.out) hb); replace HB := ak (below_step zj_0 hb); (try clear hb); (try clear hb2); (try clear hk); (try clear hi)))
    go_ret
    exact ⟨zj_1, zj_0⟩
   replace H := bd_ H
   obtain ⟨k5, d2, H⟩ := H
   try dsimp only at H
   replace H := ox_ H
   rcases H with ⟨rfl, H⟩ | ⟨rfl, H⟩
   ·
    replace H := bd_ H
    obtain ⟨k6, d8, H⟩ := H
    try dsimp only at H
    replace H := ox_ H
    rcases H with ⟨rfl, H⟩ | ⟨rfl, H⟩
    ·
     replace H := ox_ H
     rcases H with ⟨rfl, H⟩ | ⟨rfl, H⟩
     ·
      replace H := bd_ H
      obtain ⟨k7, j5, H⟩ := H
      try dsimp only at H
      replace H := ox_ H
      rcases H with ⟨rfl, H⟩ | ⟨rfl, H⟩
      ·
       replace H := bd_ H
       obtain ⟨i0, k8, H⟩ := H
       try dsimp only at H
       obtain rfl := Option.some.inj H
       have b3 := cz20 a3.out
       have b4 := cz21 a3.out
       have b5 := blk_frozen a3.out 0
       have b6 := blk_frozen a3.out 1
       go_wp2_with (first | ((first | ((with_reducible refine gate_callee (f := 45) rfl ?_); refine gl_ (some 60) Try.func45 #[.agg #[.slice b2 a5.length b0, .slice b1 a4.length a9], .int .i64 a6, .int .i64 a7] ?_; (with_reducible refine (impl_WithOk.calls _ _ a5 _ _ a4 a6 a7 true _ (y1 a1.out) (y2 a1.out) (y1 a2.out) (y2 a2.out) d2.out).mono ?_); rintro e w' ⟨rfl, hb⟩; refine ⟨_, rfl, ?_⟩) | (go_at_call 45; (with_reducible refine (impl_WithOk.calls _ _ a5 _ _ a4 a6 b7 true _ (y1 a1.out) (y2 a1.out) (y1 a2.out) (y2 a2.out) d8.out).mono ?_); rintro e w' ⟨rfl, hb⟩) | (go_at_call 48; (with_reducible refine (impl_SplitOk.calls _ _ a5 _ _ a4 a7 a6 b7 true _ (y1 a1.out) (y2 a1.out) (y1 a2.out) (y2 a2.out) j5.out).mono ?_); rintro e w' ⟨rfl, hb⟩)); replace a1 := ak (Kd.S_below (xS a1.out) hb); replace a2 := ak (Kd.Q_below (xQ a2.out) hb); replace a3 := ak (blk_below (g := a8) (o := .cells #[.slice b2 a5.length b0, .slice b1 a4.length a9] 26 (0, 0)) (xb a3.out) hb); replace HB := ak (below_step zj_0 hb); (try clear hb); (try clear hb2); (try clear hk); (try clear hi); have b3 := cz20 a3.out; have b4 := cz21 a3.out; have b5 := blk_frozen a3.out 0; have b6 := blk_frozen a3.out 1) | (go_at_call 48; (with_reducible refine (impl_SplitOk.calls _ _ a5 _ _ a4 b7 a6 a7 i0 _ (y1 a1.out) (y2 a1.out) (y1 a2.out) (y2 a2.out) k8.out).mono ?_); rintro e w' ⟨rfl, hb⟩; replace a1 := ak (Kd.S_below (xS a1.out) hb); replace a2 := ak (Kd.Q_below (xQ a2.out) hb); replace a3 := ak (blk_below (g := a8) (o := .cells #[.slice b2 a5.length b0, .slice b1 a4.length a9] 26 (0, 0)) (xb a3.out) hb); replace HB := ak (below_step zj_0 hb); (try clear hb); (try clear hb2); (try clear hk); (try clear hi)))
       go_ret
       exact ⟨zj_1, zj_0⟩
      obtain rfl := Option.some.inj H
      have b3 := cz20 a3.out
      have b4 := cz21 a3.out
      have b5 := blk_frozen a3.out 0
      have b6 := blk_frozen a3.out 1
      go_wp2_with (first | ((first | ((with_reducible refine gate_callee (f := 45) rfl ?_); refine gl_ (some 60) Try.func45 #[.agg #[.slice b2 a5.length b0, .slice b1 a4.length a9], .int .i64 a6, .int .i64 a7] ?_; (with_reducible refine (impl_WithOk.calls _ _ a5 _ _ a4 a6 a7 true _ (y1 a1.out) (y2 a1.out) (y1 a2.out) (y2 a2.out) d2.out).mono ?_); rintro e w' ⟨rfl, hb⟩; refine ⟨_, rfl, ?_⟩) | (go_at_call 45; (with_reducible refine (impl_WithOk.calls _ _ a5 _ _ a4 a6 b7 true _ (y1 a1.out) (y2 a1.out) (y1 a2.out) (y2 a2.out) d8.out).mono ?_); rintro e w' ⟨rfl, hb⟩)); replace a1 := ak (Kd.S_below (xS a1.out) hb); replace a2 := ak (Kd.Q_below (xQ a2.out) hb); replace a3 := ak (blk_below (g := a8) (o := .cells #[.slice b2 a5.length b0, .slice b1 a4.length a9] 26 (0, 0)) (xb a3.out) hb); replace HB := ak (below_step zj_0 hb); (try clear hb); (try clear hb2); (try clear hk); (try clear hi); have b3 := cz20 a3.out; have b4 := cz21 a3.out; have b5 := blk_frozen a3.out 0; have b6 := blk_frozen a3.out 1) | (go_at_call 48; (with_reducible refine (impl_SplitOk.calls _ _ a5 _ _ a4 a7 a6 b7 false _ (y1 a1.out) (y2 a1.out) (y1 a2.out) (y2 a2.out) j5.out).mono ?_); rintro e w' ⟨rfl, hb⟩; replace a1 := ak (Kd.S_below (xS a1.out) hb); replace a2 := ak (Kd.Q_below (xQ a2.out) hb); replace a3 := ak (blk_below (g := a8) (o := .cells #[.slice b2 a5.length b0, .slice b1 a4.length a9] 26 (0, 0)) (xb a3.out) hb); replace HB := ak (below_step zj_0 hb); (try clear hb); (try clear hb2); (try clear hk); (try clear hi)))
      go_ret
      exact ⟨zj_1, zj_0⟩
     obtain rfl := Option.some.inj H
     have b3 := cz20 a3.out
     have b4 := cz21 a3.out
     have b5 := blk_frozen a3.out 0
     have b6 := blk_frozen a3.out 1
     go_wp2_with (first | ((with_reducible refine gate_callee (f := 45) rfl ?_); refine gl_ (some 60) Try.func45 #[.agg #[.slice b2 a5.length b0, .slice b1 a4.length a9], .int .i64 a6, .int .i64 a7] ?_; (with_reducible refine (impl_WithOk.calls _ _ a5 _ _ a4 a6 a7 true _ (y1 a1.out) (y2 a1.out) (y1 a2.out) (y2 a2.out) d2.out).mono ?_); rintro e w' ⟨rfl, hb⟩; refine ⟨_, rfl, ?_⟩; replace a1 := ak (Kd.S_below (xS a1.out) hb); replace a2 := ak (Kd.Q_below (xQ a2.out) hb); replace a3 := ak (blk_below (g := a8) (o := .cells #[.slice b2 a5.length b0, .slice b1 a4.length a9] 26 (0, 0)) (xb a3.out) hb); replace HB := ak (below_step zj_0 hb); (try clear hb); (try clear hb2); (try clear hk); (try clear hi); have b3 := cz20 a3.out; have b4 := cz21 a3.out; have b5 := blk_frozen a3.out 0; have b6 := blk_frozen a3.out 1) | (go_at_call 45; (with_reducible refine (impl_WithOk.calls _ _ a5 _ _ a4 a6 b7 true _ (y1 a1.out) (y2 a1.out) (y1 a2.out) (y2 a2.out) d8.out).mono ?_); rintro e w' ⟨rfl, hb⟩; replace a1 := ak (Kd.S_below (xS a1.out) hb); replace a2 := ak (Kd.Q_below (xQ a2.out) hb); replace a3 := ak (blk_below (g := a8) (o := .cells #[.slice b2 a5.length b0, .slice b1 a4.length a9] 26 (0, 0)) (xb a3.out) hb); replace HB := ak (below_step zj_0 hb); (try clear hb); (try clear hb2); (try clear hk); (try clear hi)))
     go_ret
     exact ⟨zj_1, zj_0⟩
    replace H := bd_ H
    obtain ⟨k9, e1, H⟩ := H
    try dsimp only at H
    replace H := ox_ H
    rcases H with ⟨rfl, H⟩ | ⟨rfl, H⟩
    ·
     replace H := bd_ H
     obtain ⟨l1, f5, H⟩ := H
     try dsimp only at H
     replace H := ox_ H
     rcases H with ⟨rfl, H⟩ | ⟨rfl, H⟩
     ·
      replace H := ox_ H
      rcases H with ⟨rfl, H⟩ | ⟨rfl, H⟩
      ·
       replace H := bd_ H
       obtain ⟨l2, j6, H⟩ := H
       try dsimp only at H
       replace H := ox_ H
       rcases H with ⟨rfl, H⟩ | ⟨rfl, H⟩
       ·
        replace H := bd_ H
        obtain ⟨i1, l3, H⟩ := H
        try dsimp only at H
        obtain rfl := Option.some.inj H
        have b3 := cz20 a3.out
        have b4 := cz21 a3.out
        have b5 := blk_frozen a3.out 0
        have b6 := blk_frozen a3.out 1
        go_wp2_with (first | ((first | ((with_reducible refine gate_callee (f := 45) rfl ?_); refine gl_ (some 60) Try.func45 #[.agg #[.slice b2 a5.length b0, .slice b1 a4.length a9], .int .i64 a6, .int .i64 a7] ?_; (with_reducible refine (impl_WithOk.calls _ _ a5 _ _ a4 a6 a7 true _ (y1 a1.out) (y2 a1.out) (y1 a2.out) (y2 a2.out) d2.out).mono ?_); rintro e w' ⟨rfl, hb⟩; refine ⟨_, rfl, ?_⟩) | (go_at_call 45; (with_reducible refine (impl_WithOk.calls _ _ a5 _ _ a4 a6 b7 false _ (y1 a1.out) (y2 a1.out) (y1 a2.out) (y2 a2.out) d8.out).mono ?_); rintro e w' ⟨rfl, hb⟩) | (go_at_call 45; (with_reducible refine (impl_WithOk.calls _ _ a5 _ _ a4 a7 a6 true _ (y1 a1.out) (y2 a1.out) (y1 a2.out) (y2 a2.out) e1.out).mono ?_); rintro e w' ⟨rfl, hb⟩) | (go_at_call 45; (with_reducible refine (impl_WithOk.calls _ _ a5 _ _ a4 a7 b7 true _ (y1 a1.out) (y2 a1.out) (y1 a2.out) (y2 a2.out) f5.out).mono ?_); rintro e w' ⟨rfl, hb⟩) | (go_at_call 48; (with_reducible refine (impl_SplitOk.calls _ _ a5 _ _ a4 a7 a6 b7 true _ (y1 a1.out) (y2 a1.out) (y1 a2.out) (y2 a2.out) j6.out).mono ?_); rintro e w' ⟨rfl, hb⟩)); replace a1 := ak (Kd.S_below (xS a1.out) hb); replace a2 := ak (Kd.Q_below (xQ a2.out) hb); replace a3 := ak (blk_below (g := a8) (o := .cells #[.slice b2 a5.length b0, .slice b1 a4.length a9] 26 (0, 0)) (xb a3.out) hb); replace HB := ak (below_step zj_0 hb); (try clear hb); (try clear hb2); (try clear hk); (try clear hi); have b3 := cz20 a3.out; have b4 := cz21 a3.out; have b5 := blk_frozen a3.out 0; have b6 := blk_frozen a3.out 1) | (go_at_call 48; (with_reducible refine (impl_SplitOk.calls _ _ a5 _ _ a4 b7 a6 a7 i1 _ (y1 a1.out) (y2 a1.out) (y1 a2.out) (y2 a2.out) l3.out).mono ?_); rintro e w' ⟨rfl, hb⟩; replace a1 := ak (Kd.S_below (xS a1.out) hb); replace a2 := ak (Kd.Q_below (xQ a2.out) hb); replace a3 := ak (blk_below (g := a8) (o := .cells #[.slice b2 a5.length b0, .slice b1 a4.length a9] 26 (0, 0)) (xb a3.out) hb); replace HB := ak (below_step zj_0 hb); (try clear hb); (try clear hb2); (try clear hk); (try clear hi)))
        go_ret
        exact ⟨zj_1, zj_0⟩
       obtain rfl := Option.some.inj H
       have b3 := cz20 a3.out
       have b4 := cz21 a3.out
       have b5 := blk_frozen a3.out 0
       have b6 := blk_frozen a3.out 1
       go_wp2_with (first | ((first | ((with_reducible refine gate_callee (f := 45) rfl ?_); refine gl_ (some 60) Try.func45 #[.agg #[.slice b2 a5.length b0, .slice b1 a4.length a9], .int .i64 a6, .int .i64 a7] ?_; (with_reducible refine (impl_WithOk.calls _ _ a5 _ _ a4 a6 a7 true _ (y1 a1.out) (y2 a1.out) (y1 a2.out) (y2 a2.out) d2.out).mono ?_); rintro e w' ⟨rfl, hb⟩; refine ⟨_, rfl, ?_⟩) | (go_at_call 45; (with_reducible refine (impl_WithOk.calls _ _ a5 _ _ a4 a6 b7 false _ (y1 a1.out) (y2 a1.out) (y1 a2.out) (y2 a2.out) d8.out).mono ?_); rintro e w' ⟨rfl, hb⟩) | (go_at_call 45; (with_reducible refine (impl_WithOk.calls _ _ a5 _ _ a4 a7 a6 true _ (y1 a1.out) (y2 a1.out) (y1 a2.out) (y2 a2.out) e1.out).mono ?_); rintro e w' ⟨rfl, hb⟩) | (go_at_call 45; (with_reducible refine (impl_WithOk.calls _ _ a5 _ _ a4 a7 b7 true _ (y1 a1.out) (y2 a1.out) (y1 a2.out) (y2 a2.out) f5.out).mono ?_); rintro e w' ⟨rfl, hb⟩)); replace a1 := ak (Kd.S_below (xS a1.out) hb); replace a2 := ak (Kd.Q_below (xQ a2.out) hb); replace a3 := ak (blk_below (g := a8) (o := .cells #[.slice b2 a5.length b0, .slice b1 a4.length a9] 26 (0, 0)) (xb a3.out) hb); replace HB := ak (below_step zj_0 hb); (try clear hb); (try clear hb2); (try clear hk); (try clear hi); have b3 := cz20 a3.out; have b4 := cz21 a3.out; have b5 := blk_frozen a3.out 0; have b6 := blk_frozen a3.out 1) | (go_at_call 48; (with_reducible refine (impl_SplitOk.calls _ _ a5 _ _ a4 a7 a6 b7 false _ (y1 a1.out) (y2 a1.out) (y1 a2.out) (y2 a2.out) j6.out).mono ?_); rintro e w' ⟨rfl, hb⟩; replace a1 := ak (Kd.S_below (xS a1.out) hb); replace a2 := ak (Kd.Q_below (xQ a2.out) hb); replace a3 := ak (blk_below (g := a8) (o := .cells #[.slice b2 a5.length b0, .slice b1 a4.length a9] 26 (0, 0)) (xb a3.out) hb); replace HB := ak (below_step zj_0 hb); (try clear hb); (try clear hb2); (try clear hk); (try clear hi)))
       go_ret
       exact ⟨zj_1, zj_0⟩
      obtain rfl := Option.some.inj H
      have b3 := cz20 a3.out
      have b4 := cz21 a3.out
      have b5 := blk_frozen a3.out 0
      have b6 := blk_frozen a3.out 1
      go_wp2_with (first | ((first | ((with_reducible refine gate_callee (f := 45) rfl ?_); refine gl_ (some 60) Try.func45 #[.agg #[.slice b2 a5.length b0, .slice b1 a4.length a9], .int .i64 a6, .int .i64 a7] ?_; (with_reducible refine (impl_WithOk.calls _ _ a5 _ _ a4 a6 a7 true _ (y1 a1.out) (y2 a1.out) (y1 a2.out) (y2 a2.out) d2.out).mono ?_); rintro e w' ⟨rfl, hb⟩; refine ⟨_, rfl, ?_⟩) | (go_at_call 45; (with_reducible refine (impl_WithOk.calls _ _ a5 _ _ a4 a6 b7 false _ (y1 a1.out) (y2 a1.out) (y1 a2.out) (y2 a2.out) d8.out).mono ?_); rintro e w' ⟨rfl, hb⟩) | (go_at_call 45; (with_reducible refine (impl_WithOk.calls _ _ a5 _ _ a4 a7 a6 true _ (y1 a1.out) (y2 a1.out) (y1 a2.out) (y2 a2.out) e1.out).mono ?_); rintro e w' ⟨rfl, hb⟩)); replace a1 := ak (Kd.S_below (xS a1.out) hb); replace a2 := ak (Kd.Q_below (xQ a2.out) hb); replace a3 := ak (blk_below (g := a8) (o := .cells #[.slice b2 a5.length b0, .slice b1 a4.length a9] 26 (0, 0)) (xb a3.out) hb); replace HB := ak (below_step zj_0 hb); (try clear hb); (try clear hb2); (try clear hk); (try clear hi); have b3 := cz20 a3.out; have b4 := cz21 a3.out; have b5 := blk_frozen a3.out 0; have b6 := blk_frozen a3.out 1) | (go_at_call 45; (with_reducible refine (impl_WithOk.calls _ _ a5 _ _ a4 a7 b7 true _ (y1 a1.out) (y2 a1.out) (y1 a2.out) (y2 a2.out) f5.out).mono ?_); rintro e w' ⟨rfl, hb⟩; replace a1 := ak (Kd.S_below (xS a1.out) hb); replace a2 := ak (Kd.Q_below (xQ a2.out) hb); replace a3 := ak (blk_below (g := a8) (o := .cells #[.slice b2 a5.length b0, .slice b1 a4.length a9] 26 (0, 0)) (xb a3.out) hb); replace HB := ak (below_step zj_0 hb); (try clear hb); (try clear hb2); (try clear hk); (try clear hi)))
      go_ret
      exact ⟨zj_1, zj_0⟩
     replace H := bd_ H
     obtain ⟨l4, e3, H⟩ := H
     try dsimp only at H
     replace H := ox_ H
     rcases H with ⟨rfl, H⟩ | ⟨rfl, H⟩
     ·
      replace H := bd_ H
      obtain ⟨l5, e9, H⟩ := H
      try dsimp only at H
      replace H := ox_ H
      rcases H with ⟨rfl, H⟩ | ⟨rfl, H⟩
      ·
       replace H := ox_ H
       rcases H with ⟨rfl, H⟩ | ⟨rfl, H⟩
       ·
        replace H := bd_ H
        obtain ⟨l6, g5, H⟩ := H
        try dsimp only at H
        replace H := ox_ H
        rcases H with ⟨rfl, H⟩ | ⟨rfl, H⟩
        ·
         replace H := bd_ H
         obtain ⟨i2, i3, H⟩ := H
         try dsimp only at H
         obtain rfl := Option.some.inj H
         have b3 := cz20 a3.out
         have b4 := cz21 a3.out
         have b5 := blk_frozen a3.out 0
         have b6 := blk_frozen a3.out 1
         go_wp2_with (first | ((first | ((with_reducible refine gate_callee (f := 45) rfl ?_); refine gl_ (some 60) Try.func45 #[.agg #[.slice b2 a5.length b0, .slice b1 a4.length a9], .int .i64 a6, .int .i64 a7] ?_; (with_reducible refine (impl_WithOk.calls _ _ a5 _ _ a4 a6 a7 true _ (y1 a1.out) (y2 a1.out) (y1 a2.out) (y2 a2.out) d2.out).mono ?_); rintro e w' ⟨rfl, hb⟩; refine ⟨_, rfl, ?_⟩) | (go_at_call 45; (with_reducible refine (impl_WithOk.calls _ _ a5 _ _ a4 a6 b7 false _ (y1 a1.out) (y2 a1.out) (y1 a2.out) (y2 a2.out) d8.out).mono ?_); rintro e w' ⟨rfl, hb⟩) | (go_at_call 45; (with_reducible refine (impl_WithOk.calls _ _ a5 _ _ a4 a7 a6 true _ (y1 a1.out) (y2 a1.out) (y1 a2.out) (y2 a2.out) e1.out).mono ?_); rintro e w' ⟨rfl, hb⟩) | (go_at_call 45; (with_reducible refine (impl_WithOk.calls _ _ a5 _ _ a4 a7 b7 false _ (y1 a1.out) (y2 a1.out) (y1 a2.out) (y2 a2.out) f5.out).mono ?_); rintro e w' ⟨rfl, hb⟩) | (go_at_call 45; (with_reducible refine (impl_WithOk.calls _ _ a5 _ _ a4 b7 a6 true _ (y1 a1.out) (y2 a1.out) (y1 a2.out) (y2 a2.out) e3.out).mono ?_); rintro e w' ⟨rfl, hb⟩) | (go_at_call 45; (with_reducible refine (impl_WithOk.calls _ _ a5 _ _ a4 b7 a7 true _ (y1 a1.out) (y2 a1.out) (y1 a2.out) (y2 a2.out) e9.out).mono ?_); rintro e w' ⟨rfl, hb⟩) | (go_at_call 48; (with_reducible refine (impl_SplitOk.calls _ _ a5 _ _ a4 a7 a6 b7 true _ (y1 a1.out) (y2 a1.out) (y1 a2.out) (y2 a2.out) g5.out).mono ?_); rintro e w' ⟨rfl, hb⟩)); replace a1 := ak (Kd.S_below (xS a1.out) hb); replace a2 := ak (Kd.Q_below (xQ a2.out) hb); replace a3 := ak (blk_below (g := a8) (o := .cells #[.slice b2 a5.length b0, .slice b1 a4.length a9] 26 (0, 0)) (xb a3.out) hb); replace HB := ak (below_step zj_0 hb); (try clear hb); (try clear hb2); (try clear hk); (try clear hi); have b3 := cz20 a3.out; have b4 := cz21 a3.out; have b5 := blk_frozen a3.out 0; have b6 := blk_frozen a3.out 1) | (go_at_call 48; (with_reducible refine (impl_SplitOk.calls _ _ a5 _ _ a4 b7 a6 a7 i2 _ (y1 a1.out) (y2 a1.out) (y1 a2.out) (y2 a2.out) i3.out).mono ?_); rintro e w' ⟨rfl, hb⟩; replace a1 := ak (Kd.S_below (xS a1.out) hb); replace a2 := ak (Kd.Q_below (xQ a2.out) hb); replace a3 := ak (blk_below (g := a8) (o := .cells #[.slice b2 a5.length b0, .slice b1 a4.length a9] 26 (0, 0)) (xb a3.out) hb); replace HB := ak (below_step zj_0 hb); (try clear hb); (try clear hb2); (try clear hk); (try clear hi)))
         go_ret
         exact ⟨zj_1, zj_0⟩
        obtain rfl := Option.some.inj H
        have b3 := cz20 a3.out
        have b4 := cz21 a3.out
        have b5 := blk_frozen a3.out 0
        have b6 := blk_frozen a3.out 1
        go_wp2_with (first | ((first | ((with_reducible refine gate_callee (f := 45) rfl ?_); refine gl_ (some 60) Try.func45 #[.agg #[.slice b2 a5.length b0, .slice b1 a4.length a9], .int .i64 a6, .int .i64 a7] ?_; (with_reducible refine (impl_WithOk.calls _ _ a5 _ _ a4 a6 a7 true _ (y1 a1.out) (y2 a1.out) (y1 a2.out) (y2 a2.out) d2.out).mono ?_); rintro e w' ⟨rfl, hb⟩; refine ⟨_, rfl, ?_⟩) | (go_at_call 45; (with_reducible refine (impl_WithOk.calls _ _ a5 _ _ a4 a6 b7 false _ (y1 a1.out) (y2 a1.out) (y1 a2.out) (y2 a2.out) d8.out).mono ?_); rintro e w' ⟨rfl, hb⟩) | (go_at_call 45; (with_reducible refine (impl_WithOk.calls _ _ a5 _ _ a4 a7 a6 true _ (y1 a1.out) (y2 a1.out) (y1 a2.out) (y2 a2.out) e1.out).mono ?_); rintro e w' ⟨rfl, hb⟩) | (go_at_call 45; (with_reducible refine (impl_WithOk.calls _ _ a5 _ _ a4 a7 b7 false _ (y1 a1.out) (y2 a1.out) (y1 a2.out) (y2 a2.out) f5.out).mono ?_); rintro e w' ⟨rfl, hb⟩) | (go_at_call 45; (with_reducible refine (impl_WithOk.calls _ _ a5 _ _ a4 b7 a6 true _ (y1 a1.out) (y2 a1.out) (y1 a2.out) (y2 a2.out) e3.out).mono ?_); rintro e w' ⟨rfl, hb⟩) | (go_at_call 45; (with_reducible refine (impl_WithOk.calls _ _ a5 _ _ a4 b7 a7 true _ (y1 a1.out) (y2 a1.out) (y1 a2.out) (y2 a2.out) e9.out).mono ?_); rintro e w' ⟨rfl, hb⟩)); replace a1 := ak (Kd.S_below (xS a1.out) hb); replace a2 := ak (Kd.Q_below (xQ a2.out) hb); replace a3 := ak (blk_below (g := a8) (o := .cells #[.slice b2 a5.length b0, .slice b1 a4.length a9] 26 (0, 0)) (xb a3.out) hb); replace HB := ak (below_step zj_0 hb); (try clear hb); (try clear hb2); (try clear hk); (try clear hi); have b3 := cz20 a3.out; have b4 := cz21 a3.out; have b5 := blk_frozen a3.out 0; have b6 := blk_frozen a3.out 1) | (go_at_call 48; (with_reducible refine (impl_SplitOk.calls _ _ a5 _ _ a4 a7 a6 b7 false _ (y1 a1.out) (y2 a1.out) (y1 a2.out) (y2 a2.out) g5.out).mono ?_); rintro e w' ⟨rfl, hb⟩; replace a1 := ak (Kd.S_below (xS a1.out) hb); replace a2 := ak (Kd.Q_below (xQ a2.out) hb); replace a3 := ak (blk_below (g := a8) (o := .cells #[.slice b2 a5.length b0, .slice b1 a4.length a9] 26 (0, 0)) (xb a3.out) hb); replace HB := ak (below_step zj_0 hb); (try clear hb); (try clear hb2); (try clear hk); (try clear hi)))
        go_ret
        exact ⟨zj_1, zj_0⟩
       obtain rfl := Option.some.inj H
       have b3 := cz20 a3.out
       have b4 := cz21 a3.out
       have b5 := blk_frozen a3.out 0
       have b6 := blk_frozen a3.out 1
       go_wp2_with (first | ((first | ((with_reducible refine gate_callee (f := 45) rfl ?_); refine gl_ (some 60) Try.func45 #[.agg #[.slice b2 a5.length b0, .slice b1 a4.length a9], .int .i64 a6, .int .i64 a7] ?_; (with_reducible refine (impl_WithOk.calls _ _ a5 _ _ a4 a6 a7 true _ (y1 a1.out) (y2 a1.out) (y1 a2.out) (y2 a2.out) d2.out).mono ?_); rintro e w' ⟨rfl, hb⟩; refine ⟨_, rfl, ?_⟩) | (go_at_call 45; (with_reducible refine (impl_WithOk.calls _ _ a5 _ _ a4 a6 b7 false _ (y1 a1.out) (y2 a1.out) (y1 a2.out) (y2 a2.out) d8.out).mono ?_); rintro e w' ⟨rfl, hb⟩) | (go_at_call 45; (with_reducible refine (impl_WithOk.calls _ _ a5 _ _ a4 a7 a6 true _ (y1 a1.out) (y2 a1.out) (y1 a2.out) (y2 a2.out) e1.out).mono ?_); rintro e w' ⟨rfl, hb⟩) | (go_at_call 45; (with_reducible refine (impl_WithOk.calls _ _ a5 _ _ a4 a7 b7 false _ (y1 a1.out) (y2 a1.out) (y1 a2.out) (y2 a2.out) f5.out).mono ?_); rintro e w' ⟨rfl, hb⟩) | (go_at_call 45; (with_reducible refine (impl_WithOk.calls _ _ a5 _ _ a4 b7 a6 true _ (y1 a1.out) (y2 a1.out) (y1 a2.out) (y2 a2.out) e3.out).mono ?_); rintro e w' ⟨rfl, hb⟩)); replace a1 := ak (Kd.S_below (xS a1.out) hb); replace a2 := ak (Kd.Q_below (xQ a2.out) hb); replace a3 := ak (blk_below (g := a8) (o := .cells #[.slice b2 a5.length b0, .slice b1 a4.length a9] 26 (0, 0)) (xb a3.out) hb); replace HB := ak (below_step zj_0 hb); (try clear hb); (try clear hb2); (try clear hk); (try clear hi); have b3 := cz20 a3.out; have b4 := cz21 a3.out; have b5 := blk_frozen a3.out 0; have b6 := blk_frozen a3.out 1) | (go_at_call 45; (with_reducible refine (impl_WithOk.calls _ _ a5 _ _ a4 b7 a7 true _ (y1 a1.out) (y2 a1.out) (y1 a2.out) (y2 a2.out) e9.out).mono ?_); rintro e w' ⟨rfl, hb⟩; replace a1 := ak (Kd.S_below (xS a1.out) hb); replace a2 := ak (Kd.Q_below (xQ a2.out) hb); replace a3 := ak (blk_below (g := a8) (o := .cells #[.slice b2 a5.length b0, .slice b1 a4.length a9] 26 (0, 0)) (xb a3.out) hb); replace HB := ak (below_step zj_0 hb); (try clear hb); (try clear hb2); (try clear hk); (try clear hi)))
       go_ret
       exact ⟨zj_1, zj_0⟩
      obtain rfl := Option.some.inj H
      have b3 := cz20 a3.out
      have b4 := cz21 a3.out
      have b5 := blk_frozen a3.out 0
      have b6 := blk_frozen a3.out 1
      go_wp2_with (first | ((first | ((with_reducible refine gate_callee (f := 45) rfl ?_); refine gl_ (some 60) Try.func45 #[.agg #[.slice b2 a5.length b0, .slice b1 a4.length a9], .int .i64 a6, .int .i64 a7] ?_; (with_reducible refine (impl_WithOk.calls _ _ a5 _ _ a4 a6 a7 true _ (y1 a1.out) (y2 a1.out) (y1 a2.out) (y2 a2.out) d2.out).mono ?_); rintro e w' ⟨rfl, hb⟩; refine ⟨_, rfl, ?_⟩) | (go_at_call 45; (with_reducible refine (impl_WithOk.calls _ _ a5 _ _ a4 a6 b7 false _ (y1 a1.out) (y2 a1.out) (y1 a2.out) (y2 a2.out) d8.out).mono ?_); rintro e w' ⟨rfl, hb⟩) | (go_at_call 45; (with_reducible refine (impl_WithOk.calls _ _ a5 _ _ a4 a7 a6 true _ (y1 a1.out) (y2 a1.out) (y1 a2.out) (y2 a2.out) e1.out).mono ?_); rintro e w' ⟨rfl, hb⟩) | (go_at_call 45; (with_reducible refine (impl_WithOk.calls _ _ a5 _ _ a4 a7 b7 false _ (y1 a1.out) (y2 a1.out) (y1 a2.out) (y2 a2.out) f5.out).mono ?_); rintro e w' ⟨rfl, hb⟩) | (go_at_call 45; (with_reducible refine (impl_WithOk.calls _ _ a5 _ _ a4 b7 a6 true _ (y1 a1.out) (y2 a1.out) (y1 a2.out) (y2 a2.out) e3.out).mono ?_); rintro e w' ⟨rfl, hb⟩)); replace a1 := ak (Kd.S_below (xS a1.out) hb); replace a2 := ak (Kd.Q_below (xQ a2.out) hb); replace a3 := ak (blk_below (g := a8) (o := .cells #[.slice b2 a5.length b0, .slice b1 a4.length a9] 26 (0, 0)) (xb a3.out) hb); replace HB := ak (below_step zj_0 hb); (try clear hb); (try clear hb2); (try clear hk); (try clear hi); have b3 := cz20 a3.out; have b4 := cz21 a3.out; have b5 := blk_frozen a3.out 0; have b6 := blk_frozen a3.out 1) | (go_at_call 45; (with_reducible refine (impl_WithOk.calls _ _ a5 _ _ a4 b7 a7 false _ (y1 a1.out) (y2 a1.out) (y1 a2.out) (y2 a2.out) e9.out).mono ?_); rintro e w' ⟨rfl, hb⟩; replace a1 := ak (Kd.S_below (xS a1.out) hb); replace a2 := ak (Kd.Q_below (xQ a2.out) hb); replace a3 := ak (blk_below (g := a8) (o := .cells #[.slice b2 a5.length b0, .slice b1 a4.length a9] 26 (0, 0)) (xb a3.out) hb); replace HB := ak (below_step zj_0 hb); (try clear hb); (try clear hb2); (try clear hk); (try clear hi)))
      go_ret
      exact ⟨zj_1, zj_0⟩
     obtain rfl := Option.some.inj H
     have b3 := cz20 a3.out
     have b4 := cz21 a3.out
     have b5 := blk_frozen a3.out 0
     have b6 := blk_frozen a3.out 1
     go_wp2_with (first | ((first | ((with_reducible refine gate_callee (f := 45) rfl ?_); refine gl_ (some 60) Try.func45 #[.agg #[.slice b2 a5.length b0, .slice b1 a4.length a9], .int .i64 a6, .int .i64 a7] ?_; (with_reducible refine (impl_WithOk.calls _ _ a5 _ _ a4 a6 a7 true _ (y1 a1.out) (y2 a1.out) (y1 a2.out) (y2 a2.out) d2.out).mono ?_); rintro e w' ⟨rfl, hb⟩; refine ⟨_, rfl, ?_⟩) | (go_at_call 45; (with_reducible refine (impl_WithOk.calls _ _ a5 _ _ a4 a6 b7 false _ (y1 a1.out) (y2 a1.out) (y1 a2.out) (y2 a2.out) d8.out).mono ?_); rintro e w' ⟨rfl, hb⟩) | (go_at_call 45; (with_reducible refine (impl_WithOk.calls _ _ a5 _ _ a4 a7 a6 true _ (y1 a1.out) (y2 a1.out) (y1 a2.out) (y2 a2.out) e1.out).mono ?_); rintro e w' ⟨rfl, hb⟩) | (go_at_call 45; (with_reducible refine (impl_WithOk.calls _ _ a5 _ _ a4 a7 b7 false _ (y1 a1.out) (y2 a1.out) (y1 a2.out) (y2 a2.out) f5.out).mono ?_); rintro e w' ⟨rfl, hb⟩)); replace a1 := ak (Kd.S_below (xS a1.out) hb); replace a2 := ak (Kd.Q_below (xQ a2.out) hb); replace a3 := ak (blk_below (g := a8) (o := .cells #[.slice b2 a5.length b0, .slice b1 a4.length a9] 26 (0, 0)) (xb a3.out) hb); replace HB := ak (below_step zj_0 hb); (try clear hb); (try clear hb2); (try clear hk); (try clear hi); have b3 := cz20 a3.out; have b4 := cz21 a3.out; have b5 := blk_frozen a3.out 0; have b6 := blk_frozen a3.out 1) | (go_at_call 45; (with_reducible refine (impl_WithOk.calls _ _ a5 _ _ a4 b7 a6 false _ (y1 a1.out) (y2 a1.out) (y1 a2.out) (y2 a2.out) e3.out).mono ?_); rintro e w' ⟨rfl, hb⟩; replace a1 := ak (Kd.S_below (xS a1.out) hb); replace a2 := ak (Kd.Q_below (xQ a2.out) hb); replace a3 := ak (blk_below (g := a8) (o := .cells #[.slice b2 a5.length b0, .slice b1 a4.length a9] 26 (0, 0)) (xb a3.out) hb); replace HB := ak (below_step zj_0 hb); (try clear hb); (try clear hb2); (try clear hk); (try clear hi)))
     go_ret
     exact ⟨zj_1, zj_0⟩
    replace H := bd_ H
    obtain ⟨l7, e4, H⟩ := H
    try dsimp only at H
    replace H := ox_ H
    rcases H with ⟨rfl, H⟩ | ⟨rfl, H⟩
    ·
     replace H := bd_ H
     obtain ⟨l8, f0, H⟩ := H
     try dsimp only at H
     replace H := ox_ H
     rcases H with ⟨rfl, H⟩ | ⟨rfl, H⟩
     ·
      replace H := ox_ H
      rcases H with ⟨rfl, H⟩ | ⟨rfl, H⟩
      ·
       replace H := bd_ H
       obtain ⟨l9, g6, H⟩ := H
       try dsimp only at H
       replace H := ox_ H
       rcases H with ⟨rfl, H⟩ | ⟨rfl, H⟩
       ·
        replace H := bd_ H
        obtain ⟨i4, i5, H⟩ := H
        try dsimp only at H
        obtain rfl := Option.some.inj H
        have b3 := cz20 a3.out
        have b4 := cz21 a3.out
        have b5 := blk_frozen a3.out 0
        have b6 := blk_frozen a3.out 1
        go_wp2_with (first | ((first | ((with_reducible refine gate_callee (f := 45) rfl ?_); refine gl_ (some 60) Try.func45 #[.agg #[.slice b2 a5.length b0, .slice b1 a4.length a9], .int .i64 a6, .int .i64 a7] ?_; (with_reducible refine (impl_WithOk.calls _ _ a5 _ _ a4 a6 a7 true _ (y1 a1.out) (y2 a1.out) (y1 a2.out) (y2 a2.out) d2.out).mono ?_); rintro e w' ⟨rfl, hb⟩; refine ⟨_, rfl, ?_⟩) | (go_at_call 45; (with_reducible refine (impl_WithOk.calls _ _ a5 _ _ a4 a6 b7 false _ (y1 a1.out) (y2 a1.out) (y1 a2.out) (y2 a2.out) d8.out).mono ?_); rintro e w' ⟨rfl, hb⟩) | (go_at_call 45; (with_reducible refine (impl_WithOk.calls _ _ a5 _ _ a4 a7 a6 false _ (y1 a1.out) (y2 a1.out) (y1 a2.out) (y2 a2.out) e1.out).mono ?_); rintro e w' ⟨rfl, hb⟩) | (go_at_call 45; (with_reducible refine (impl_WithOk.calls _ _ a5 _ _ a4 b7 a6 true _ (y1 a1.out) (y2 a1.out) (y1 a2.out) (y2 a2.out) e4.out).mono ?_); rintro e w' ⟨rfl, hb⟩) | (go_at_call 45; (with_reducible refine (impl_WithOk.calls _ _ a5 _ _ a4 b7 a7 true _ (y1 a1.out) (y2 a1.out) (y1 a2.out) (y2 a2.out) f0.out).mono ?_); rintro e w' ⟨rfl, hb⟩) | (go_at_call 48; (with_reducible refine (impl_SplitOk.calls _ _ a5 _ _ a4 a7 a6 b7 true _ (y1 a1.out) (y2 a1.out) (y1 a2.out) (y2 a2.out) g6.out).mono ?_); rintro e w' ⟨rfl, hb⟩)); replace a1 := ak (Kd.S_below (xS a1.out) hb); replace a2 := ak (Kd.Q_below (xQ a2.out) hb); replace a3 := ak (blk_below (g := a8) (o := .cells #[.slice b2 a5.length b0, .slice b1 a4.length a9] 26 (0, 0)) (xb a3.out) hb); replace HB := ak (below_step zj_0 hb); (try clear hb); (try clear hb2); (try clear hk); (try clear hi); have b3 := cz20 a3.out; have b4 := cz21 a3.out; have b5 := blk_frozen a3.out 0; have b6 := blk_frozen a3.out 1) | (go_at_call 48; (with_reducible refine (impl_SplitOk.calls _ _ a5 _ _ a4 b7 a6 a7 i4 _ (y1 a1.out) (y2 a1.out) (y1 a2.out) (y2 a2.out) i5.out).mono ?_); rintro e w' ⟨rfl, hb⟩; replace a1 := ak (Kd.S_below (xS a1.out) hb); replace a2 := ak (Kd.Q_below (xQ a2.out) hb); replace a3 := ak (blk_below (g := a8) (o := .cells #[.slice b2 a5.length b0, .slice b1 a4.length a9] 26 (0, 0)) (xb a3.out) hb); replace HB := ak (below_step zj_0 hb); (try clear hb); (try clear hb2); (try clear hk); (try clear hi)))
        go_ret
        exact ⟨zj_1, zj_0⟩
       obtain rfl := Option.some.inj H
       have b3 := cz20 a3.out
       have b4 := cz21 a3.out
       have b5 := blk_frozen a3.out 0
       have b6 := blk_frozen a3.out 1
       go_wp2_with (first | ((first | ((with_reducible refine gate_callee (f := 45) rfl ?_); refine gl_ (some 60) Try.func45 #[.agg #[.slice b2 a5.length b0, .slice b1 a4.length a9], .int .i64 a6, .int .i64 a7] ?_; (with_reducible refine (impl_WithOk.calls _ _ a5 _ _ a4 a6 a7 true _ (y1 a1.out) (y2 a1.out) (y1 a2.out) (y2 a2.out) d2.out).mono ?_); rintro e w' ⟨rfl, hb⟩; refine ⟨_, rfl, ?_⟩) | (go_at_call 45; (with_reducible refine (impl_WithOk.calls _ _ a5 _ _ a4 a6 b7 false _ (y1 a1.out) (y2 a1.out) (y1 a2.out) (y2 a2.out) d8.out).mono ?_); rintro e w' ⟨rfl, hb⟩) | (go_at_call 45; (with_reducible refine (impl_WithOk.calls _ _ a5 _ _ a4 a7 a6 false _ (y1 a1.out) (y2 a1.out) (y1 a2.out) (y2 a2.out) e1.out).mono ?_); rintro e w' ⟨rfl, hb⟩) | (go_at_call 45; (with_reducible refine (impl_WithOk.calls _ _ a5 _ _ a4 b7 a6 true _ (y1 a1.out) (y2 a1.out) (y1 a2.out) (y2 a2.out) e4.out).mono ?_); rintro e w' ⟨rfl, hb⟩) | (go_at_call 45; (with_reducible refine (impl_WithOk.calls _ _ a5 _ _ a4 b7 a7 true _ (y1 a1.out) (y2 a1.out) (y1 a2.out) (y2 a2.out) f0.out).mono ?_); rintro e w' ⟨rfl, hb⟩)); replace a1 := ak (Kd.S_below (xS a1.out) hb); replace a2 := ak (Kd.Q_below (xQ a2.out) hb); replace a3 := ak (blk_below (g := a8) (o := .cells #[.slice b2 a5.length b0, .slice b1 a4.length a9] 26 (0, 0)) (xb a3.out) hb); replace HB := ak (below_step zj_0 hb); (try clear hb); (try clear hb2); (try clear hk); (try clear hi); have b3 := cz20 a3.out; have b4 := cz21 a3.out; have b5 := blk_frozen a3.out 0; have b6 := blk_frozen a3.out 1) | (go_at_call 48; (with_reducible refine (impl_SplitOk.calls _ _ a5 _ _ a4 a7 a6 b7 false _ (y1 a1.out) (y2 a1.out) (y1 a2.out) (y2 a2.out) g6.out).mono ?_); rintro e w' ⟨rfl, hb⟩; replace a1 := ak (Kd.S_below (xS a1.out) hb); replace a2 := ak (Kd.Q_below (xQ a2.out) hb); replace a3 := ak (blk_below (g := a8) (o := .cells #[.slice b2 a5.length b0, .slice b1 a4.length a9] 26 (0, 0)) (xb a3.out) hb); replace HB := ak (below_step zj_0 hb); (try clear hb); (try clear hb2); (try clear hk); (try clear hi)))
       go_ret
       exact ⟨zj_1, zj_0⟩
      obtain rfl := Option.some.inj H
      have b3 := cz20 a3.out
      have b4 := cz21 a3.out
      have b5 := blk_frozen a3.out 0
      have b6 := blk_frozen a3.out 1
      go_wp2_with (first | ((first | ((with_reducible refine gate_callee (f := 45) rfl ?_); refine gl_ (some 60) Try.func45 #[.agg #[.slice b2 a5.length b0, .slice b1 a4.length a9], .int .i64 a6, .int .i64 a7] ?_; (with_reducible refine (impl_WithOk.calls _ _ a5 _ _ a4 a6 a7 true _ (y1 a1.out) (y2 a1.out) (y1 a2.out) (y2 a2.out) d2.out).mono ?_); rintro e w' ⟨rfl, hb⟩; refine ⟨_, rfl, ?_⟩) | (go_at_call 45; (with_reducible refine (impl_WithOk.calls _ _ a5 _ _ a4 a6 b7 false _ (y1 a1.out) (y2 a1.out) (y1 a2.out) (y2 a2.out) d8.out).mono ?_); rintro e w' ⟨rfl, hb⟩) | (go_at_call 45; (with_reducible refine (impl_WithOk.calls _ _ a5 _ _ a4 a7 a6 false _ (y1 a1.out) (y2 a1.out) (y1 a2.out) (y2 a2.out) e1.out).mono ?_); rintro e w' ⟨rfl, hb⟩) | (go_at_call 45; (with_reducible refine (impl_WithOk.calls _ _ a5 _ _ a4 b7 a6 true _ (y1 a1.out) (y2 a1.out) (y1 a2.out) (y2 a2.out) e4.out).mono ?_); rintro e w' ⟨rfl, hb⟩)); replace a1 := ak (Kd.S_below (xS a1.out) hb); replace a2 := ak (Kd.Q_below (xQ a2.out) hb); replace a3 := ak (blk_below (g := a8) (o := .cells #[.slice b2 a5.length b0, .slice b1 a4.length a9] 26 (0, 0)) (xb a3.out) hb); replace HB := ak (below_step zj_0 hb); (try clear hb); (try clear hb2); (try clear hk); (try clear hi); have b3 := cz20 a3.out; have b4 := cz21 a3.out; have b5 := blk_frozen a3.out 0; have b6 := blk_frozen a3.out 1) | (go_at_call 45; (with_reducible refine (impl_WithOk.calls _ _ a5 _ _ a4 b7 a7 true _ (y1 a1.out) (y2 a1.out) (y1 a2.out) (y2 a2.out) f0.out).mono ?_); rintro e w' ⟨rfl, hb⟩; replace a1 := ak (Kd.S_below (xS a1.out) hb); replace a2 := ak (Kd.Q_below (xQ a2.out) hb); replace a3 := ak (blk_below (g := a8) (o := .cells #[.slice b2 a5.length b0, .slice b1 a4.length a9] 26 (0, 0)) (xb a3.out) hb); replace HB := ak (below_step zj_0 hb); (try clear hb); (try clear hb2); (try clear hk); (try clear hi)))
      go_ret
      exact ⟨zj_1, zj_0⟩
     obtain rfl := Option.some.inj H
     have b3 := cz20 a3.out
     have b4 := cz21 a3.out
     have b5 := blk_frozen a3.out 0
     have b6 := blk_frozen a3.out 1
     go_wp2_with (first | ((first | ((with_reducible refine gate_callee (f := 45) rfl ?_); refine gl_ (some 60) Try.func45 #[.agg #[.slice b2 a5.length b0, .slice b1 a4.length a9], .int .i64 a6, .int .i64 a7] ?_; (with_reducible refine (impl_WithOk.calls _ _ a5 _ _ a4 a6 a7 true _ (y1 a1.out) (y2 a1.out) (y1 a2.out) (y2 a2.out) d2.out).mono ?_); rintro e w' ⟨rfl, hb⟩; refine ⟨_, rfl, ?_⟩) | (go_at_call 45; (with_reducible refine (impl_WithOk.calls _ _ a5 _ _ a4 a6 b7 false _ (y1 a1.out) (y2 a1.out) (y1 a2.out) (y2 a2.out) d8.out).mono ?_); rintro e w' ⟨rfl, hb⟩) | (go_at_call 45; (with_reducible refine (impl_WithOk.calls _ _ a5 _ _ a4 a7 a6 false _ (y1 a1.out) (y2 a1.out) (y1 a2.out) (y2 a2.out) e1.out).mono ?_); rintro e w' ⟨rfl, hb⟩) | (go_at_call 45; (with_reducible refine (impl_WithOk.calls _ _ a5 _ _ a4 b7 a6 true _ (y1 a1.out) (y2 a1.out) (y1 a2.out) (y2 a2.out) e4.out).mono ?_); rintro e w' ⟨rfl, hb⟩)); replace a1 := ak (Kd.S_below (xS a1.out) hb); replace a2 := ak (Kd.Q_below (xQ a2.out) hb); replace a3 := ak (blk_below (g := a8) (o := .cells #[.slice b2 a5.length b0, .slice b1 a4.length a9] 26 (0, 0)) (xb a3.out) hb); replace HB := ak (below_step zj_0 hb); (try clear hb); (try clear hb2); (try clear hk); (try clear hi); have b3 := cz20 a3.out; have b4 := cz21 a3.out; have b5 := blk_frozen a3.out 0; have b6 := blk_frozen a3.out 1) | (go_at_call 45; (with_reducible refine (impl_WithOk.calls _ _ a5 _ _ a4 b7 a7 false _ (y1 a1.out) (y2 a1.out) (y1 a2.out) (y2 a2.out) f0.out).mono ?_); rintro e w' ⟨rfl, hb⟩; replace a1 := ak (Kd.S_below (xS a1.out) hb); replace a2 := ak (Kd.Q_below (xQ a2.out) hb); replace a3 := ak (blk_below (g := a8) (o := .cells #[.slice b2 a5.length b0, .slice b1 a4.length a9] 26 (0, 0)) (xb a3.out) hb); replace HB := ak (below_step zj_0 hb); (try clear hb); (try clear hb2); (try clear hk); (try clear hi)))
     go_ret
     exact ⟨zj_1, zj_0⟩
    obtain rfl := Option.some.inj H
    have b3 := cz20 a3.out
    have b4 := cz21 a3.out
    have b5 := blk_frozen a3.out 0
    have b6 := blk_frozen a3.out 1
    go_wp2_with (first | ((first | ((with_reducible refine gate_callee (f := 45) rfl ?_); refine gl_ (some 60) Try.func45 #[.agg #[.slice b2 a5.length b0, .slice b1 a4.length a9], .int .i64 a6, .int .i64 a7] ?_; (with_reducible refine (impl_WithOk.calls _ _ a5 _ _ a4 a6 a7 true _ (y1 a1.out) (y2 a1.out) (y1 a2.out) (y2 a2.out) d2.out).mono ?_); rintro e w' ⟨rfl, hb⟩; refine ⟨_, rfl, ?_⟩) | (go_at_call 45; (with_reducible refine (impl_WithOk.calls _ _ a5 _ _ a4 a6 b7 false _ (y1 a1.out) (y2 a1.out) (y1 a2.out) (y2 a2.out) d8.out).mono ?_); rintro e w' ⟨rfl, hb⟩) | (go_at_call 45; (with_reducible refine (impl_WithOk.calls _ _ a5 _ _ a4 a7 a6 false _ (y1 a1.out) (y2 a1.out) (y1 a2.out) (y2 a2.out) e1.out).mono ?_); rintro e w' ⟨rfl, hb⟩)); replace a1 := ak (Kd.S_below (xS a1.out) hb); replace a2 := ak (Kd.Q_below (xQ a2.out) hb); replace a3 := ak (blk_below (g := a8) (o := .cells #[.slice b2 a5.length b0, .slice b1 a4.length a9] 26 (0, 0)) (xb a3.out) hb); replace HB := ak (below_step zj_0 hb); (try clear hb); (try clear hb2); (try clear hk); (try clear hi); have b3 := cz20 a3.out; have b4 := cz21 a3.out; have b5 := blk_frozen a3.out 0; have b6 := blk_frozen a3.out 1) | (go_at_call 45; (with_reducible refine (impl_WithOk.calls _ _ a5 _ _ a4 b7 a6 false _ (y1 a1.out) (y2 a1.out) (y1 a2.out) (y2 a2.out) e4.out).mono ?_); rintro e w' ⟨rfl, hb⟩; replace a1 := ak (Kd.S_below (xS a1.out) hb); replace a2 := ak (Kd.Q_below (xQ a2.out) hb); replace a3 := ak (blk_below (g := a8) (o := .cells #[.slice b2 a5.length b0, .slice b1 a4.length a9] 26 (0, 0)) (xb a3.out) hb); replace HB := ak (below_step zj_0 hb); (try clear hb); (try clear hb2); (try clear hk); (try clear hi)))
    go_ret
    exact ⟨zj_1, zj_0⟩
   replace H := bd_ H
   obtain ⟨m0, d3, H⟩ := H
   try dsimp only at H
   replace H := ox_ H
   rcases H with ⟨rfl, H⟩ | ⟨rfl, H⟩
   ·
    replace H := bd_ H
    obtain ⟨m1, d7, H⟩ := H
    try dsimp only at H
    replace H := ox_ H
    rcases H with ⟨rfl, H⟩ | ⟨rfl, H⟩
    ·
     replace H := ox_ H
     rcases H with ⟨rfl, H⟩ | ⟨rfl, H⟩
     ·
      replace H := bd_ H
      obtain ⟨m2, g7, H⟩ := H
      try dsimp only at H
      replace H := ox_ H
      rcases H with ⟨rfl, H⟩ | ⟨rfl, H⟩
      ·
       replace H := bd_ H
       obtain ⟨i6, i7, H⟩ := H
       try dsimp only at H
       obtain rfl := Option.some.inj H
       have b3 := cz20 a3.out
       have b4 := cz21 a3.out
       have b5 := blk_frozen a3.out 0
       have b6 := blk_frozen a3.out 1
       go_wp2_with (first | ((first | ((with_reducible refine gate_callee (f := 45) rfl ?_); refine gl_ (some 60) Try.func45 #[.agg #[.slice b2 a5.length b0, .slice b1 a4.length a9], .int .i64 a6, .int .i64 a7] ?_; (with_reducible refine (impl_WithOk.calls _ _ a5 _ _ a4 a6 a7 false _ (y1 a1.out) (y2 a1.out) (y1 a2.out) (y2 a2.out) d2.out).mono ?_); rintro e w' ⟨rfl, hb⟩; refine ⟨_, rfl, ?_⟩) | (go_at_call 45; (with_reducible refine (impl_WithOk.calls _ _ a5 _ _ a4 a7 a6 true _ (y1 a1.out) (y2 a1.out) (y1 a2.out) (y2 a2.out) d3.out).mono ?_); rintro e w' ⟨rfl, hb⟩) | (go_at_call 45; (with_reducible refine (impl_WithOk.calls _ _ a5 _ _ a4 a7 b7 true _ (y1 a1.out) (y2 a1.out) (y1 a2.out) (y2 a2.out) d7.out).mono ?_); rintro e w' ⟨rfl, hb⟩) | (go_at_call 48; (with_reducible refine (impl_SplitOk.calls _ _ a5 _ _ a4 a7 a6 b7 true _ (y1 a1.out) (y2 a1.out) (y1 a2.out) (y2 a2.out) g7.out).mono ?_); rintro e w' ⟨rfl, hb⟩)); replace a1 := ak (Kd.S_below (xS a1.out) hb); replace a2 := ak (Kd.Q_below (xQ a2.out) hb); replace a3 := ak (blk_below (g := a8) (o := .cells #[.slice b2 a5.length b0, .slice b1 a4.length a9] 26 (0, 0)) (xb a3.out) hb); replace HB := ak (below_step zj_0 hb); (try clear hb); (try clear hb2); (try clear hk); (try clear hi); have b3 := cz20 a3.out; have b4 := cz21 a3.out; have b5 := blk_frozen a3.out 0; have b6 := blk_frozen a3.out 1) | (go_at_call 48; (with_reducible refine (impl_SplitOk.calls _ _ a5 _ _ a4 b7 a6 a7 i6 _ (y1 a1.out) (y2 a1.out) (y1 a2.out) (y2 a2.out) i7.out).mono ?_); rintro e w' ⟨rfl, hb⟩; replace a1 := ak (Kd.S_below (xS a1.out) hb); replace a2 := ak (Kd.Q_below (xQ a2.out) hb); replace a3 := ak (blk_below (g := a8) (o := .cells #[.slice b2 a5.length b0, .slice b1 a4.length a9] 26 (0, 0)) (xb a3.out) hb); replace HB := ak (below_step zj_0 hb); (try clear hb); (try clear hb2); (try clear hk); (try clear hi)))
       go_ret
       exact ⟨zj_1, zj_0⟩
      obtain rfl := Option.some.inj H
      have b3 := cz20 a3.out
      have b4 := cz21 a3.out
      have b5 := blk_frozen a3.out 0
      have b6 := blk_frozen a3.out 1
      go_wp2_with (first | ((first | ((with_reducible refine gate_callee (f := 45) rfl ?_); refine gl_ (some 60) Try.func45 #[.agg #[.slice b2 a5.length b0, .slice b1 a4.length a9], .int .i64 a6, .int .i64 a7] ?_; (with_reducible refine (impl_WithOk.calls _ _ a5 _ _ a4 a6 a7 false _ (y1 a1.out) (y2 a1.out) (y1 a2.out) (y2 a2.out) d2.out).mono ?_); rintro e w' ⟨rfl, hb⟩; refine ⟨_, rfl, ?_⟩) | (go_at_call 45; (with_reducible refine (impl_WithOk.calls _ _ a5 _ _ a4 a7 a6 true _ (y1 a1.out) (y2 a1.out) (y1 a2.out) (y2 a2.out) d3.out).mono ?_); rintro e w' ⟨rfl, hb⟩) | (go_at_call 45; (with_reducible refine (impl_WithOk.calls _ _ a5 _ _ a4 a7 b7 true _ (y1 a1.out) (y2 a1.out) (y1 a2.out) (y2 a2.out) d7.out).mono ?_); rintro e w' ⟨rfl, hb⟩)); replace a1 := ak (Kd.S_below (xS a1.out) hb); replace a2 := ak (Kd.Q_below (xQ a2.out) hb); replace a3 := ak (blk_below (g := a8) (o := .cells #[.slice b2 a5.length b0, .slice b1 a4.length a9] 26 (0, 0)) (xb a3.out) hb); replace HB := ak (below_step zj_0 hb); (try clear hb); (try clear hb2); (try clear hk); (try clear hi); have b3 := cz20 a3.out; have b4 := cz21 a3.out; have b5 := blk_frozen a3.out 0; have b6 := blk_frozen a3.out 1) | (go_at_call 48; (with_reducible refine (impl_SplitOk.calls _ _ a5 _ _ a4 a7 a6 b7 false _ (y1 a1.out) (y2 a1.out) (y1 a2.out) (y2 a2.out) g7.out).mono ?_); rintro e w' ⟨rfl, hb⟩; replace a1 := ak (Kd.S_below (xS a1.out) hb); replace a2 := ak (Kd.Q_below (xQ a2.out) hb); replace a3 := ak (blk_below (g := a8) (o := .cells #[.slice b2 a5.length b0, .slice b1 a4.length a9] 26 (0, 0)) (xb a3.out) hb); replace HB := ak (below_step zj_0 hb); (try clear hb); (try clear hb2); (try clear hk); (try clear hi)))
      go_ret
      exact ⟨zj_1, zj_0⟩
     obtain rfl := Option.some.inj H
     have b3 := cz20 a3.out
     have b4 := cz21 a3.out
     have b5 := blk_frozen a3.out 0
     have b6 := blk_frozen a3.out 1
     go_wp2_with (first | ((first | ((with_reducible refine gate_callee (f := 45) rfl ?_); refine gl_ (some 60) Try.func45 #[.agg #[.slice b2 a5.length b0, .slice b1 a4.length a9], .int .i64 a6, .int .i64 a7] ?_; (with_reducible refine (impl_WithOk.calls _ _ a5 _ _ a4 a6 a7 false _ (y1 a1.out) (y2 a1.out) (y1 a2.out) (y2 a2.out) d2.out).mono ?_); rintro e w' ⟨rfl, hb⟩; refine ⟨_, rfl, ?_⟩) | (go_at_call 45; (with_reducible refine (impl_WithOk.calls _ _ a5 _ _ a4 a7 a6 true _ (y1 a1.out) (y2 a1.out) (y1 a2.out) (y2 a2.out) d3.out).mono ?_); rintro e w' ⟨rfl, hb⟩)); replace a1 := ak (Kd.S_below (xS a1.out) hb); replace a2 := ak (Kd.Q_below (xQ a2.out) hb); replace a3 := ak (blk_below (g := a8) (o := .cells #[.slice b2 a5.length b0, .slice b1 a4.length a9] 26 (0, 0)) (xb a3.out) hb); replace HB := ak (below_step zj_0 hb); (try clear hb); (try clear hb2); (try clear hk); (try clear hi); have b3 := cz20 a3.out; have b4 := cz21 a3.out; have b5 := blk_frozen a3.out 0; have b6 := blk_frozen a3.out 1) | (go_at_call 45; (with_reducible refine (impl_WithOk.calls _ _ a5 _ _ a4 a7 b7 true _ (y1 a1.out) (y2 a1.out) (y1 a2.out) (y2 a2.out) d7.out).mono ?_); rintro e w' ⟨rfl, hb⟩; replace a1 := ak (Kd.S_below (xS a1.out) hb); replace a2 := ak (Kd.Q_below (xQ a2.out) hb); replace a3 := ak (blk_below (g := a8) (o := .cells #[.slice b2 a5.length b0, .slice b1 a4.length a9] 26 (0, 0)) (xb a3.out) hb); replace HB := ak (below_step zj_0 hb); (try clear hb); (try clear hb2); (try clear hk); (try clear hi)))
     go_ret
     exact ⟨zj_1, zj_0⟩
    replace H := bd_ H
    obtain ⟨m3, e5, H⟩ := H
    try dsimp only at H
    replace H := ox_ H
    rcases H with ⟨rfl, H⟩ | ⟨rfl, H⟩
    ·
     replace H := bd_ H
     obtain ⟨m4, f1, H⟩ := H
     try dsimp only at H
     replace H := ox_ H
     rcases H with ⟨rfl, H⟩ | ⟨rfl, H⟩
     ·
      replace H := ox_ H
      rcases H with ⟨rfl, H⟩ | ⟨rfl, H⟩
      ·
       replace H := bd_ H
       obtain ⟨m5, g8, H⟩ := H
       try dsimp only at H
       replace H := ox_ H
       rcases H with ⟨rfl, H⟩ | ⟨rfl, H⟩
       ·
        replace H := bd_ H
        obtain ⟨i8, i9, H⟩ := H
        try dsimp only at H
        obtain rfl := Option.some.inj H
        have b3 := cz20 a3.out
        have b4 := cz21 a3.out
        have b5 := blk_frozen a3.out 0
        have b6 := blk_frozen a3.out 1
        go_wp2_with (first | ((first | ((with_reducible refine gate_callee (f := 45) rfl ?_); refine gl_ (some 60) Try.func45 #[.agg #[.slice b2 a5.length b0, .slice b1 a4.length a9], .int .i64 a6, .int .i64 a7] ?_; (with_reducible refine (impl_WithOk.calls _ _ a5 _ _ a4 a6 a7 false _ (y1 a1.out) (y2 a1.out) (y1 a2.out) (y2 a2.out) d2.out).mono ?_); rintro e w' ⟨rfl, hb⟩; refine ⟨_, rfl, ?_⟩) | (go_at_call 45; (with_reducible refine (impl_WithOk.calls _ _ a5 _ _ a4 a7 a6 true _ (y1 a1.out) (y2 a1.out) (y1 a2.out) (y2 a2.out) d3.out).mono ?_); rintro e w' ⟨rfl, hb⟩) | (go_at_call 45; (with_reducible refine (impl_WithOk.calls _ _ a5 _ _ a4 a7 b7 false _ (y1 a1.out) (y2 a1.out) (y1 a2.out) (y2 a2.out) d7.out).mono ?_); rintro e w' ⟨rfl, hb⟩) | (go_at_call 45; (with_reducible refine (impl_WithOk.calls _ _ a5 _ _ a4 b7 a6 true _ (y1 a1.out) (y2 a1.out) (y1 a2.out) (y2 a2.out) e5.out).mono ?_); rintro e w' ⟨rfl, hb⟩) | (go_at_call 45; (with_reducible refine (impl_WithOk.calls _ _ a5 _ _ a4 b7 a7 true _ (y1 a1.out) (y2 a1.out) (y1 a2.out) (y2 a2.out) f1.out).mono ?_); rintro e w' ⟨rfl, hb⟩) | (go_at_call 48; (with_reducible refine (impl_SplitOk.calls _ _ a5 _ _ a4 a7 a6 b7 true _ (y1 a1.out) (y2 a1.out) (y1 a2.out) (y2 a2.out) g8.out).mono ?_); rintro e w' ⟨rfl, hb⟩)); replace a1 := ak (Kd.S_below (xS a1.out) hb); replace a2 := ak (Kd.Q_below (xQ a2.out) hb); replace a3 := ak (blk_below (g := a8) (o := .cells #[.slice b2 a5.length b0, .slice b1 a4.length a9] 26 (0, 0)) (xb a3.out) hb); replace HB := ak (below_step zj_0 hb); (try clear hb); (try clear hb2); (try clear hk); (try clear hi); have b3 := cz20 a3.out; have b4 := cz21 a3.out; have b5 := blk_frozen a3.out 0; have b6 := blk_frozen a3.out 1) | (go_at_call 48; (with_reducible refine (impl_SplitOk.calls _ _ a5 _ _ a4 b7 a6 a7 i8 _ (y1 a1.out) (y2 a1.out) (y1 a2.out) (y2 a2.out) i9.out).mono ?_); rintro e w' ⟨rfl, hb⟩; replace a1 := ak (Kd.S_below (xS a1.out) hb); replace a2 := ak (Kd.Q_below (xQ a2.out) hb); replace a3 := ak (blk_below (g := a8) (o := .cells #[.slice b2 a5.length b0, .slice b1 a4.length a9] 26 (0, 0)) (xb a3.out) hb); replace HB := ak (below_step zj_0 hb); (try clear hb); (try clear hb2); (try clear hk); (try clear hi)))
        go_ret
        exact ⟨zj_1, zj_0⟩
       obtain rfl := Option.some.inj H
       have b3 := cz20 a3.out
       have b4 := cz21 a3.out
       have b5 := blk_frozen a3.out 0
       have b6 := blk_frozen a3.out 1
       go_wp2_with (first | ((first | ((with_reducible refine gate_callee (f := 45) rfl ?_); refine gl_ (some 60) Try.func45 #[.agg #[.slice b2 a5.length b0, .slice b1 a4.length a9], .int .i64 a6, .int .i64 a7] ?_; (with_reducible refine (impl_WithOk.calls _ _ a5 _ _ a4 a6 a7 false _ (y1 a1.out) (y2 a1.out) (y1 a2.out) (y2 a2.out) d2.out).mono ?_); rintro e w' ⟨rfl, hb⟩; refine ⟨_, rfl, ?_⟩) | (go_at_call 45; (with_reducible refine (impl_WithOk.calls _ _ a5 _ _ a4 a7 a6 true _ (y1 a1.out) (y2 a1.out) (y1 a2.out) (y2 a2.out) d3.out).mono ?_); rintro e w' ⟨rfl, hb⟩) | (go_at_call 45; (with_reducible refine (impl_WithOk.calls _ _ a5 _ _ a4 a7 b7 false _ (y1 a1.out) (y2 a1.out) (y1 a2.out) (y2 a2.out) d7.out).mono ?_); rintro e w' ⟨rfl, hb⟩) | (go_at_call 45; (with_reducible refine (impl_WithOk.calls _ _ a5 _ _ a4 b7 a6 true _ (y1 a1.out) (y2 a1.out) (y1 a2.out) (y2 a2.out) e5.out).mono ?_); rintro e w' ⟨rfl, hb⟩) | (go_at_call 45; (with_reducible refine (impl_WithOk.calls _ _ a5 _ _ a4 b7 a7 true _ (y1 a1.out) (y2 a1.out) (y1 a2.out) (y2 a2.out) f1.out).mono ?_); rintro e w' ⟨rfl, hb⟩)); replace a1 := ak (Kd.S_below (xS a1.out) hb); replace a2 := ak (Kd.Q_below (xQ a2.out) hb); replace a3 := ak (blk_below (g := a8) (o := .cells #[.slice b2 a5.length b0, .slice b1 a4.length a9] 26 (0, 0)) (xb a3.out) hb); replace HB := ak (below_step zj_0 hb); (try clear hb); (try clear hb2); (try clear hk); (try clear hi); have b3 := cz20 a3.out; have b4 := cz21 a3.out; have b5 := blk_frozen a3.out 0; have b6 := blk_frozen a3.out 1) | (go_at_call 48; (with_reducible refine (impl_SplitOk.calls _ _ a5 _ _ a4 a7 a6 b7 false _ (y1 a1.out) (y2 a1.out) (y1 a2.out) (y2 a2.out) g8.out).mono ?_); rintro e w' ⟨rfl, hb⟩; replace a1 := ak (Kd.S_below (xS a1.out) hb); replace a2 := ak (Kd.Q_below (xQ a2.out) hb); replace a3 := ak (blk_below (g := a8) (o := .cells #[.slice b2 a5.length b0, .slice b1 a4.length a9] 26 (0, 0)) (xb a3.out) hb); replace HB := ak (below_step zj_0 hb); (try clear hb); (try clear hb2); (try clear hk); (try clear hi)))
       go_ret
       exact ⟨zj_1, zj_0⟩
      obtain rfl := Option.some.inj H
      have b3 := cz20 a3.out
      have b4 := cz21 a3.out
      have b5 := blk_frozen a3.out 0
      have b6 := blk_frozen a3.out 1
      go_wp2_with (first | ((first | ((with_reducible refine gate_callee (f := 45) rfl ?_); refine gl_ (some 60) Try.func45 #[.agg #[.slice b2 a5.length b0, .slice b1 a4.length a9], .int .i64 a6, .int .i64 a7] ?_; (with_reducible refine (impl_WithOk.calls _ _ a5 _ _ a4 a6 a7 false _ (y1 a1.out) (y2 a1.out) (y1 a2.out) (y2 a2.out) d2.out).mono ?_); rintro e w' ⟨rfl, hb⟩; refine ⟨_, rfl, ?_⟩) | (go_at_call 45; (with_reducible refine (impl_WithOk.calls _ _ a5 _ _ a4 a7 a6 true _ (y1 a1.out) (y2 a1.out) (y1 a2.out) (y2 a2.out) d3.out).mono ?_); rintro e w' ⟨rfl, hb⟩) | (go_at_call 45; (with_reducible refine (impl_WithOk.calls _ _ a5 _ _ a4 a7 b7 false _ (y1 a1.out) (y2 a1.out) (y1 a2.out) (y2 a2.out) d7.out).mono ?_); rintro e w' ⟨rfl, hb⟩) | (go_at_call 45; (with_reducible refine (impl_WithOk.calls _ _ a5 _ _ a4 b7 a6 true _ (y1 a1.out) (y2 a1.out) (y1 a2.out) (y2 a2.out) e5.out).mono ?_); rintro e w' ⟨rfl, hb⟩)); replace a1 := ak (Kd.S_below (xS a1.out) hb); replace a2 := ak (Kd.Q_below (xQ a2.out) hb); replace a3 := ak (blk_below (g := a8) (o := .cells #[.slice b2 a5.length b0, .slice b1 a4.length a9] 26 (0, 0)) (xb a3.out) hb); replace HB := ak (below_step zj_0 hb); (try clear hb); (try clear hb2); (try clear hk); (try clear hi); have b3 := cz20 a3.out; have b4 := cz21 a3.out; have b5 := blk_frozen a3.out 0; have b6 := blk_frozen a3.out 1) | (go_at_call 45; (with_reducible refine (impl_WithOk.calls _ _ a5 _ _ a4 b7 a7 true _ (y1 a1.out) (y2 a1.out) (y1 a2.out) (y2 a2.out) f1.out).mono ?_); rintro e w' ⟨rfl, hb⟩; replace a1 := ak (Kd.S_below (xS a1.out) hb); replace a2 := ak (Kd.Q_below (xQ a2.out) hb); replace a3 := ak (blk_below (g := a8) (o := .cells #[.slice b2 a5.length b0, .slice b1 a4.length a9] 26 (0, 0)) (xb a3.out) hb); replace HB := ak (below_step zj_0 hb); (try clear hb); (try clear hb2); (try clear hk); (try clear hi)))
      go_ret
      exact ⟨zj_1, zj_0⟩
     obtain rfl := Option.some.inj H
     have b3 := cz20 a3.out
     have b4 := cz21 a3.out
     have b5 := blk_frozen a3.out 0
     have b6 := blk_frozen a3.out 1
     go_wp2_with (first | ((first | ((with_reducible refine gate_callee (f := 45) rfl ?_); refine gl_ (some 60) Try.func45 #[.agg #[.slice b2 a5.length b0, .slice b1 a4.length a9], .int .i64 a6, .int .i64 a7] ?_; (with_reducible refine (impl_WithOk.calls _ _ a5 _ _ a4 a6 a7 false _ (y1 a1.out) (y2 a1.out) (y1 a2.out) (y2 a2.out) d2.out).mono ?_); rintro e w' ⟨rfl, hb⟩; refine ⟨_, rfl, ?_⟩) | (go_at_call 45; (with_reducible refine (impl_WithOk.calls _ _ a5 _ _ a4 a7 a6 true _ (y1 a1.out) (y2 a1.out) (y1 a2.out) (y2 a2.out) d3.out).mono ?_); rintro e w' ⟨rfl, hb⟩) | (go_at_call 45; (with_reducible refine (impl_WithOk.calls _ _ a5 _ _ a4 a7 b7 false _ (y1 a1.out) (y2 a1.out) (y1 a2.out) (y2 a2.out) d7.out).mono ?_); rintro e w' ⟨rfl, hb⟩) | (go_at_call 45; (with_reducible refine (impl_WithOk.calls _ _ a5 _ _ a4 b7 a6 true _ (y1 a1.out) (y2 a1.out) (y1 a2.out) (y2 a2.out) e5.out).mono ?_); rintro e w' ⟨rfl, hb⟩)); replace a1 := ak (Kd.S_below (xS a1.out) hb); replace a2 := ak (Kd.Q_below (xQ a2.out) hb); replace a3 := ak (blk_below (g := a8) (o := .cells #[.slice b2 a5.length b0, .slice b1 a4.length a9] 26 (0, 0)) (xb a3.out) hb); replace HB := ak (below_step zj_0 hb); (try clear hb); (try clear hb2); (try clear hk); (try clear hi); have b3 := cz20 a3.out; have b4 := cz21 a3.out; have b5 := blk_frozen a3.out 0; have b6 := blk_frozen a3.out 1) | (go_at_call 45; (with_reducible refine (impl_WithOk.calls _ _ a5 _ _ a4 b7 a7 false _ (y1 a1.out) (y2 a1.out) (y1 a2.out) (y2 a2.out) f1.out).mono ?_); rintro e w' ⟨rfl, hb⟩; replace a1 := ak (Kd.S_below (xS a1.out) hb); replace a2 := ak (Kd.Q_below (xQ a2.out) hb); replace a3 := ak (blk_below (g := a8) (o := .cells #[.slice b2 a5.length b0, .slice b1 a4.length a9] 26 (0, 0)) (xb a3.out) hb); replace HB := ak (below_step zj_0 hb); (try clear hb); (try clear hb2); (try clear hk); (try clear hi)))
     go_ret
     exact ⟨zj_1, zj_0⟩
    obtain rfl := Option.some.inj H
    have b3 := cz20 a3.out
    have b4 := cz21 a3.out
    have b5 := blk_frozen a3.out 0
    have b6 := blk_frozen a3.out 1
    go_wp2_with (first | ((first | ((with_reducible refine gate_callee (f := 45) rfl ?_); refine gl_ (some 60) Try.func45 #[.agg #[.slice b2 a5.length b0, .slice b1 a4.length a9], .int .i64 a6, .int .i64 a7] ?_; (with_reducible refine (impl_WithOk.calls _ _ a5 _ _ a4 a6 a7 false _ (y1 a1.out) (y2 a1.out) (y1 a2.out) (y2 a2.out) d2.out).mono ?_); rintro e w' ⟨rfl, hb⟩; refine ⟨_, rfl, ?_⟩) | (go_at_call 45; (with_reducible refine (impl_WithOk.calls _ _ a5 _ _ a4 a7 a6 true _ (y1 a1.out) (y2 a1.out) (y1 a2.out) (y2 a2.out) d3.out).mono ?_); rintro e w' ⟨rfl, hb⟩) | (go_at_call 45; (with_reducible refine (impl_WithOk.calls _ _ a5 _ _ a4 a7 b7 false _ (y1 a1.out) (y2 a1.out) (y1 a2.out) (y2 a2.out) d7.out).mono ?_); rintro e w' ⟨rfl, hb⟩)); replace a1 := ak (Kd.S_below (xS a1.out) hb); replace a2 := ak (Kd.Q_below (xQ a2.out) hb); replace a3 := ak (blk_below (g := a8) (o := .cells #[.slice b2 a5.length b0, .slice b1 a4.length a9] 26 (0, 0)) (xb a3.out) hb); replace HB := ak (below_step zj_0 hb); (try clear hb); (try clear hb2); (try clear hk); (try clear hi); have b3 := cz20 a3.out; have b4 := cz21 a3.out; have b5 := blk_frozen a3.out 0; have b6 := blk_frozen a3.out 1) | (go_at_call 45; (with_reducible refine (impl_WithOk.calls _ _ a5 _ _ a4 b7 a6 false _ (y1 a1.out) (y2 a1.out) (y1 a2.out) (y2 a2.out) e5.out).mono ?_); rintro e w' ⟨rfl, hb⟩; replace a1 := ak (Kd.S_below (xS a1.out) hb); replace a2 := ak (Kd.Q_below (xQ a2.out) hb); replace a3 := ak (blk_below (g := a8) (o := .cells #[.slice b2 a5.length b0, .slice b1 a4.length a9] 26 (0, 0)) (xb a3.out) hb); replace HB := ak (below_step zj_0 hb); (try clear hb); (try clear hb2); (try clear hk); (try clear hi)))
    go_ret
    exact ⟨zj_1, zj_0⟩
   replace H := bd_ H
   obtain ⟨m6, e6, H⟩ := H
   try dsimp only at H
   replace H := ox_ H
   rcases H with ⟨rfl, H⟩ | ⟨rfl, H⟩
   ·
    replace H := bd_ H
    obtain ⟨m7, f2, H⟩ := H
    try dsimp only at H
    replace H := ox_ H
    rcases H with ⟨rfl, H⟩ | ⟨rfl, H⟩
    ·
     replace H := ox_ H
     rcases H with ⟨rfl, H⟩ | ⟨rfl, H⟩
     ·
      replace H := bd_ H
      obtain ⟨m8, g9, H⟩ := H
      try dsimp only at H
      replace H := ox_ H
      rcases H with ⟨rfl, H⟩ | ⟨rfl, H⟩
      ·
       replace H := bd_ H
       obtain ⟨j1, j2, H⟩ := H
       try dsimp only at H
       obtain rfl := Option.some.inj H
       have b3 := cz20 a3.out
       have b4 := cz21 a3.out
       have b5 := blk_frozen a3.out 0
       have b6 := blk_frozen a3.out 1
       go_wp2_with (first | ((first | ((with_reducible refine gate_callee (f := 45) rfl ?_); refine gl_ (some 60) Try.func45 #[.agg #[.slice b2 a5.length b0, .slice b1 a4.length a9], .int .i64 a6, .int .i64 a7] ?_; (with_reducible refine (impl_WithOk.calls _ _ a5 _ _ a4 a6 a7 false _ (y1 a1.out) (y2 a1.out) (y1 a2.out) (y2 a2.out) d2.out).mono ?_); rintro e w' ⟨rfl, hb⟩; refine ⟨_, rfl, ?_⟩) | (go_at_call 45; (with_reducible refine (impl_WithOk.calls _ _ a5 _ _ a4 a7 a6 false _ (y1 a1.out) (y2 a1.out) (y1 a2.out) (y2 a2.out) d3.out).mono ?_); rintro e w' ⟨rfl, hb⟩) | (go_at_call 45; (with_reducible refine (impl_WithOk.calls _ _ a5 _ _ a4 b7 a6 true _ (y1 a1.out) (y2 a1.out) (y1 a2.out) (y2 a2.out) e6.out).mono ?_); rintro e w' ⟨rfl, hb⟩) | (go_at_call 45; (with_reducible refine (impl_WithOk.calls _ _ a5 _ _ a4 b7 a7 true _ (y1 a1.out) (y2 a1.out) (y1 a2.out) (y2 a2.out) f2.out).mono ?_); rintro e w' ⟨rfl, hb⟩) | (go_at_call 48; (with_reducible refine (impl_SplitOk.calls _ _ a5 _ _ a4 a7 a6 b7 true _ (y1 a1.out) (y2 a1.out) (y1 a2.out) (y2 a2.out) g9.out).mono ?_); rintro e w' ⟨rfl, hb⟩)); replace a1 := ak (Kd.S_below (xS a1.out) hb); replace a2 := ak (Kd.Q_below (xQ a2.out) hb); replace a3 := ak (blk_below (g := a8) (o := .cells #[.slice b2 a5.length b0, .slice b1 a4.length a9] 26 (0, 0)) (xb a3.out) hb); replace HB := ak (below_step zj_0 hb); (try clear hb); (try clear hb2); (try clear hk); (try clear hi); have b3 := cz20 a3.out; have b4 := cz21 a3.out; have b5 := blk_frozen a3.out 0; have b6 := blk_frozen a3.out 1) | (go_at_call 48; (with_reducible refine (impl_SplitOk.calls _ _ a5 _ _ a4 b7 a6 a7 j1 _ (y1 a1.out) (y2 a1.out) (y1 a2.out) (y2 a2.out) j2.out).mono ?_); rintro e w' ⟨rfl, hb⟩; replace a1 := ak (Kd.S_below (xS a1.out) hb); replace a2 := ak (Kd.Q_below (xQ a2.out) hb); replace a3 := ak (blk_below (g := a8) (o := .cells #[.slice b2 a5.length b0, .slice b1 a4.length a9] 26 (0, 0)) (xb a3.out) hb); replace HB := ak (below_step zj_0 hb); (try clear hb); (try clear hb2); (try clear hk); (try clear hi)))
       go_ret
       exact ⟨zj_1, zj_0⟩
      obtain rfl := Option.some.inj H
      have b3 := cz20 a3.out
      have b4 := cz21 a3.out
      have b5 := blk_frozen a3.out 0
      have b6 := blk_frozen a3.out 1
      go_wp2_with (first | ((first | ((with_reducible refine gate_callee (f := 45) rfl ?_); refine gl_ (some 60) Try.func45 #[.agg #[.slice b2 a5.length b0, .slice b1 a4.length a9], .int .i64 a6, .int .i64 a7] ?_; (with_reducible refine (impl_WithOk.calls _ _ a5 _ _ a4 a6 a7 false _ (y1 a1.out) (y2 a1.out) (y1 a2.out) (y2 a2.out) d2.out).mono ?_); rintro e w' ⟨rfl, hb⟩; refine ⟨_, rfl, ?_⟩) | (go_at_call 45; (with_reducible refine (impl_WithOk.calls _ _ a5 _ _ a4 a7 a6 false _ (y1 a1.out) (y2 a1.out) (y1 a2.out) (y2 a2.out) d3.out).mono ?_); rintro e w' ⟨rfl, hb⟩) | (go_at_call 45; (with_reducible refine (impl_WithOk.calls _ _ a5 _ _ a4 b7 a6 true _ (y1 a1.out) (y2 a1.out) (y1 a2.out) (y2 a2.out) e6.out).mono ?_); rintro e w' ⟨rfl, hb⟩) | (go_at_call 45; (with_reducible refine (impl_WithOk.calls _ _ a5 _ _ a4 b7 a7 true _ (y1 a1.out) (y2 a1.out) (y1 a2.out) (y2 a2.out) f2.out).mono ?_); rintro e w' ⟨rfl, hb⟩)); replace a1 := ak (Kd.S_below (xS a1.out) hb); replace a2 := ak (Kd.Q_below (xQ a2.out) hb); replace a3 := ak (blk_below (g := a8) (o := .cells #[.slice b2 a5.length b0, .slice b1 a4.length a9] 26 (0, 0)) (xb a3.out) hb); replace HB := ak (below_step zj_0 hb); (try clear hb); (try clear hb2); (try clear hk); (try clear hi); have b3 := cz20 a3.out; have b4 := cz21 a3.out; have b5 := blk_frozen a3.out 0; have b6 := blk_frozen a3.out 1) | (go_at_call 48; (with_reducible refine (impl_SplitOk.calls _ _ a5 _ _ a4 a7 a6 b7 false _ (y1 a1.out) (y2 a1.out) (y1 a2.out) (y2 a2.out) g9.out).mono ?_); rintro e w' ⟨rfl, hb⟩; replace a1 := ak (Kd.S_below (xS a1.out) hb); replace a2 := ak (Kd.Q_below (xQ a2.out) hb); replace a3 := ak (blk_below (g := a8) (o := .cells #[.slice b2 a5.length b0, .slice b1 a4.length a9] 26 (0, 0)) (xb a3.out) hb); replace HB := ak (below_step zj_0 hb); (try clear hb); (try clear hb2); (try clear hk); (try clear hi)))
      go_ret
      exact ⟨zj_1, zj_0⟩
     obtain rfl := Option.some.inj H
     have b3 := cz20 a3.out
     have b4 := cz21 a3.out
     have b5 := blk_frozen a3.out 0
     have b6 := blk_frozen a3.out 1
     go_wp2_with (first | ((first | ((with_reducible refine gate_callee (f := 45) rfl ?_); refine gl_ (some 60) Try.func45 #[.agg #[.slice b2 a5.length b0, .slice b1 a4.length a9], .int .i64 a6, .int .i64 a7] ?_; (with_reducible refine (impl_WithOk.calls _ _ a5 _ _ a4 a6 a7 false _ (y1 a1.out) (y2 a1.out) (y1 a2.out) (y2 a2.out) d2.out).mono ?_); rintro e w' ⟨rfl, hb⟩; refine ⟨_, rfl, ?_⟩) | (go_at_call 45; (with_reducible refine (impl_WithOk.calls _ _ a5 _ _ a4 a7 a6 false _ (y1 a1.out) (y2 a1.out) (y1 a2.out) (y2 a2.out) d3.out).mono ?_); rintro e w' ⟨rfl, hb⟩) | (go_at_call 45; (with_reducible refine (impl_WithOk.calls _ _ a5 _ _ a4 b7 a6 true _ (y1 a1.out) (y2 a1.out) (y1 a2.out) (y2 a2.out) e6.out).mono ?_); rintro e w' ⟨rfl, hb⟩)); replace a1 := ak (Kd.S_below (xS a1.out) hb); replace a2 := ak (Kd.Q_below (xQ a2.out) hb); replace a3 := ak (blk_below (g := a8) (o := .cells #[.slice b2 a5.length b0, .slice b1 a4.length a9] 26 (0, 0)) (xb a3.out) hb); replace HB := ak (below_step zj_0 hb); (try clear hb); (try clear hb2); (try clear hk); (try clear hi); have b3 := cz20 a3.out; have b4 := cz21 a3.out; have b5 := blk_frozen a3.out 0; have b6 := blk_frozen a3.out 1) | (go_at_call 45; (with_reducible refine (impl_WithOk.calls _ _ a5 _ _ a4 b7 a7 true _ (y1 a1.out) (y2 a1.out) (y1 a2.out) (y2 a2.out) f2.out).mono ?_); rintro e w' ⟨rfl, hb⟩; replace a1 := ak (Kd.S_below (xS a1.out) hb); replace a2 := ak (Kd.Q_below (xQ a2.out) hb); replace a3 := ak (blk_below (g := a8) (o := .cells #[.slice b2 a5.length b0, .slice b1 a4.length a9] 26 (0, 0)) (xb a3.out) hb); replace HB := ak (below_step zj_0 hb); (try clear hb); (try clear hb2); (try clear hk); (try clear hi)))
     go_ret
     exact ⟨zj_1, zj_0⟩
    obtain rfl := Option.some.inj H
    have b3 := cz20 a3.out
    have b4 := cz21 a3.out
    have b5 := blk_frozen a3.out 0
    have b6 := blk_frozen a3.out 1
    go_wp2_with (first | ((first | ((with_reducible refine gate_callee (f := 45) rfl ?_); refine gl_ (some 60) Try.func45 #[.agg #[.slice b2 a5.length b0, .slice b1 a4.length a9], .int .i64 a6, .int .i64 a7] ?_; (with_reducible refine (impl_WithOk.calls _ _ a5 _ _ a4 a6 a7 false _ (y1 a1.out) (y2 a1.out) (y1 a2.out) (y2 a2.out) d2.out).mono ?_); rintro e w' ⟨rfl, hb⟩; refine ⟨_, rfl, ?_⟩) | (go_at_call 45; (with_reducible refine (impl_WithOk.calls _ _ a5 _ _ a4 a7 a6 false _ (y1 a1.out) (y2 a1.out) (y1 a2.out) (y2 a2.out) d3.out).mono ?_); rintro e w' ⟨rfl, hb⟩) | (go_at_call 45; (with_reducible refine (impl_WithOk.calls _ _ a5 _ _ a4 b7 a6 true _ (y1 a1.out) (y2 a1.out) (y1 a2.out) (y2 a2.out) e6.out).mono ?_); rintro e w' ⟨rfl, hb⟩)); replace a1 := ak (Kd.S_below (xS a1.out) hb); replace a2 := ak (Kd.Q_below (xQ a2.out) hb); replace a3 := ak (blk_below (g := a8) (o := .cells #[.slice b2 a5.length b0, .slice b1 a4.length a9] 26 (0, 0)) (xb a3.out) hb); replace HB := ak (below_step zj_0 hb); (try clear hb); (try clear hb2); (try clear hk); (try clear hi); have b3 := cz20 a3.out; have b4 := cz21 a3.out; have b5 := blk_frozen a3.out 0; have b6 := blk_frozen a3.out 1) | (go_at_call 45; (with_reducible refine (impl_WithOk.calls _ _ a5 _ _ a4 b7 a7 false _ (y1 a1.out) (y2 a1.out) (y1 a2.out) (y2 a2.out) f2.out).mono ?_); rintro e w' ⟨rfl, hb⟩; replace a1 := ak (Kd.S_below (xS a1.out) hb); replace a2 := ak (Kd.Q_below (xQ a2.out) hb); replace a3 := ak (blk_below (g := a8) (o := .cells #[.slice b2 a5.length b0, .slice b1 a4.length a9] 26 (0, 0)) (xb a3.out) hb); replace HB := ak (below_step zj_0 hb); (try clear hb); (try clear hb2); (try clear hk); (try clear hi)))
    go_ret
    exact ⟨zj_1, zj_0⟩
   obtain rfl := Option.some.inj H
   have b3 := cz20 a3.out
   have b4 := cz21 a3.out
   have b5 := blk_frozen a3.out 0
   have b6 := blk_frozen a3.out 1
   go_wp2_with (first | ((first | ((with_reducible refine gate_callee (f := 45) rfl ?_); refine gl_ (some 60) Try.func45 #[.agg #[.slice b2 a5.length b0, .slice b1 a4.length a9], .int .i64 a6, .int .i64 a7] ?_; (with_reducible refine (impl_WithOk.calls _ _ a5 _ _ a4 a6 a7 false _ (y1 a1.out) (y2 a1.out) (y1 a2.out) (y2 a2.out) d2.out).mono ?_); rintro e w' ⟨rfl, hb⟩; refine ⟨_, rfl, ?_⟩) | (go_at_call 45; (with_reducible refine (impl_WithOk.calls _ _ a5 _ _ a4 a7 a6 false _ (y1 a1.out) (y2 a1.out) (y1 a2.out) (y2 a2.out) d3.out).mono ?_); rintro e w' ⟨rfl, hb⟩)); replace a1 := ak (Kd.S_below (xS a1.out) hb); replace a2 := ak (Kd.Q_below (xQ a2.out) hb); replace a3 := ak (blk_below (g := a8) (o := .cells #[.slice b2 a5.length b0, .slice b1 a4.length a9] 26 (0, 0)) (xb a3.out) hb); replace HB := ak (below_step zj_0 hb); (try clear hb); (try clear hb2); (try clear hk); (try clear hi); have b3 := cz20 a3.out; have b4 := cz21 a3.out; have b5 := blk_frozen a3.out 0; have b6 := blk_frozen a3.out 1) | (go_at_call 45; (with_reducible refine (impl_WithOk.calls _ _ a5 _ _ a4 b7 a6 false _ (y1 a1.out) (y2 a1.out) (y1 a2.out) (y2 a2.out) e6.out).mono ?_); rintro e w' ⟨rfl, hb⟩; replace a1 := ak (Kd.S_below (xS a1.out) hb); replace a2 := ak (Kd.Q_below (xQ a2.out) hb); replace a3 := ak (blk_below (g := a8) (o := .cells #[.slice b2 a5.length b0, .slice b1 a4.length a9] 26 (0, 0)) (xb a3.out) hb); replace HB := ak (below_step zj_0 hb); (try clear hb); (try clear hb2); (try clear hk); (try clear hi)))
   go_ret
   exact ⟨zj_1, zj_0⟩

theorem laws_FnSplitOk.walk (P : laws_FnSplitOk.Pure) (a0 : Option Addr) (len0 cap0 : Nat) (z0 : List Int) (w : World) (w0 : (a0 = none ∧ len0 = 0 ∧ cap0 = 0 ∧ z0 = []) ∨ ∃ x, a0 = some x ∧ len0 ≤ cap0 ∧ cap0 ≤ maxLen ∧ z0.length = cap0 ∧ (∀ i, i < z0.length → w.cell? (x.add i) = some (.int .u8 (z0.getD i 0))) ∧ ∀ n ∈ z0, (Lit.int .u8 n).wf = true) (y0 : len0 * 1 ≤ 140737488351232) :
 Calls Try.prog 12 #[.slice a0 len0 cap0] w fun e w' => e = .returned (.bool true) ∧ Below w.heap.size w w' := by
 obtain ⟨l0, rfl, hr0, hm0, hw0, hc0⟩ := ReadsInt.ofRowC w0
 obtain ⟨k, h⟩ := P l0 hm0 y0 hw0
 refine (laws_FnSplitOk.calls k _ _ l0 true w (Kd.C_of_reads (d := (0 : Int)) (h1 := fun _ => rfl) hr0) hc0 h).mono ?_
 rintro e w' ⟨rfl, hd⟩
 exact ⟨rfl, hd⟩

end Go.Proofs.Ytjgfpiilfnchnaa.P
