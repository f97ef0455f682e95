-- written by gen.py (a program of this session) out of the kit's print of this seat's translation
import Derived.Test.YtilgbnbeonlbnaaPk2
namespace Go.Proofs.Ytilgbnbeonlbnaa.P
open Go.RowKit Go.Proofs.YtilgbnbeonlbnaaW.PrintWords Go.Proofs.YtilgbnbeonlbnaaW.PrintLast Go.Proofs.YtilgbnbeonlbnaaW.PrintMore
attribute [local go_sem] max2_int min2_int max_two min_two max_three min_three max_four min_four
set_option linter.unusedVariables false
set_option linter.unusedSimpArgs false
theorem zi_2 {p : Prop} (h : p := by (with_reducible repeat (first | apply Kd.S_alloc | apply Kd.S_drewN | apply Kd.S_drew)); exact Kd.S_mono a1.out (fun _ hk => hk.2)) : p := h
theorem zi_1 {p : Prop} (h : p := by first | rfl | (simp; done) | (simp [*]; done)) : p := h
theorem zi_0 {p : Prop} (h : p := by repeat (first | (with_reducible first | exact HB.out | apply below_alloc | apply pw_below_drewN | apply below_drew1) | exact HB.out)) : p := h
set_option maxHeartbeats 8000000 in
set_option maxRecDepth 100000 in
theorem spec_TurnedOf.calls (k : Nat) (A0 : Option Addr) (c0 : Nat) (l0 : List (List Int)) (r : List (List Int)) (w : World) (hr0 : Kd.C (Kd.slice 3 (Kd.int .i64)) w A0 l0.length l0) (hc0 : l0.length ≤ c0) (h : spec_TurnedOf.f k l0 = some r) :
 Calls Try.prog 30 #[.slice A0 l0.length c0] w fun e w' => ∃ v0_ : Value, e = .returned (v0_) ∧ Kd.S (Kd.slice 3 (Kd.int .i64)) 32 w' w.heap.size (fun _ => True) v0_ r ∧ Below w.heap.size w w' := by
 have HR0 := ak hr0
 have e0 := ak hc0
 clear hr0 hc0
 have HB := ak (Below.refl w.heap.size w)
 have H : (spec_TurnedOf.l0 k l0 (([] : List (List Int))) 0) = some r := h
 clear h
 obtain ⟨y368, hy368⟩ : ∃ y_ : List (List Int), y_ = (([] : List (List Int))) := ⟨_, rfl⟩
 replace H : (spec_TurnedOf.l0 k l0 y368 0) = some r := by first | (rw [hy368]; with_reducible exact H) | (have H2_ := (Option.bind_some _ _).symm.trans H; rw [hy368]; with_reducible exact H2_) | (have H2_ := (Option.bind_some _ _).symm.trans H; with_reducible exact H2_) | with_reducible exact H | (rw [hy368]; exact H) | exact H
 have Ny368 := ak hy368
 clear hy368
 have H' := ak H
 clear H
 go_enter Try.func30, Try.ntmps30
 go_wp2_with (first | ((with_reducible refine gate_dst (N := 7) rfl ?_); refine Kd.S_lit (Kd.slice 3 (Kd.int .i64)) _ 32 ?hg (N := 7) ?hd (xs := ([] : List (List Int))) (inner := []) (ok := fun _ => True) (okp := fun _ => True) ?hr ?hp (fun _ hk => hk) trivial (Below.refl _ _) (Nat.le_refl _) (by simp) ?_; (case hd => rfl); (case hg => rfl); (case hr => first | (go_simp; done) | (go_simp; rfl)); (case hp => exact (Reps.none _ _)); intro e1 w2 ho3 hb hg_ hnew_; clear hg_ hnew_; (first | rw [← Ny368.out] at ho3 | (simp only [Int.reduceToNat] at ho3; rw [← Ny368.out] at ho3)); have b0 := ak (Kd.S_lower ho3 (below_size zi_0)); replace HB := ak (below_step zi_0 hb); clear hb ho3))
 go_loopg [3, 4] k (fun kq v3 v4 w' => ∃ (a3 : List (List Int)) (a0 : Int), v4 = .int .i64 a0 ∧ Aside0 (spec_TurnedOf.l0 kq l0 a3 a0 = some r) ∧ Aside0 (kq ≤ k) ∧ Aside0 (Kd.S (Kd.slice 3 (Kd.int .i64)) 32 w' w.heap.size (fun _ => True) v3 a3) ∧ Aside0 (Below w.heap.size w w'))
 case atStart => exact ⟨(y368), (0), zi_1, H', ⟨Nat.le_refl _⟩, ⟨(xS b0.out)⟩, ⟨zi_0⟩⟩
 case round =>
  clear H'
  obtain ⟨a3, a0, rfl, HA, HK1, a1, HB⟩ := hrel
  cases gk with
  | zero => exact absurd HA.out (by simp [spec_TurnedOf.l0])
  | succ k1 =>
   have H := HA.out
   clear HA
   simp only [spec_TurnedOf.l0] at H
   have d0 := ak H
   clear H
   go_upto_region 3 with (fail)
   go_cut [15] (fun e2 wc => ∃ (kq : Nat) (a6 : Bool), e2 = .bool a6 ∧ Aside0 (spec_TurnedOf.j1 kq l0 a3 a0 a6 = some r) ∧ Aside0 (kq ≤ k1) ∧ Aside0 (Kd.S (Kd.slice 3 (Kd.int .i64)) 32 wc w.heap.size (fun _ => True) u3 a3) ∧ Aside0 (Below w.heap.size w wc))
   case first =>
    have H := d0.out
    clear d0
    replace H := os_ H
    rcases H with ⟨a7, H⟩ | ⟨a7, H⟩
    ·
     (first | rw [a7] | (simp only [i64_w, i32_w]; rw [a7]) | skip)
     obtain ⟨b1, A6, H⟩ := bd_ H
     try dsimp only at H
     have H' := ak H
     clear H
     go_wp2_with (first | (go_at_call 19; (with_reducible refine (spec_OrderOk.calls k1 _ _ l0 b1 _ (y3 HR0.out HB.out) e0.out A6.out).mono ?_); rintro e w' ⟨rfl, ⟨nd, rfl⟩⟩))
     go_meet
     case rel => exact ⟨_, (b1), zi_1, H', ⟨(by have := HK1.out; first | omega | exact Nat.le_refl _)⟩, ⟨(xS a1.out)⟩, ⟨zi_0⟩⟩
    (first | rw [a7] | (simp only [i64_w, i32_w]; rw [a7]) | skip)
    have H' := ak H
    clear H
    go_wp2
    go_meet
    case rel => exact ⟨_, (false), zi_1, H', ⟨(by have := HK1.out; first | omega | exact Nat.le_refl _)⟩, ⟨(xS a1.out)⟩, ⟨zi_0⟩⟩
   case rest =>
    clear d0
    obtain ⟨kq, a6, rfl, HA, b8, a1, HB⟩ := hcut
    cases kq with
    | zero => exact absurd HA.out (by simp [spec_TurnedOf.j1])
    | succ d1 =>
     have H := HA.out
     clear HA
     simp only [spec_TurnedOf.j1] at H
     replace H := ox_ H
     rcases H with ⟨rfl, H⟩ | ⟨rfl, H⟩
     ·
      obtain ⟨y372, hy372⟩ : ∃ y_ : List Int, y_ = (([] : List Int)) := ⟨_, rfl⟩
      replace H : (spec_TurnedOf.l1 d1 l0 a3 a0 y372 0) = some r := by first | (rw [hy372]; with_reducible exact H) | (have H2_ := (Option.bind_some _ _).symm.trans H; rw [hy372]; with_reducible exact H2_) | (have H2_ := (Option.bind_some _ _).symm.trans H; with_reducible exact H2_) | with_reducible exact H | (rw [hy372]; exact H) | exact H
      have Ny372 := ak hy372
      clear hy372
      have H' := ak H
      clear H
      go_wp2_with (first | ((with_reducible refine gate_dst (N := 18) rfl ?_); refine Kd.R_lit (Kd.int .i64) _ 3 ?hg (N := 18) ?hd (xs := ([] : List Int)) (inner := []) (ok := fun _ => True) (okp := fun _ => True) ?hr ?hp (fun _ hk => hk) trivial (Below.refl _ _) (Nat.le_refl _) (by simp) ?_; (case hd => rfl); (case hg => rfl); (case hr => first | (go_simp; done) | (go_simp; rfl)); (case hp => exact (Reps.none _ _)); intro e3 w8 ho9 hb hg_ hnew_; clear hg_ hnew_; (first | rw [← Ny372.out] at ho9 | (simp only [Int.reduceToNat] at ho9; rw [← Ny372.out] at ho9)); replace a1 := ak (Kd.S_elder' (xS a1.out) (Kd.R_base ho9) hb); have b2 := ak (Kd.R_lower ho9 (below_size zi_0)); replace HB := ak (below_step zi_0 hb); clear hb ho9))
      go_loopg [5, 6] d1 (fun kq v5 v6 w' => ∃ (a4 : List Int) (a2 : Int), v6 = .int .i64 a2 ∧ Aside0 (spec_TurnedOf.l1 kq l0 a3 a0 a4 a2 = some r) ∧ Aside0 (kq ≤ d1) ∧ Aside0 (Kd.S (Kd.slice 3 (Kd.int .i64)) 32 w' w.heap.size (fun k_ => some k_ ≠ (v5 : Value).ownBlock) u3 a3) ∧ Aside0 (Kd.R (Kd.int .i64) 3 w' w.heap.size (fun _ => True) v5 a4) ∧ Aside0 (Below w.heap.size w w'))
      case atStart => exact ⟨(y372), (0), zi_1, H', ⟨Nat.le_refl _⟩, ⟨zi_2⟩, ⟨(xR b2.out)⟩, ⟨zi_0⟩⟩
      case round =>
       clear H'
       try clear c7
       obtain ⟨a4, a2, rfl, HA, HK3, a1, a5, HB⟩ := hrel
       cases gk with
       | zero => exact absurd HA.out (by simp [spec_TurnedOf.l1])
       | succ k3 =>
        have H := HA.out
        clear HA
        simp only [spec_TurnedOf.l1] at H
        replace H := os_ H
        rcases H with ⟨b3, H⟩ | ⟨b3, H⟩
        ·
         replace H := od3 H
         obtain ⟨d5, d6, d7, H⟩ := H
         replace H := ok_ H
         obtain ⟨d8, H⟩ := H
         have LMc14 := ak d8
         clear d8
         obtain ⟨y377, hy377⟩ : ∃ y_ : List Int, y_ = (a4 ++ [rd (rd_L1 l0 a2) a0]) := ⟨_, rfl⟩
         replace H : (spec_TurnedOf.l1 k3 l0 a3 a0 y377 (wrap64 (a2 + 1))) = some r := by first | (rw [hy377]; with_reducible exact H) | (have H2_ := (Option.bind_some _ _).symm.trans H; rw [hy377]; with_reducible exact H2_) | (have H2_ := (Option.bind_some _ _).symm.trans H; with_reducible exact H2_) | with_reducible exact H | (rw [hy377]; exact H) | exact H
         have Ny377 := ak hy377
         clear hy377
         have H' := ak H
         clear H
         have a8 : 0 ≤ (a2 : Int) := oa_
         have q375 : a2 < (l0.length : Int) := oa_
         obtain ⟨ad375, d2, d3, e375, hx375_0, hl375_0, hi375_0⟩ := at_L1 HR0.out a2 a8 q375
         cases e375
         replace hx375_0 := (HB.out.cell (World.block_lt_of_cell? w _ hx375_0)).trans hx375_0
         have HR375_0 := ak hi375_0
         have b9 := ak hl375_0
         clear hi375_0 hl375_0
         replace a8 := eq_true a8
         replace q375 := eq_true q375
         have a9 : 0 ≤ (a0 : Int) := oa_
         have q376 : a0 < ((rd_L1 l0 a2).length : Int) := oa_
         obtain ⟨ad376, e376, hx376_0⟩ := Kd.at_int HR375_0.out a0 a9 q376
         cases e376
         replace hx376_0 := (HB.out.cell (World.block_lt_of_cell? w _ hx376_0)).trans hx376_0
         replace a9 := eq_true a9
         replace q376 := eq_true q376
         go_wp2_with (first | ((with_reducible refine gate_builtin (b := .append) (xs := #[.tmp 25, .tmp 33]) rfl ?_); at_builtin; refine Kd.R_append (Kd.int .i64) (w0 := w) w.heap.size rfl (.tmp 25) (.tmp 33) 32 3 (.int .i64 0) 8 rfl Try.underlying32 info3 rfl (by decide) (by omega) u5 a4 (rd (rd_L1 l0 a2) a0) [.int .i64 (rd (rd_L1 l0 a2) a0)] (fun _ => True) (fun _ => False) rfl rfl ?aP (fun _ hk => hk.elim) ?aF ?aO ?aB ?aS ?aL ?_; (case aP => exact rfl); (case aB => exact zi_0); (case aF => exact (fun _ _ => trivial)); (case aO => exact (xR a5.out)); (case aS => exact (below_size zi_0)); (case aL => have := LMc14.out; omega); intro e4 e6 ho hb hg hat; rw [← Ny377.out] at ho; replace a1 := ak (Kd.S_after (ok := (fun _ => True)) (by (with_reducible repeat (first | apply Kd.S_alloc | apply Kd.S_drewN | apply Kd.S_drew)); exact Kd.S_mono a1.out (fun _ hk => ⟨trivial, hk⟩)) hg hat); replace HB := ak (hb); have b4 := ak (ho); clear a5; clear ho hb hg hat))
         go_roundg k3
         case measure => have := HK1.out; have := b8.out; have := HK3.out; omega
         case rel => exact ⟨(y377), (wrap64 (a2 + 1)), zi_1, H', ⟨(by have := HK1.out; have := b8.out; have := HK3.out; omega)⟩, ⟨zi_2⟩, ⟨(xR b4.out)⟩, ⟨zi_0⟩⟩
        replace H := ok_ H
        obtain ⟨d9, H⟩ := H
        have LMc16 := ak d9
        clear d9
        obtain ⟨y380, hy380⟩ : ∃ y_ : List (List Int), y_ = (a3 ++ [a4]) := ⟨_, rfl⟩
        replace H : (spec_TurnedOf.l0 k3 l0 y380 (wrap64 (a0 + 1))) = some r := by first | (rw [hy380]; with_reducible exact H) | (have H2_ := (Option.bind_some _ _).symm.trans H; rw [hy380]; with_reducible exact H2_) | (have H2_ := (Option.bind_some _ _).symm.trans H; with_reducible exact H2_) | with_reducible exact H | (rw [hy380]; exact H) | exact H
        have Ny380 := ak hy380
        clear hy380
        have H' := ak H
        clear H
        obtain ⟨b5, b6, d4⟩ := Kd.R_slice a5.out
        subst d4
        go_wp2_with (first | ((with_reducible refine gate_builtin (b := .append) (xs := #[.tmp 35, .tmp 37]) rfl ?_); at_builtin; refine Kd.S_append (Kd.slice 3 (Kd.int .i64)) (w0 := w) w.heap.size rfl (.tmp 35) (.tmp 37) 23 32 (.slice none 0 0) 24 rfl Try.underlying23 info32 rfl (by decide) (by omega) u3 a3 a4 [.slice b5 a4.length b6] (fun _ => True) (fun k_ => some k_ = (.slice b5 a4.length b6 : Value).ownBlock) rfl rfl ?aP (fun k_ hk_ => ((Kd.R_mono (ok' := fun k_ => ((fun _ => True)) k_ ∧ some k_ ≠ (u3 : Value).ownBlock) (Kd.R_apart' (a5.out) (Kd.S_typed a1.out) (by decide)) (fun k_ hk => ⟨trivial, hk.2⟩))).1 k_ hk_.symm) ?aF ?aO ?aB ?aS ?aL ?_; (case aP => exact Kd.M_row (Kd.R_mono (Kd.R_tight rfl (Kd.R_mono (ok' := fun k_ => ((fun _ => True)) k_ ∧ some k_ ≠ (u3 : Value).ownBlock) (Kd.R_apart' (a5.out) (Kd.S_typed a1.out) (by decide)) (fun k_ hk => ⟨trivial, hk.2⟩))) (fun _ h_ => h_))); (case aB => exact zi_0); (case aF => exact (fun _ _ => trivial)); (case aO => exact (by (with_reducible repeat (first | apply Kd.S_alloc | apply Kd.S_drewN | apply Kd.S_drew)); exact Kd.S_mono a1.out (fun k_ hk => ⟨trivial, fun e_ => hk e_⟩))); (case aS => exact (below_size zi_0)); (case aL => have := LMc16.out; omega); intro e5 e7 ho hb hg hat; rw [← Ny380.out] at ho; replace HB := ak (hb); have b7 := ak (ho); clear a1 a5; clear ho hb hg hat))
        go_roundg k3
        case measure => have := HK1.out; have := b8.out; have := HK3.out; omega
        case rel => exact ⟨(y380), (wrap64 (a0 + 1)), zi_1, H', ⟨(by have := HK1.out; have := b8.out; have := HK3.out; omega)⟩, ⟨(xS b7.out)⟩, ⟨zi_0⟩⟩
     obtain rfl := Option.some.inj H
     go_wp2
     go_ret
     exact ⟨_, (by first | rfl | (simp [errW_none, errW_some] <;> rfl) | (simp [*, errW_none, errW_some] <;> rfl)), (xS a1.out), zi_0⟩

end Go.Proofs.Ytilgbnbeonlbnaa.P
