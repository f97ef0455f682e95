-- written by gen.py (a program of this session) out of the kit's print of this seat's translation
import Derived.Test.YtilgbnbeonlbnaaPk2
namespace Go.Proofs.Ytilgbnbeonlbnaa.P
open Go.RowKit Go.Proofs.YtilgbnbeonlbnaaW.PrintWords Go.Proofs.YtilgbnbeonlbnaaW.PrintLast Go.Proofs.YtilgbnbeonlbnaaW.PrintMore
attribute [local go_sem] max2_int min2_int max_two min_two max_three min_three max_four min_four
set_option linter.unusedVariables false
set_option linter.unusedSimpArgs false
def impl_turned.T9 : Bool × List (List Nat × List Nat) := (true, [([], []), ([], []), ([0, 1], [0, 1]), ([2], [2]), ([], []), ([], []), ([], []), ([5, 6], [5, 6]), ([7], [7]), ([], []), ([8, 9], [8, 9]), ([10], [10]), ([3, 4, 0, 1, 2, 3, 4, 5, 6, 7, 8, 9, 10, 11], [3, 4]), ([12, 11, 0, 1, 2, 3, 4, 5, 6, 7, 8, 9, 10, 11], [11, 12])])
def impl_turned.B9 : List Nat := [0, 0, 3, 7, 0, 0, 0, 96, 224, 0, 992, 2016, 4095, 8191]
theorem impl_turned.tab9 : rtab .any (opsOf Try.f56 9) = impl_turned.T9 := by kernel_rfl
theorem impl_turned.bits9 : waitsOk impl_turned.T9.2 impl_turned.B9 = true := by kernel_rfl
theorem zh_1 {p : Prop} (h : p := by first | rfl | (simp; done) | (simp [*]; done)) : p := h
theorem zh_0 {p : Prop} (h : p := by repeat (first | (with_reducible first | exact HB.out | apply below_alloc | apply pw_below_drewN | apply below_drew1) | exact HB.out)) : p := h
set_option maxHeartbeats 8000000 in
set_option maxRecDepth 100000 in
theorem impl_turned.calls (k : Nat) (A0 : Option Addr) (c0 : Nat) (l0 : List (List Int)) (r : List (List Int)) (w : World) (hr0 : Kd.C (Kd.slice 3 (Kd.int .i64)) w A0 l0.length l0) (hc0 : l0.length ≤ c0) (h : impl_turned.f k l0 = some r) :
 Calls Try.prog 56 #[.slice A0 l0.length c0] w fun e w' => ∃ v0_ : Value, e = .returned (v0_) ∧ Kd.S (Kd.slice 3 (Kd.int .i64)) 32 w' w.heap.size (fun _ => True) v0_ r ∧ Below w.heap.size w w' := by
 have HR0 := ak hr0
 have f8 := ak hc0
 clear hr0 hc0
 have HB := ak (Below.refl w.heap.size w)
 have H : (if 0 ≤ (l0.length : Int) then (if ((l0.length : Int) : Int).toNat ≤ 11728124029610 then (impl_turned.l0 k l0 (List.replicate ((l0.length : Int) : Int).toNat []) (l0.length : Int) 0) else (none)) else (none)) = some r := h
 clear h
 replace H := ok_ H
 obtain ⟨c2, H⟩ := H
 have b3 := eq_true c2
 have b4 : decide (0 ≤ (l0.length : Int)) = true := dT_ c2
 clear c2
 replace H := ok_ H
 obtain ⟨c3, H⟩ := H
 have b5 := eq_true c3
 have b6 : decide (((l0.length : Int) : Int).toNat ≤ 11728124029610) = true := dT_ c3
 clear c3
 obtain ⟨y274, hy274⟩ : ∃ y_ : List (List Int), y_ = (List.replicate ((l0.length : Int) : Int).toNat []) := ⟨_, rfl⟩
 replace H : (impl_turned.l0 k l0 y274 (l0.length : Int) 0) = some r := by first | (rw [hy274]; with_reducible exact H) | (have H2_ := (Option.bind_some _ _).symm.trans H; rw [hy274]; with_reducible exact H2_) | (have H2_ := (Option.bind_some _ _).symm.trans H; with_reducible exact H2_) | with_reducible exact H | (rw [hy274]; exact H) | exact H
 have Ny274 := ak hy274
 clear hy274
 have H' := ak H
 clear H
 go_enter Try.func56, Try.ntmps56
 go_wp2_with (first | ((with_reducible refine gate_dst (N := 8) rfl ?_); refine Kd.S_make (Kd.slice 3 (Kd.int .i64)) _ 32 rfl (N := 8) rfl 23 _ _ rfl (l0.length : Int) rfl rfl Try.underlying23 (.slice none 0 0) 24 info32 rfl (by decide) (by omega) [] (ok := fun _ => True) (okp := fun _ => True) ⟨_, rfl, Kd.R_nil _ _ _ _ _⟩ (fun _ hk => hk) trivial (oa_) (Nat.le_trans (Nat.mul_le_mul_right _ (oa_ : (l0.length : Int).toNat ≤ 11728124029610)) (by omega)) (Below.refl _ _) (Nat.le_refl _) ?_; intro d8 w4 ho5 hb hg_ hnew_; clear hg_ hnew_; (first | rw [← Ny274.out] at ho5 | (simp only [Int.reduceToNat] at ho5; rw [← Ny274.out] at ho5)); have b7 := ak (Kd.S_lower ho5 (below_size zh_0)); replace HB := ak (below_step zh_0 hb); clear hb ho5))
 go_loopg [11] k (fun kq f5 w' => ∃ (a4 : List (List Int)) (a0 : Int), f5 = .int .i64 a0 ∧ Aside0 (impl_turned.l0 kq l0 a4 (l0.length : Int) a0 = some r) ∧ Aside0 (kq ≤ k) ∧ Aside0 (Kd.S (Kd.slice 3 (Kd.int .i64)) 32 w' w.heap.size (fun _ => True) d8 a4) ∧ Aside0 (Below w.heap.size w w'))
 case atStart => exact ⟨(y274), (0), zh_1, H', ⟨Nat.le_refl _⟩, ⟨(xS b7.out)⟩, ⟨zh_0⟩⟩
 case round =>
  clear H'
  try clear c2
  try clear b3
  try clear b4
  try clear c3
  try clear b5
  try clear b6
  obtain ⟨a4, a0, rfl, HA, HK1, a2, HB⟩ := hrel
  cases gk with
  | zero => exact absurd HA.out (by simp [impl_turned.l0])
  | succ k1 =>
   have H := HA.out
   clear HA
   simp only [impl_turned.l0] at H
   replace H := os_ H
   rcases H with ⟨b8, H⟩ | ⟨b8, H⟩
   ·
    replace H := ok_ H
    obtain ⟨c7, H⟩ := H
    have d9 := eq_true c7
    have e0 : decide (0 ≤ (l0.length : Int)) = true := dT_ c7
    clear c7
    replace H := ok_ H
    obtain ⟨c8, H⟩ := H
    have e1 := eq_true c8
    have e2 : decide (((l0.length : Int) : Int).toNat ≤ 35184372088832) = true := dT_ c8
    clear c8
    obtain ⟨y277, hy277⟩ : ∃ y_ : List Int, y_ = (List.replicate ((l0.length : Int) : Int).toNat 0) := ⟨_, rfl⟩
    replace H : (if 0 ≤ a0 then (if a0 < (a4.length : Int) then (impl_turned.l1 k1 l0 (a4.set (a0 : Int).toNat y277) a0 (l0.length : Int) a0 (l0.length : Int) 0) else (none)) else (none)) = some r := by first | (rw [hy277]; with_reducible exact H) | (have H2_ := (Option.bind_some _ _).symm.trans H; rw [hy277]; with_reducible exact H2_) | (have H2_ := (Option.bind_some _ _).symm.trans H; with_reducible exact H2_) | with_reducible exact H | (rw [hy277]; exact H) | exact H
    have Ny277 := ak hy277
    clear hy277
    replace H := od2 H
    obtain ⟨e3, b9, H⟩ := H
    obtain ⟨y280, hy280⟩ : ∃ y_ : List (List Int), y_ = (a4.set (a0 : Int).toNat y277) := ⟨_, rfl⟩
    replace H : (impl_turned.l1 k1 l0 y280 a0 (l0.length : Int) a0 (l0.length : Int) 0) = some r := by first | (rw [hy280]; with_reducible exact H) | (have H2_ := (Option.bind_some _ _).symm.trans H; rw [hy280]; with_reducible exact H2_) | (have H2_ := (Option.bind_some _ _).symm.trans H; with_reducible exact H2_) | with_reducible exact H | (rw [hy280]; exact H) | exact H
    have Ny280 := ak hy280
    clear hy280
    have H' := ak H
    clear H
    go_wp2_with (first | ((with_reducible refine gate_dst (N := 18) rfl ?_); refine Kd.R_make (Kd.int .i64) _ 3 rfl (N := 18) rfl 32 _ _ rfl (l0.length : Int) rfl rfl Try.underlying32 (.int .i64 0) 8 info3 rfl (by decide) (by omega) 0 (ok := fun _ => True) (okp := fun _ => True) rfl (fun _ hk => hk) trivial (oa_) (Nat.le_trans (Nat.mul_le_mul_right _ (oa_ : (l0.length : Int).toNat ≤ 35184372088832)) (by omega)) (Below.refl _ _) (Nat.le_refl _) ?_; intro a6 e4 ho13 hb hg_ hnew_; clear hg_ hnew_; (first | rw [← Ny277.out] at ho13 | (simp only [Int.reduceToNat] at ho13; rw [← Ny277.out] at ho13)); replace a2 := ak (Kd.S_elder' (xS a2.out) (Kd.R_base ho13) hb); have a5 := ak (Kd.R_lower ho13 (below_size zh_0)); replace HB := ak (below_step zh_0 hb); clear hb ho13; have d5 : 0 ≤ (a0 : Int) := oa_; have q11 : (a0 : Int) < ((a4.length : Int) : Int) := oa_; obtain ⟨go11, a8, d0, d1, gl11, cl11, HG11⟩ := Kd.S_form a2.out (by omega); (first | cases d0 | (injection d0 with ea_ en_ ec_; (first | subst ea_ | (injection ea_ with ea_; subst ea_)); subst ec_; clear en_)); have GB11 := ak d1; have GG11 := ak HG11; clear d1 gl11 HG11; obtain ⟨_, ce11, hcl11, hM11, hcc11, hfr11, _, _⟩ := Kd.S_elem a2.out [] (a0 : Int) d5 q11; obtain ⟨ve11_0, rfl, ge11_0⟩ := hM11; have hx11_0 := hcc11 0 _ rfl; have hf11_0 := hfr11 0; (try simp only [show ((Kd.slice 3 (Kd.int .i64))).sz = 1 from rfl, Nat.mul_one, Nat.add_zero] at hx11_0); (try simp only [show ((Kd.slice 3 (Kd.int .i64))).sz = 1 from rfl, Nat.mul_one, Nat.add_zero] at hf11_0); clear hcl11 hcc11 hfr11; (try clear hM11); replace d5 := eq_true d5; replace q11 := eq_true q11; have n_ := ak (Kd.S_mono (ok' := (fun k_ => some k_ ≠ (a6 : Value).ownBlock)) a2.out (fun k_ hk => hk.2)); clear a2; have a2 := n_; clear n_; have HX14 := ak (show Kd.S (Kd.slice 3 (Kd.int .i64)) 32 e4 w.heap.size (fun k_ => ((fun _ => True)) k_ ∧ ¬ ((fun k_ => some k_ = (a6 : Value).ownBlock)) k_) (.slice (some ⟨go11, 0, none⟩) a4.length a8) a4 from (by (with_reducible repeat (first | apply Kd.S_alloc | apply Kd.S_drewN | apply Kd.S_drew)); exact Kd.S_mono a2.out (fun k_ hk => ⟨trivial, fun e_ => hk e_⟩))); obtain ⟨oki14, ce14, hcl14, hM14, hcc14, hfr14, hoki14, hH14⟩ := Kd.S_elem HX14.out [] (a0 : Int) (oa_) (by have h_ : (a0 : Int) < ((a4.length : Int) : Int) := oa_; first | exact h_ | (have e_ := (Kd.S_reads' a2.out).1; omega) | simpa using h_); obtain ⟨ve14_0, rfl, ge14_0⟩ := hM14; have HP14 := Kd.S_seg hH14 (oa_) (by have h_ : (a0 : Int) < ((a4.length : Int) : Int) := oa_; first | exact h_ | (have e_ := (Kd.S_reads' a2.out).1; omega) | simpa using h_) (seg := [a6]) (j := 0) (show 1 ≤ 1 from by decide) (x' := y277) (Kd.M_row (Kd.R_mono (Kd.R_tight rfl (Kd.R_mono (ok' := fun k_ => ((fun _ => True)) k_ ∧ k_ ≠ go11) (Kd.R_apart' (a5.out) (Kd.S_typed a2.out) (by decide)) (fun k_ hk => ⟨trivial, fun e_ => (hk.2) (by rw [e_]; rfl)⟩))) (fun _ h_ => Or.inr (h_)))) (fun _ hk => hk) (fun k_ hk_ => ((Kd.R_mono (ok' := fun k_ => ((fun _ => True)) k_ ∧ k_ ≠ go11) (Kd.R_apart' (a5.out) (Kd.S_typed a2.out) (by decide)) (fun k_ hk => ⟨trivial, fun e_ => (hk.2) (by rw [e_]; rfl)⟩))).1 k_ hk_.symm); have hx14_0 := hcc14 0 _ rfl; (try simp only [show ((Kd.slice 3 (Kd.int .i64))).sz = 1 from rfl, Nat.mul_one, Nat.add_zero] at hx14_0); have hf14_0 := hfr14 0; (try simp only [show ((Kd.slice 3 (Kd.int .i64))).sz = 1 from rfl, Nat.mul_one, Nat.add_zero] at hf14_0); clear hcl14 hcc14 hfr14 hoki14 hH14; (try clear hM14); (try simp only [show ((Kd.slice 3 (Kd.int .i64))).sz = 1 from rfl, Nat.mul_one, Nat.add_zero] at HP14)) | ((with_reducible refine gate_store (t := 32) (p := 19) rfl ?_); refine store_event (t := 32) (p := 19) (v := ?vo_w15) (w1 := (e4.setCell ⟨go11, (a0 : Int).toNat, none⟩ (a6))) ?hg ?ho ?hn ?hr ?_; (case ho => rfl); (case hg => rfl); (case hn => rfl); (case hr => first | (go_simp; done) | (go_simp; rfl) | (obtain ⟨_, _, e_⟩ := Kd.R_slice a5.out; rw [e_]; first | (go_simp; done) | (go_simp; rfl))); intro e5 hw; have hg : e4.grownBy e5 (some go11) := (by rw [hw]; exact HP14.2); have hp_ : Kd.S (Kd.slice 3 (Kd.int .i64)) 32 e5 w.heap.size (fun _ => True) (.slice (some ⟨go11, 0, none⟩) a4.length a8) y280 := (by rw [hw, Ny280.out]; exact HP14.1); clear HP14; replace a2 := ak (hp_); replace HB := ak ((by rw [hw]; exact below_set (HB.out) GB11.out : Below w.heap.size w e5)); clear a5; clear hg hw hp_))
    go_loopg [22] k1 (fun kq f6 w' => ∃ (a3 : List (List Int)) (a1 : Int), f6 = .int .i64 a1 ∧ Aside0 (impl_turned.l1 kq l0 a3 a0 (l0.length : Int) a0 (l0.length : Int) a1 = some r) ∧ Aside0 (kq ≤ k1) ∧ Aside0 (Kd.S (Kd.slice 3 (Kd.int .i64)) 32 w' w.heap.size (fun _ => True) (.slice (some ⟨go11, 0, none⟩) a4.length a8) a3) ∧ Aside0 (Below w.heap.size w w'))
    case atStart => exact ⟨(y280), (0), zh_1, H', ⟨Nat.le_refl _⟩, ⟨(xS a2.out)⟩, ⟨zh_0⟩⟩
    case round =>
     clear H'
     try clear c2
     try clear b3
     try clear b4
     try clear c3
     try clear b5
     try clear b6
     try clear c6
     try clear b8
     try clear c7
     try clear d9
     try clear e0
     try clear c8
     try clear e1
     try clear e2
     try clear c9
     try clear e3
     try clear f9
     try clear b9
     try clear d5
     try clear q11
     try clear hx11_0
     try clear hx14_0
     obtain ⟨a3, a1, rfl, HA, HK2, a2, HB⟩ := hrel
     have hl3_2 := (Kd.S_reads' a2.out).1
     rw [hl3_2] at a2
     (try simp only [hl3_2])
     cases gk with
     | zero => exact absurd HA.out (by simp [impl_turned.l1])
     | succ k2 =>
      have H := HA.out
      clear HA
      simp only [impl_turned.l1] at H
      replace H := os_ H
      rcases H with ⟨d2, H⟩ | ⟨d2, H⟩
      ·
       replace H := od6 H
       obtain ⟨e9, f0, f1, f2, f3, f4, H⟩ := H
       obtain ⟨y284, hy284⟩ : ∃ y_ : List Int, y_ = ((rd_L1 a3 a0).set (a1 : Int).toNat (rd (rd_L1 l0 a1) a0)) := ⟨_, rfl⟩
       replace H : (impl_turned.l1 k2 l0 (a3.set (a0 : Int).toNat y284) a0 (l0.length : Int) a0 (l0.length : Int) (wrap64 (a1 + 1))) = some r := by first | (rw [hy284]; with_reducible exact H) | (have H2_ := (Option.bind_some _ _).symm.trans H; rw [hy284]; with_reducible exact H2_) | (have H2_ := (Option.bind_some _ _).symm.trans H; with_reducible exact H2_) | with_reducible exact H | (rw [hy284]; exact H) | exact H
       have Ny284 := ak hy284
       clear hy284
       obtain ⟨y286, hy286⟩ : ∃ y_ : List (List Int), y_ = (a3.set (a0 : Int).toNat y284) := ⟨_, rfl⟩
       replace H : (impl_turned.l1 k2 l0 y286 a0 (l0.length : Int) a0 (l0.length : Int) (wrap64 (a1 + 1))) = some r := by first | (rw [hy286]; with_reducible exact H) | (have H2_ := (Option.bind_some _ _).symm.trans H; rw [hy286]; with_reducible exact H2_) | (have H2_ := (Option.bind_some _ _).symm.trans H; with_reducible exact H2_) | with_reducible exact H | (rw [hy286]; exact H) | exact H
       have Ny286 := ak hy286
       clear hy286
       have H' := ak H
       clear H
       try go_wp2
       replace a2 := ak (Kd.S_drew a2.out)
       replace HB := ak (below_drew1 HB.out)
       have a7 : 0 ≤ (a0 : Int) := oa_
       have q281 : a0 < (a3.length : Int) := oa_
       obtain ⟨ad281, e6, a9, e281, hx281_0, hl281_0, hi281_0⟩ := at_L1 (Kd.S_reads' a2.out).2.2 a0 a7 q281
       obtain rfl : (⟨go11, 0, none⟩ : Addr) = ad281 := (by injection e281)
       obtain ⟨ce281, hce281, hMe281, hcc281⟩ := Kd.S_get a2.out [] a0 a7 (by first | exact q281 | exact oa_ | (have e_ := (Kd.S_reads' a2.out).1; omega))
       obtain ⟨ve281_0, rfl, ge281_0⟩ := hMe281
       have hv281_0 := hcc281 0 _ rfl
       rw [Nat.add_zero, show ((Kd.slice 3 (Kd.int .i64))).sz = 1 from rfl, Nat.mul_one] at hv281_0
       replace hv281_0 := Option.some.inj (hv281_0.symm.trans hx281_0)
       rw [hv281_0] at ge281_0
       have HL281_0 := ak (show Kd.R (Kd.int .i64) 3 _ _ _ _ (rd_L1 a3 a0) from ge281_0)
       clear hv281_0 ge281_0
       have HX281_0 := ak hx281_0
       clear hcc281 hce281
       (first | simp only [add_plain] at hx281_0 | simp only [add_at] at hx281_0 | simp only [Addr.add, Nat.zero_add] at hx281_0 | skip)
       have HR281_0 := ak hi281_0
       have d6 := ak hl281_0
       clear hi281_0 hl281_0
       replace a7 := eq_true a7
       replace q281 := eq_true q281
       have b0 : 0 ≤ (a1 : Int) := oa_
       have q282 : a1 < (l0.length : Int) := oa_
       obtain ⟨ad282, e7, b1, e282, hx282_0, hl282_0, hi282_0⟩ := at_L1 HR0.out a1 b0 q282
       have hw282_0 := hx282_0
       cases e282
       replace hx282_0 := (HB.out.cell (World.block_lt_of_cell? w _ hx282_0)).trans hx282_0
       have HR282_0 := ak hi282_0
       have d7 := ak hl282_0
       clear hi282_0 hl282_0
       replace b0 := eq_true b0
       replace q282 := eq_true q282
       have b2 : 0 ≤ (a0 : Int) := oa_
       have q283 : a0 < ((rd_L1 l0 a1).length : Int) := oa_
       obtain ⟨ad283, e283, hx283_0⟩ := Kd.at_int HR282_0.out a0 b2 q283
       have hw283_0 := hx283_0
       cases e283
       replace hx283_0 := (HB.out.cell (World.block_lt_of_cell? w _ hx283_0)).trans hx283_0
       replace b2 := eq_true b2
       replace q283 := eq_true q283
       have e8 : 0 ≤ (a1 : Int) := oa_
       have q23 : (a1 : Int) < (((rd_L1 a3 a0).length : Int) : Int) := oa_
       obtain ⟨go23, f7, d3, d4, gl23, cl23, HG23⟩ := Kd.R_form HL281_0.out (by omega)
       (first | cases d3 | (injection d3 with ea_ en_ ec_; (first | subst ea_ | (injection ea_ with ea_; subst ea_)); subst ec_; clear en_))
       have GB23 := ak d4
       have GG23 := ak HG23
       clear d4 gl23 HG23
       obtain ⟨hx23_0, hf23_0⟩ := Kd.R_celln 0 HL281_0.out (a1 : Int) e8 q23
       replace e8 := eq_true e8
       replace q23 := eq_true q23
       have hq25 : (a0 : Int) < (a3.length : Int) := (by have h_ : (a0 : Int) < ((a3.length : Int) : Int) := oa_; first | exact h_ | (have e_ := (Kd.S_reads' a2.out).1; omega) | simpa only [List.length_set, List.length_set] using h_)
       obtain ⟨oki25, ce25, hcl25, hM25, hcc25, hok25, hbk25⟩ := Kd.S_borrow a2.out [] (a0 : Int) (oa_) hq25
       obtain ⟨ve25_0, rfl, ge25_0⟩ := hM25
       have hv25 := hcc25 0 _ rfl
       rw [Nat.add_zero, show ((Kd.slice 3 (Kd.int .i64))).sz = 1 from rfl, Nat.mul_one] at hv25
       replace hv25 := Option.some.inj (hv25.symm.trans HX281_0.out)
       subst hv25
       clear hcc25 hcl25
       replace ge25_0 := (show Kd.R (Kd.int .i64) 3 _ _ _ _ (rd_L1 a3 a0) from ge25_0)
       have HP25 := Kd.R_putg ge25_0 (a1 : Int) (rd (rd_L1 l0 a1) a0)
       rw [← Ny284.out] at HP25
       have HS25 := hbk25 HP25.2 (fun k_ e_ => by injection e_ with e_; subst e_; exact ge25_0.1 _ rfl) (x' := y284) (Kd.M_row HP25.1)
       rw [← Ny286.out] at HS25
       have HQ25 := ak HS25
       clear HP25 HS25 hbk25 hok25
       refine start_ (n := 14) (S := fun w' => w'.cell? ⟨go11, (a0).toNat, none⟩ = some (.slice (some ⟨go23, 0, none⟩) (rd_L1 a3 a0).length a9) ∧ w'.cell? (ad282.add (a1).toNat) = some (.slice (some ad283) (rd_L1 l0 a1).length b1) ∧ w'.cell? (ad283.add (a0).toNat) = some (.int .i64 (rd (rd_L1 l0 a1) a0))) (ds := [13]) (bA 14 0) (by kernel_rfl) rfl rfl ⟨hx281_0, ((HB.out.cell (World.block_lt_of_cell? w _ hw282_0)).trans hw282_0), ((HB.out.cell (World.block_lt_of_cell? w _ hw283_0)).trans hw283_0)⟩ (fun hHeld => ?_); refine with_tabW impl_turned.tab9 impl_turned.bits9 (fun HT_ HW_ => ?_)
       generalize wr.drew = g0 at a2 HB GG23 HL281_0 HQ25 HR281_0 HR282_0 HX281_0 hf23_0 hx23_0 hx281_0 hx282_0 hx283_0 hHeld ⊢
       refine pu_ (i := 0) (N := some 25) (bA 14 1) ?_
       refine pu_ (i := 1) (N := some 26) (bA 14 3) ?_
       refine pu_ (i := 2) (N := some 27) (bA 14 7) ?_
       refine pu_ (i := 4) (N := some 29) (bA 14 23) ?_
       refine pu_ (i := 5) (N := some 30) (bA 14 55) ?_
       refine pu_ (i := 6) (N := some 31) (bA 14 119) ?_
       refine pu_ (i := 7) (N := some 32) (bA 14 247) ?_
       refine pu_ (i := 9) (N := some 34) (bA 14 759) ?_
       refine tk_ (i := 3) (N := some 28) (bA 14 767) ?_
       refine tk_ (i := 8) (N := some 33) (bA 14 1023) ?_
       refine pu_ (i := 10) (N := some 35) (bA 14 2047) ?_
       refine tk_ (i := 11) (N := some 36) (bA 14 4095) ?_
       refine pu_ (i := 12) (N := some 37) (bA 14 8191) ?_
       refine last_ (i := 13) (N := none) (bA 14 16383) rfl rfl (one_of HT_.out (by kernel_rfl)) (by decide) (fun K hK => ?_)
       refine skip_ (w1 := ?_) (by rfl) rfl ?_ ?_
       rotate_left
       ·
        go_simp
        rfl
       refine hK.out _ _ ?_
       clear hK K
       refine done_ (done_of HT_.out (by kernel_rfl)) ?_
       try go_wp2
       (try simp only [← hl3_2])
       go_roundg k2
       case measure => have := HK1.out; have := HK2.out; omega
       case rel => exact ⟨(y286), (wrap64 (a1 + 1)), zh_1, H', ⟨(by have := HK1.out; have := HK2.out; omega)⟩, ⟨(by (try simp only [hl3_2]); (with_reducible repeat (first | apply Kd.S_alloc | apply Kd.S_drewN | apply Kd.S_drew)); exact HQ25.out)⟩, ⟨(by repeat (first | (with_reducible first | exact HB.out | apply below_alloc | apply pw_below_drewN | apply below_drew1 | refine below_set ?_ GB23.out) | exact HB.out))⟩⟩
      have H' := ak H
      clear H
      go_wp2
      (try simp only [← hl3_2])
      go_roundg k2
      case measure => have := HK1.out; have := HK2.out; omega
      case rel => exact ⟨(a3), (wrap64 (a0 + 1)), zh_1, H', ⟨(by have := HK1.out; have := HK2.out; omega)⟩, ⟨(by (try simp only [hl3_2]); (with_reducible repeat (first | apply Kd.S_alloc | apply Kd.S_drewN | apply Kd.S_drew)); exact a2.out)⟩, ⟨zh_0⟩⟩
   obtain rfl := Option.some.inj H
   go_wp2
   go_ret
   exact ⟨_, (by first | rfl | (simp [errW_none, errW_some] <;> rfl) | (simp [*, errW_none, errW_some] <;> rfl)), (xS a2.out), zh_0⟩

end Go.Proofs.Ytilgbnbeonlbnaa.P
