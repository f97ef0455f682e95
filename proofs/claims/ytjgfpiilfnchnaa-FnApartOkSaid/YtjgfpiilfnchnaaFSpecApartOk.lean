-- written by gen.py (a program of this session) out of the kit's print of this seat's translation
import Derived.Test.YtjgfpiilfnchnaaPk2
import Derived.Test.YtjgfpiilfnchnaaFSpecL2Both
namespace Go.Proofs.Ytjgfpiilfnchnaa.P
open Go.RowKit Go.Proofs.YtjgfpiilfnchnaaW.PrintWords Go.Proofs.YtjgfpiilfnchnaaW.PrintLast Go.Proofs.YtjgfpiilfnchnaaW.PrintMore
attribute [local go_sem] max2_int min2_int max_two min_two max_three min_three max_four min_four
set_option linter.unusedVariables false
set_option linter.unusedSimpArgs false
def spec_ApartOk.T1 : Bool × List (List Nat × List Nat) := (true, [([], []), ([], []), ([], []), ([0, 1, 2], [0, 1, 2]), ([3, 3], [3]), ([4], [4]), ([5, 4], [4, 5]), ([4], [4]), ([6, 7, 4], [4, 6, 7]), ([8, 4], [4, 8]), ([4], [4]), ([10, 4], [4, 10]), ([4], [4]), ([11, 12, 4], [4, 11, 12]), ([13, 4], [4, 13]), ([9, 14, 4], [4, 9, 14]), ([15, 4], [4, 15]), ([16, 4], [4, 16]), ([4, 17], [4, 17]), ([18, 4, 0, 1, 2, 3, 4, 5, 6, 7, 8, 9, 10, 11, 12, 13, 14, 15, 16, 17, 18], [18])])
def spec_ApartOk.B1 : List Nat := [0, 0, 0, 7, 15, 31, 63, 31, 255, 511, 31, 1055, 31, 7199, 15391, 32767, 65535, 131071, 262143, 524287]
theorem spec_ApartOk.tab1 : rtab .any (opsOf Try.f37 1) = spec_ApartOk.T1 := by kernel_rfl
theorem spec_ApartOk.bits1 : waitsOk spec_ApartOk.T1.2 spec_ApartOk.B1 = true := by kernel_rfl
theorem zo_1 {p : Prop} (h : p := by repeat (first | (with_reducible first | exact HB.out | apply below_alloc | apply pw_below_drewN | apply below_drew1 | refine below_set ?_ a4.out) | exact HB.out)) : p := h
theorem zo_0 {p : Prop} (h : p := by repeat (first | (with_reducible first | exact HB.out | apply below_alloc | apply pw_below_drewN | apply below_drew1) | exact HB.out)) : p := h
set_option maxHeartbeats 8000000 in
set_option maxRecDepth 100000 in
theorem spec_ApartOk.calls (k : Nat) (A0_0 : Option Addr) (c0_0 : Nat) (l0_0 : List (List Int)) (A0_1 : Option Addr) (c0_1 : Nat) (l0_1 : List Int) (a1 : Int) (a2 : Int) (r : Bool) (w : World) (hr0_0 : Kd.C (Kd.slice 3 (Kd.int .i64)) w A0_0 l0_0.length l0_0) (hc0_0 : l0_0.length ≤ c0_0) (hr0_1 : Kd.C (Kd.int .i64) w A0_1 l0_1.length l0_1) (hc0_1 : l0_1.length ≤ c0_1) (h : spec_ApartOk.f k l0_0 l0_1 a1 a2 = some r) :
 Calls Try.prog 37 #[.agg #[.slice A0_0 l0_0.length c0_0, .slice A0_1 l0_1.length c0_1], .int .i64 a1, .int .i64 a2] w fun e w' => e = .returned (.bool r) ∧ Below w.heap.size w w' := by
 have hu26 := Try.underlying26
 have HR0_0 := ak hr0_0
 have a5 := ak hc0_0
 clear hr0_0 hc0_0
 have HR0_1 := ak hr0_1
 have a6 := ak hc0_1
 clear hr0_1 hc0_1
 have HB := ak (Below.refl w.heap.size w)
 have H : ((spec_l2Both.f k l0_0 l0_1 a1 a2).bind fun b1 => (if b1 = true then (if 0 ≤ a1 then (if a1 < (l0_0.length : Int) then (if 0 ≤ a2 then (if a2 < (l0_1.length : Int) then (if 0 ≤ (rd l0_1 a2) then (if (rd l0_1 a2) < ((rd_L1 l0_0 a1).length : Int) then (some ((rd (rd_L1 l0_0 a1) (rd l0_1 a2)) == 1)) else (none)) else (none)) else (none)) else (none)) else (none)) else (none)) else (some false))) = some r := h
 clear h
 obtain ⟨b1, A4, H⟩ := bd_ H
 try dsimp only at H
 replace H := ox_ H
 rcases H with ⟨rfl, H⟩ | ⟨rfl, H⟩
 ·
  replace H := od6 H
  obtain ⟨b7, b8, b9, d0, b5, b6, H⟩ := H
  obtain rfl := Option.some.inj H
  go_enter Try.func37, Try.ntmps37
  try go_wp2_with (first | ((with_reducible refine gate_dst (N := 3) rfl ?_); refine bx_ (N := 3) (cs := #[.slice A0_0 l0_0.length c0_0, .slice A0_1 l0_1.length c0_1]) (t := 26) ?_; intro a3 hg d1 hbox hb; have a0 := ak (hbox); have b2 := ak ((by rw [hg]; exact (below_size zo_0) : w.heap.size ≤ a3)); have a4 := ak ((by rw [hg]; exact (below_size zo_0) : w.heap.size ≤ a3)); replace HB := ak (below_step zo_0 hb); clear hb hbox hg))
  replace a0 := ak (blk_drew a0.out)
  replace HB := ak (below_drew1 HB.out)
  have a7 : 0 ≤ (a1 : Int) := oa_
  have q747 : a1 < (l0_0.length : Int) := oa_
  obtain ⟨ad747, b4, a8, e747, hx747_0, hl747_0, hi747_0⟩ := at_L1 HR0_0.out a1 a7 q747
  have hw747_0 := hx747_0
  cases e747
  replace hx747_0 := (HB.out.cell (World.block_lt_of_cell? w _ hx747_0)).trans hx747_0
  have HR747_0 := ak hi747_0
  have b3 := ak hl747_0
  clear hi747_0 hl747_0
  replace a7 := eq_true a7
  replace q747 := eq_true q747
  have a9 : 0 ≤ (a2 : Int) := oa_
  have q748 : a2 < (l0_1.length : Int) := oa_
  obtain ⟨ad748, e748, hx748_0⟩ := Kd.at_int HR0_1.out a2 a9 q748
  have hw748_0 := hx748_0
  cases e748
  replace hx748_0 := (HB.out.cell (World.block_lt_of_cell? w _ hx748_0)).trans hx748_0
  replace a9 := eq_true a9
  replace q748 := eq_true q748
  have b0 : 0 ≤ ((rd l0_1 a2) : Int) := oa_
  have q749 : (rd l0_1 a2) < ((rd_L1 l0_0 a1).length : Int) := oa_
  obtain ⟨ad749, e749, hx749_0⟩ := Kd.at_int HR747_0.out (rd l0_1 a2) b0 q749
  have hw749_0 := hx749_0
  cases e749
  replace hx749_0 := (HB.out.cell (World.block_lt_of_cell? w _ hx749_0)).trans hx749_0
  replace b0 := eq_true b0
  replace q749 := eq_true q749
  refine start_ (n := 20) (S := fun w' => w'.cell? ⟨a3, 0, none⟩ = some (.slice (some ad747) l0_0.length c0_0) ∧ w'.cell? ⟨a3, 1, none⟩ = some (.slice (some ad748) l0_1.length c0_1) ∧ w'.cell? (ad747.add (a1).toNat) = some (.slice (some ad749) (rd_L1 l0_0 a1).length a8) ∧ w'.cell? (ad748.add (a2).toNat) = some (.int .i64 (rd l0_1 a2)) ∧ w'.cell? (ad749.add ((rd l0_1 a2)).toNat) = some (.int .i64 (rd (rd_L1 l0_0 a1) (rd l0_1 a2)))) (ds := []) (bA 20 0) (by kernel_rfl) rfl rfl ⟨(blk_cell a0.out 0).trans rfl, (blk_cell a0.out 1).trans rfl, ((HB.out.cell (World.block_lt_of_cell? w _ hw747_0)).trans hw747_0), ((HB.out.cell (World.block_lt_of_cell? w _ hw748_0)).trans hw748_0), ((HB.out.cell (World.block_lt_of_cell? w _ hw749_0)).trans hw749_0)⟩ (fun hHeld => ?_); refine with_tabW spec_ApartOk.tab1 spec_ApartOk.bits1 (fun HT_ HW_ => ?_)
  generalize d1.drew = d3 at a0 HB HR747_0 hx747_0 hx748_0 hx749_0 hHeld ⊢
  refine pu_ (i := 1) (N := some 8) (bA 20 2) ?_
  refine pu_ (i := 2) (N := some 9) (bA 20 6) ?_
  refine tk_ (i := 0) (N := some 7) (bA 20 7) ?_
  refine one_ (i := 3) (N := some 10) (bA 20 15) rfl rfl (one_of HT_.out (by kernel_rfl)) (by decide) (fun K hK => ?_)
  refine ge_ Try.func64 #[.agg #[.slice (some ad747) l0_0.length c0_0, .slice (some ad748) l0_1.length c0_1], .int .i64 a1, .int .i64 a2] ?_
  with_reducible refine (spec_l2Both.calls k _ _ l0_0 _ _ l0_1 a1 a2 true _ ?side1 ?side2 ?side3 ?side4 A4.out).mono ?_
  (case side1 => repeat (first | exact (Kd.C_below HR0_0.out HB.out) | (with_reducible refine Kd.C_alloc ?_ _) | (with_reducible refine Kd.C_drewN ?_ _) | (with_reducible refine Kd.C_drew ?_)))
  (case side2 => exact a5.out)
  (case side3 => repeat (first | exact (Kd.C_below HR0_1.out HB.out) | (with_reducible refine Kd.C_alloc ?_ _) | (with_reducible refine Kd.C_drewN ?_ _) | (with_reducible refine Kd.C_drew ?_)))
  (case side4 => exact a6.out)
  rintro e w' ⟨rfl, hb⟩
  refine ⟨_, rfl, ?_⟩
  replace a0 := ak (blk_below (g := a3) (o := .cells #[.slice (some ad747) l0_0.length c0_0, .slice (some ad748) l0_1.length c0_1] 26 (0, 0)) (xb a0.out) hb)
  replace HB := ak (below_step zo_1 hb)
  (try clear hb)
  (try clear hb2)
  (try clear hk)
  (try clear hi)
  refine hK.out _ _ ⟨(blk_cell a0.out 0).trans rfl, (blk_cell a0.out 1).trans rfl, ((HB.out.cell (World.block_lt_of_cell? w _ hw747_0)).trans hw747_0), ((HB.out.cell (World.block_lt_of_cell? w _ hw748_0)).trans hw748_0), ((HB.out.cell (World.block_lt_of_cell? w _ hw749_0)).trans hw749_0)⟩ (fun hHeld => ?_)
  clear hK K
  refine no_ (N := some 10) ?_
  refine pu_ (i := 4) (N := some 11) (bA 20 31) ?_
  refine pu_ (i := 5) (N := some 12) (bA 20 63) ?_
  refine pu_ (i := 7) (N := some 14) (bA 20 191) ?_
  refine pu_ (i := 10) (N := some 17) (bA 20 1215) ?_
  refine pu_ (i := 12) (N := some 19) (bA 20 5311) ?_
  refine tk_ (i := 6) (N := some 13) (bA 20 5375) ?_
  refine pu_ (i := 8) (N := some 15) (bA 20 5631) ?_
  refine tk_ (i := 9) (N := some 16) (bA 20 6143) ?_
  refine tk_ (i := 11) (N := some 18) (bA 20 8191) ?_
  refine pu_ (i := 13) (N := some 20) (bA 20 16383) ?_
  refine tk_ (i := 14) (N := some 21) (bA 20 32767) ?_
  refine pu_ (i := 15) (N := some 22) (bA 20 65535) ?_
  refine tk_ (i := 16) (N := some 23) (bA 20 131071) ?_
  refine pu_ (i := 17) (N := some 24) (bA 20 262143) ?_
  refine pu_ (i := 18) (N := some 25) (bA 20 524287) ?_
  refine pu_ (i := 19) (N := some 6) (bA 20 1048575) ?_
  refine done_ (done_of HT_.out (by kernel_rfl)) ?_
  try go_wp2
  go_ret
  exact ⟨(by first | rfl | (simp [errW_none, errW_some] <;> rfl) | (simp [*, errW_none, errW_some] <;> rfl)), zo_1⟩
 obtain rfl := Option.some.inj H
 go_enter Try.func37, Try.ntmps37
 try go_wp2_with (first | ((with_reducible refine gate_dst (N := 3) rfl ?_); refine bx_ (N := 3) (cs := #[.slice A0_0 l0_0.length c0_0, .slice A0_1 l0_1.length c0_1]) (t := 26) ?_; intro a3 hg d2 hbox hb; have a0 := ak (hbox); have b2 := ak ((by rw [hg]; exact (below_size zo_0) : w.heap.size ≤ a3)); have a4 := ak ((by rw [hg]; exact (below_size zo_0) : w.heap.size ≤ a3)); replace HB := ak (below_step zo_0 hb); clear hb hbox hg))
 replace a0 := ak (blk_drew a0.out)
 replace HB := ak (below_drew1 HB.out)
 refine start_ (n := 20) (S := fun w' => w'.cell? ⟨a3, 0, none⟩ = some (.slice A0_0 l0_0.length c0_0) ∧ w'.cell? ⟨a3, 1, none⟩ = some (.slice A0_1 l0_1.length c0_1)) (ds := []) (bA 20 0) (by kernel_rfl) rfl rfl ⟨(blk_cell a0.out 0).trans rfl, (blk_cell a0.out 1).trans rfl⟩ (fun hHeld => ?_); refine with_tabW spec_ApartOk.tab1 spec_ApartOk.bits1 (fun HT_ HW_ => ?_)
 generalize d2.drew = d4 at a0 HB hHeld ⊢
 refine pu_ (i := 1) (N := some 8) (bA 20 2) ?_
 refine pu_ (i := 2) (N := some 9) (bA 20 6) ?_
 refine tk_ (i := 0) (N := some 7) (bA 20 7) ?_
 refine one_ (i := 3) (N := some 10) (bA 20 15) rfl rfl (one_of HT_.out (by kernel_rfl)) (by decide) (fun K hK => ?_)
 refine ge_ Try.func64 #[.agg #[.slice A0_0 l0_0.length c0_0, .slice A0_1 l0_1.length c0_1], .int .i64 a1, .int .i64 a2] ?_
 with_reducible refine (spec_l2Both.calls k _ _ l0_0 _ _ l0_1 a1 a2 false _ ?side1 ?side2 ?side3 ?side4 A4.out).mono ?_
 (case side1 => repeat (first | exact (Kd.C_below HR0_0.out HB.out) | (with_reducible refine Kd.C_alloc ?_ _) | (with_reducible refine Kd.C_drewN ?_ _) | (with_reducible refine Kd.C_drew ?_)))
 (case side2 => exact a5.out)
 (case side3 => repeat (first | exact (Kd.C_below HR0_1.out HB.out) | (with_reducible refine Kd.C_alloc ?_ _) | (with_reducible refine Kd.C_drewN ?_ _) | (with_reducible refine Kd.C_drew ?_)))
 (case side4 => exact a6.out)
 rintro e w' ⟨rfl, hb⟩
 refine ⟨_, rfl, ?_⟩
 replace a0 := ak (blk_below (g := a3) (o := .cells #[.slice A0_0 l0_0.length c0_0, .slice A0_1 l0_1.length c0_1] 26 (0, 0)) (xb a0.out) hb)
 replace HB := ak (below_step zo_1 hb)
 (try clear hb)
 (try clear hb2)
 (try clear hk)
 (try clear hi)
 refine hK.out _ _ ⟨(blk_cell a0.out 0).trans rfl, (blk_cell a0.out 1).trans rfl⟩ (fun hHeld => ?_)
 clear hK K
 refine no_ (N := some 10) ?_
 refine pu_ (i := 4) (N := some 11) (bA 20 31) ?_
 refine of_ (i := 5) (N := some 12) (bA 20 63) ?_
 refine of_ (i := 6) (N := some 13) (bA 20 127) ?_
 refine of_ (i := 7) (N := some 14) (bA 20 255) ?_
 refine of_ (i := 8) (N := some 15) (bA 20 511) ?_
 refine of_ (i := 9) (N := some 16) (bA 20 1023) ?_
 refine of_ (i := 10) (N := some 17) (bA 20 2047) ?_
 refine of_ (i := 11) (N := some 18) (bA 20 4095) ?_
 refine of_ (i := 12) (N := some 19) (bA 20 8191) ?_
 refine of_ (i := 13) (N := some 20) (bA 20 16383) ?_
 refine of_ (i := 14) (N := some 21) (bA 20 32767) ?_
 refine of_ (i := 15) (N := some 22) (bA 20 65535) ?_
 refine of_ (i := 16) (N := some 23) (bA 20 131071) ?_
 refine of_ (i := 17) (N := some 24) (bA 20 262143) ?_
 refine pu_ (i := 18) (N := some 25) (bA 20 524287) ?_
 refine pu_ (i := 19) (N := some 6) (bA 20 1048575) ?_
 refine done_ (done_of HT_.out (by kernel_rfl)) ?_
 try go_wp2
 go_ret
 exact ⟨(by first | rfl | (simp [errW_none, errW_some] <;> rfl) | (simp [*, errW_none, errW_some] <;> rfl)), zo_1⟩

end Go.Proofs.Ytjgfpiilfnchnaa.P
