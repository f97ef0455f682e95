/- 6 texts of this seat joined: walks, and the laws of what they compute. -/
import Derived.Test.YtacifhahfamipaaPk2
import Derived.Test.YtacifhahfamipaaPk3
namespace Go.Proofs.Ytacifhahfamipaa.P
open Go.RowKit Go.Proofs.YtacifhahfamipaaW.PrintWords Go.Proofs.YtacifhahfamipaaW.PrintLast Go.Proofs.YtacifhahfamipaaW.PrintMore
attribute [local go_sem] max2_int min2_int max_two min_two max_three min_three max_four min_four
set_option linter.unusedVariables false
set_option linter.unusedSimpArgs false
def spec_l20Rename.T14 : Bool × List (List Nat × List Nat) := (true, [([], []), ([], []), ([1], [1]), ([], []), ([], []), ([3, 4], [3, 4]), ([5], [5]), ([2, 6], [2, 6]), ([7], [7]), ([], []), ([], []), ([9, 10], [9, 10]), ([11], [11]), ([8, 12], [8, 12]), ([13], [13]), ([14], [14]), ([0, 15], [0, 15]), ([16, 16, 0, 1, 2, 3, 4, 5, 6, 7, 8, 9, 10, 11, 12, 13, 14, 15, 16], [0, 16])])
def spec_l20Rename.B14 : List Nat := [0, 0, 2, 0, 0, 24, 56, 126, 254, 0, 0, 1536, 3584, 8190, 16382, 32766, 65535, 131071]
theorem spec_l20Rename.tab14 : rtab .any (opsOf Try.f111 14) = spec_l20Rename.T14 := by kernel_rfl
theorem spec_l20Rename.bits14 : waitsOk spec_l20Rename.T14.2 spec_l20Rename.B14 = true := by kernel_rfl
def spec_l20Rename.T16 : Bool × List (List Nat × List Nat) := (true, [([], []), ([0], [0]), ([], []), ([], []), ([3], [3]), ([], []), ([], []), ([5, 6], [5, 6]), ([7], [7]), ([4, 8], [4, 8]), ([9], [9]), ([2, 10], [2, 10]), ([11], [11]), ([12], [12]), ([1, 13], [1, 13]), ([0, 1, 2, 3, 4, 5, 6, 7, 8, 9, 10, 11, 12, 13, 14], []), ([15, 14, 14, 0, 1, 2, 3, 4, 5, 6, 7, 8, 9, 10, 11, 12, 13, 14], [14, 15])])
def spec_l20Rename.B16 : List Nat := [0, 1, 0, 0, 8, 0, 0, 96, 224, 504, 1016, 2044, 4092, 8188, 16383, 32767, 65535]
theorem spec_l20Rename.tab16 : rtab .any (opsOf Try.f111 16) = spec_l20Rename.T16 := by kernel_rfl
theorem spec_l20Rename.bits16 : waitsOk spec_l20Rename.T16.2 spec_l20Rename.B16 = true := by kernel_rfl
theorem z1f_9 {p : Prop} (h : p := by decide) : p := h
theorem z1f_8 {p : Prop} (h : p := by (with_reducible repeat (first | apply Kd.S_alloc | apply Kd.S_drewN | apply Kd.S_drew)); exact Kd.S_mono a3.out (fun _ hk => ⟨hk.1.1, ⟨hk.2, hk.1.2⟩⟩)) : p := h
theorem z1f_7 {p : Prop} (h : p := by first | rfl | (simp; done) | (simp [*]; done)) : p := h
theorem z1f_6 {p : Prop} (h : p := by (with_reducible repeat (first | refine blk_drewN ?_ _ | refine blk_drew ?_ | refine blk_alloc ?_ _)); refine blk_far ?_ b3.out _; (with_reducible repeat (first | refine blk_drewN ?_ _ | refine blk_drew ?_ | refine blk_alloc ?_ _)); exact a2.out) : p := h
theorem z1f_5 {p : Prop} (h : p := by (with_reducible repeat (first | refine blk_drewN ?_ _ | refine blk_drew ?_ | refine blk_alloc ?_ _)); refine blk_far ?_ b4.out _; (with_reducible repeat (first | refine blk_drewN ?_ _ | refine blk_drew ?_ | refine blk_alloc ?_ _)); exact a4.out) : p := h
theorem z1f_4 {p : Prop} (h : p := by repeat (first | (with_reducible first | exact HB.out | apply below_alloc | apply pw_below_drewN | apply below_drew1) | exact HB.out)) : p := h
theorem z1f_3 {p : Prop} (h : p := by (with_reducible repeat (first | apply Kd.R_alloc | apply Kd.R_drewN | apply Kd.R_drew)); exact Kd.R_mono b1.out (fun _ hk => ⟨hk.2, hk.1⟩)) : p := h
theorem z1f_2 {p : Prop} (h : p := by repeat (first | (with_reducible first | exact HB.out | apply below_alloc | apply pw_below_drewN | apply below_drew1 | refine below_set ?_ e1.out) | exact HB.out)) : p := h
theorem z1f_1 {p : Prop} (h : p := by repeat (first | (with_reducible first | exact HB.out | apply below_alloc | apply pw_below_drewN | apply below_drew1 | refine below_set ?_ e1.out | refine below_set ?_ e6.out) | exact HB.out)) : p := h
theorem z1f_0 {p : Prop} (h : p := by repeat (first | (with_reducible first | exact HB.out | apply below_alloc | apply pw_below_drewN | apply below_drew1 | refine below_set ?_ e1.out | refine below_set ?_ e6.out | refine below_set ?_ g5.out) | exact HB.out)) : p := h
set_option maxHeartbeats 8000000 in
set_option maxRecDepth 100000 in
theorem spec_l20Rename.calls (k : Nat) (A0_0 : Option Addr) (c0_0 : Nat) (l0_0 : List (List Int)) (A0_1 : Option Addr) (c0_1 : Nat) (l0_1 : List Int) (A1 : Option Addr) (c1 : Nat) (l1 : List Int) (r1 : List (List Int)) (r2 : List Int) (w : World) (hr0_0 : Kd.C (Kd.slice 3 (Kd.int .i64)) w A0_0 l0_0.length l0_0) (hc0_0 : l0_0.length ≤ c0_0) (hr0_1 : Kd.C (Kd.int .i64) w A0_1 l0_1.length l0_1) (hc0_1 : l0_1.length ≤ c0_1) (hr1 : Kd.C (Kd.int .i64) w A1 l1.length l1) (hc1 : l1.length ≤ c1) (h : spec_l20Rename.f k l0_0 l0_1 l1 = some (r1, r2)) :
 Calls Try.prog 111 #[.agg #[.slice A0_0 l0_0.length c0_0, .slice A0_1 l0_1.length c0_1], .slice A1 l1.length c1] w fun e w' => ∃ v0_ v1_ : Value, e = .returned (.agg #[v0_, v1_]) ∧ Kd.S (Kd.slice 3 (Kd.int .i64)) 25 w' w.heap.size (fun k_ => some k_ ≠ (v1_ : Value).ownBlock) v0_ r1 ∧ Kd.R (Kd.int .i64) 3 w' w.heap.size (fun _ => True) v1_ r2 ∧ Below w.heap.size w w' := by
 have hu27 := Try.underlying27
 have HR0_0 := ak hr0_0
 have i6 := ak hc0_0
 clear hr0_0 hc0_0
 have HR0_1 := ak hr0_1
 have i7 := ak hc0_1
 clear hr0_1 hc0_1
 have HR1 := ak hr1
 have n8 := ak hc1
 clear hr1 hc1
 have HB := ak (Below.refl w.heap.size w)
 have H : (if 0 ≤ (l1.length : Int) then (if ((l1.length : Int) : Int).toNat ≤ 35184372088832 then (spec_l20Rename.l0 k l1 (List.replicate ((l1.length : Int) : Int).toNat 0) 0 l0_0 l0_1) else (none)) else (none)) = some (r1, r2) := h
 clear h
 replace H := ok_ H
 obtain ⟨c3, H⟩ := H
 have f0 := eq_true c3
 have f1 : decide (0 ≤ (l1.length : Int)) = true := dT_ c3
 clear c3
 replace H := ok_ H
 obtain ⟨c4, H⟩ := H
 have f2 := eq_true c4
 have f3 : decide (((l1.length : Int) : Int).toNat ≤ 35184372088832) = true := dT_ c4
 clear c4
 obtain ⟨y399, hy399⟩ : ∃ y_ : List Int, y_ = (List.replicate ((l1.length : Int) : Int).toNat 0) := ⟨_, rfl⟩
 replace H : (spec_l20Rename.l0 k l1 y399 0 l0_0 l0_1) = some (r1, r2) := by first | (rw [hy399]; with_reducible exact H) | (have H2_ := (Option.bind_some _ _).symm.trans H; rw [hy399]; with_reducible exact H2_) | (have H2_ := (Option.bind_some _ _).symm.trans H; with_reducible exact H2_) | with_reducible exact H | (rw [hy399]; exact H) | exact H
 have Ny399 := ak hy399
 clear hy399
 have H' := ak H
 clear H
 go_enter Try.func111, Try.ntmps111
 go_wp2_with (first | ((with_reducible refine gate_dst (N := 2) rfl ?_); refine bx_ (N := 2) (cs := #[.slice A0_0 l0_0.length c0_0, .slice A0_1 l0_1.length c0_1]) (t := 27) ?_; intro a9 hg w5 hbox hb; have a2 := ak (hbox); have i8 := ak ((by rw [hg]; exact (below_size z1f_4) : w.heap.size ≤ a9)); have e1 := ak ((by rw [hg]; exact (below_size z1f_4) : w.heap.size ≤ a9)); replace HB := ak (below_step z1f_4 hb); clear hb hbox hg) | ((with_reducible refine gate_dst (N := 4) rfl ?_); refine bx_ (N := 4) (cs := #[.slice none 0 0, .slice none 0 0]) (t := 27) ?_; intro b0 hg w6 hbox hb; have a4 := ak (hbox); have i9 := ak ((by rw [hg]; exact (below_size z1f_2) : w.heap.size ≤ b0)); have e6 := ak ((by rw [hg]; exact (below_size z1f_2) : w.heap.size ≤ b0)); replace HB := ak (below_step z1f_2 hb); have d9 := ak ((by rw [hg]; exact Nat.ne_of_lt (blk_lt (g := a9) (o := .cells #[.slice A0_0 l0_0.length c0_0, .slice A0_1 l0_1.length c0_1] 27 (0, 0)) (xb a2.out)) : a9 ≠ b0)); have e0 := ak ((by rw [hg]; exact Nat.ne_of_gt (blk_lt (g := a9) (o := .cells #[.slice A0_0 l0_0.length c0_0, .slice A0_1 l0_1.length c0_1] 27 (0, 0)) (xb a2.out)) : b0 ≠ a9)); replace a2 := ak (blk_below (g := a9) (o := .cells #[.slice A0_0 l0_0.length c0_0, .slice A0_1 l0_1.length c0_1] 27 (0, 0)) (xb a2.out) hb); clear hb hbox hg) | ((with_reducible refine gate_dst (N := 13) rfl ?_); refine Kd.R_make (Kd.int .i64) _ 3 rfl (N := 13) rfl 25 _ _ rfl (l1.length : Int) rfl rfl Try.underlying25 (.int .i64 0) 8 info3 rfl z1f_9 (by omega) 0 (ok := fun _ => True) (okp := fun _ => True) rfl (fun _ hk => hk) trivial (oa_) (Nat.le_trans (Nat.mul_le_mul_right _ (oa_ : (l1.length : Int).toNat ≤ 35184372088832)) (by omega)) (Below.refl _ _) (Nat.le_refl _) ?_; intro b6 w7 ho8 hb hg_ hnew_; clear hg_ hnew_; (first | rw [← Ny399.out] at ho8 | (simp only [Int.reduceToNat] at ho8; rw [← Ny399.out] at ho8)); have g6 := ak (Kd.R_lower ho8 (below_size z1f_1)); replace a2 := ak (blk_below (g := a9) (o := .cells #[.slice A0_0 l0_0.length c0_0, .slice A0_1 l0_1.length c0_1] 27 (0, 0)) (xb a2.out) hb); replace a4 := ak (blk_below (g := b0) (o := .cells #[.slice none 0 0, .slice none 0 0] 27 (0, 0)) (xb a4.out) hb); replace HB := ak (below_step z1f_1 hb); clear hb ho8))
 go_loopg [6] k (fun kq v6 w' => ∃ (b5 : List Int) (b7 : Int), v6 = .int .i64 b7 ∧ Aside0 (spec_l20Rename.l0 kq l1 b5 b7 l0_0 l0_1 = some (r1, r2)) ∧ Aside0 (kq ≤ k) ∧ Aside0 (Kd.R (Kd.int .i64) 3 w' w.heap.size (fun _ => True) b6 b5) ∧ Aside0 (w'.heap[a9]? = some (.cells #[(.slice A0_0 l0_0.length c0_0), (.slice A0_1 l0_1.length c0_1)] 27 (0, 0))) ∧ Aside0 (w'.heap[b0]? = some (.cells #[(.slice none 0 0), (.slice none 0 0)] 27 (0, 0))) ∧ Aside0 (Below w.heap.size w w'))
 case atStart => exact ⟨(y399), (0), z1f_7, H', ⟨Nat.le_refl _⟩, ⟨(xR g6.out)⟩, ⟨(xb a2.out)⟩, ⟨(xb a4.out)⟩, ⟨z1f_1⟩⟩
 case round =>
  clear H'
  try clear c1
  try clear c3
  try clear f0
  try clear f1
  try clear c4
  try clear f2
  try clear f3
  obtain ⟨b5, b7, rfl, HA, HK1, b1, a2, a4, HB⟩ := hrel
  cases gk with
  | zero => exact absurd HA.out (by simp [spec_l20Rename.l0])
  | succ k1 =>
   have H := HA.out
   clear HA
   simp only [spec_l20Rename.l0] at H
   replace H := os_ H
   rcases H with ⟨f4, H⟩ | ⟨f4, H⟩
   ·
    replace H := od3 H
    obtain ⟨j0, j1, j2, H⟩ := H
    obtain ⟨y403, hy403⟩ : ∃ y_ : List Int, y_ = (b5.set ((rd l1 b7) : Int).toNat b7) := ⟨_, rfl⟩
    replace H : (spec_l20Rename.l0 k1 l1 y403 (wrap64 (b7 + 1)) l0_0 l0_1) = some (r1, r2) := by first | (rw [hy403]; with_reducible exact H) | (have H2_ := (Option.bind_some _ _).symm.trans H; rw [hy403]; with_reducible exact H2_) | (have H2_ := (Option.bind_some _ _).symm.trans H; with_reducible exact H2_) | with_reducible exact H | (rw [hy403]; exact H) | exact H
    have Ny403 := ak hy403
    clear hy403
    have H' := ak H
    clear H
    have f5 : 0 ≤ (b7 : Int) := oa_
    have q402 : b7 < (l1.length : Int) := oa_
    obtain ⟨ad402, e402, hx402_0⟩ := Kd.at_int HR1.out b7 f5 q402
    cases e402
    replace hx402_0 := (HB.out.cell (World.block_lt_of_cell? w _ hx402_0)).trans hx402_0
    replace f5 := eq_true f5
    replace q402 := eq_true q402
    have h8 : 0 ≤ ((rd l1 b7) : Int) := oa_
    have q13 : ((rd l1 b7) : Int) < ((b5.length : Int) : Int) := oa_
    obtain ⟨go13, h9, g7, g8, gl13, cl13, HG13⟩ := Kd.R_form b1.out (by omega)
    (first | cases g7 | (injection g7 with ea_ en_ ec_; (first | subst ea_ | (injection ea_ with ea_; subst ea_)); subst ec_; clear en_))
    have GB13 := ak g8
    have GG13 := ak HG13
    clear g8 gl13 HG13
    obtain ⟨hx13_0, hf13_0⟩ := Kd.R_celln 0 b1.out ((rd l1 b7) : Int) h8 q13
    replace h8 := eq_true h8
    replace q13 := eq_true q13
    have HP14 := Kd.R_putg b1.out ((rd l1 b7) : Int) b7
    go_wp2_with (first | ((with_reducible refine gate_store (t := 3) (p := 26) rfl ?_); refine store_event (t := 3) (p := 26) (v := ?vo_w15) (w1 := (wr.setCell ⟨go13, ((rd l1 b7) : Int).toNat, none⟩ (.int .i64 b7))) ?hg ?ho ?hn ?hr ?_; (case ho => rfl); (case hg => rfl); (case hn => rfl); (case hr => first | (go_simp; done) | (go_simp; rfl)); intro i0 hw; have hg : wr.grownBy i0 (some go13) := (by rw [hw]; exact HP14.2); have hp_ : Kd.R (Kd.int .i64) 3 i0 w.heap.size (fun _ => True) (.slice (some ⟨go13, 0, none⟩) b5.length h9) y403 := (by rw [hw, Ny403.out]; exact HP14.1); clear HP14; replace a2 := ak (blk_grown (g := a9) (o := .cells #[.slice A0_0 l0_0.length c0_0, .slice A0_1 l0_1.length c0_1] 27 (0, 0)) (xb a2.out) hg (Kd.R_ne b1.out a2.out z1f_9)); replace a4 := ak (blk_grown (g := b0) (o := .cells #[.slice none 0 0, .slice none 0 0] 27 (0, 0)) (xb a4.out) hg (Kd.R_ne b1.out a4.out z1f_9)); replace b1 := ak (hp_); replace HB := ak ((by rw [hw]; exact below_set (HB.out) GB13.out : Below w.heap.size w i0)); clear hg hw hp_))
    go_roundg k1
    case measure => have := HK1.out; omega
    case rel => exact ⟨(y403), (wrap64 (b7 + 1)), z1f_7, H', ⟨(by have := HK1.out; omega)⟩, ⟨(xR b1.out)⟩, ⟨(xb a2.out)⟩, ⟨(xb a4.out)⟩, ⟨z1f_1⟩⟩
   have H' := ak H
   clear H
   go_wp2_with (first | ((with_reducible refine gate_dst (N := 7) rfl ?_); refine bx_ (N := 7) (cs := #[.slice none 0 0, .slice none 0 0]) (t := 27) ?_; intro a7 hg n9 hbox hb; replace b1 := ak (Kd.R_below (xR b1.out) hb); have a1 := ak (hbox); have j3 := ak ((by rw [hg]; exact (below_size z1f_1) : w.heap.size ≤ a7)); have g5 := ak ((by rw [hg]; exact (below_size z1f_1) : w.heap.size ≤ a7)); replace HB := ak (below_step z1f_1 hb); have b3 := ak ((by rw [hg]; exact Nat.ne_of_lt (blk_lt (g := a9) (o := .cells #[.slice A0_0 l0_0.length c0_0, .slice A0_1 l0_1.length c0_1] 27 (0, 0)) (xb a2.out)) : a9 ≠ a7)); have d0 := ak ((by rw [hg]; exact Nat.ne_of_gt (blk_lt (g := a9) (o := .cells #[.slice A0_0 l0_0.length c0_0, .slice A0_1 l0_1.length c0_1] 27 (0, 0)) (xb a2.out)) : a7 ≠ a9)); replace a2 := ak (blk_below (g := a9) (o := .cells #[.slice A0_0 l0_0.length c0_0, .slice A0_1 l0_1.length c0_1] 27 (0, 0)) (xb a2.out) hb); have b4 := ak ((by rw [hg]; exact Nat.ne_of_lt (blk_lt (g := b0) (o := .cells #[.slice none 0 0, .slice none 0 0] 27 (0, 0)) (xb a4.out)) : b0 ≠ a7)); have d1 := ak ((by rw [hg]; exact Nat.ne_of_gt (blk_lt (g := b0) (o := .cells #[.slice none 0 0, .slice none 0 0] 27 (0, 0)) (xb a4.out)) : a7 ≠ b0)); replace a4 := ak (blk_below (g := b0) (o := .cells #[.slice none 0 0, .slice none 0 0] 27 (0, 0)) (xb a4.out) hb); clear hb hbox hg; have j4 := d0.out; have j5 := b3.out; have j6 := d1.out; have j7 := b4.out; have d4 := cz20 a1.out; have d5 := cz21 a1.out; have d6 := blk_frozen a1.out 0; have d7 := blk_frozen a1.out 1))
   go_loopg [8] k1 (fun kq v8 w' => ∃ (a8 : Int) (a6 : List (List Int)) (a5 : List Int) (u405000 : Value) (u405001 : Value), v8 = .int .i64 a8 ∧ Aside0 (spec_l20Rename.l1 kq l1 b5 a8 l0_0 l0_1 a6 a5 = some (r1, r2)) ∧ Aside0 (kq ≤ k1) ∧ Aside0 (Kd.R (Kd.int .i64) 3 w' w.heap.size (fun k_ => some k_ ≠ (u405001 : Value).ownBlock) b6 b5) ∧ Aside0 (Kd.S (Kd.slice 3 (Kd.int .i64)) 25 w' w.heap.size (fun k_ => some k_ ≠ (b6 : Value).ownBlock ∧ some k_ ≠ (u405001 : Value).ownBlock) u405000 a6) ∧ Aside0 (Kd.R (Kd.int .i64) 3 w' w.heap.size (fun k_ => some k_ ≠ (b6 : Value).ownBlock) u405001 a5) ∧ Aside0 (w'.heap[a9]? = some (.cells #[(.slice A0_0 l0_0.length c0_0), (.slice A0_1 l0_1.length c0_1)] 27 (0, 0))) ∧ Aside0 (w'.heap[b0]? = some (.cells #[(.slice none 0 0), (.slice none 0 0)] 27 (0, 0))) ∧ Aside0 (w'.heap[a7]? = some (.cells #[u405000, u405001] 27 (0, 0))) ∧ Aside0 (Below w.heap.size w w'))
   case atStart => exact ⟨(0), (([] : List (List Int))), (([] : List Int)), (.slice none 0 0), (.slice none 0 0), z1f_7, H', ⟨Nat.le_refl _⟩, ⟨(by (with_reducible repeat (first | apply Kd.R_alloc | apply Kd.R_drewN | apply Kd.R_drew)); exact Kd.R_mono (Kd.R_far (p := ⟨a7, 1, none⟩) (Kd.R_far (p := ⟨a7, 0, none⟩) (Kd.R_types b1.out a1.out z1f_9) (fun _ hk => hk.2) (.slice none 0 0)) (fun _ hk => hk.2) (.slice none 0 0)) (fun _ hk => (by simp [Value.ownBlock])))⟩, ⟨(by first | exact Kd.S_nil _ _ _ _ _ | exact Kd.N_nil _ _ _ _ _ | exact Kd.V_nil _ _ _ _ _ | exact Kd.Q_nil _ _ _ _ _ | exact Kd.R_nil _ _ _ _ _)⟩, ⟨(by first | exact Kd.R_nil _ _ _ _ _ | exact Kd.N_nil _ _ _ _ _ | exact Kd.V_nil _ _ _ _ _ | exact Kd.Q_nil _ _ _ _ _ | exact Kd.S_nil _ _ _ _ _)⟩, ⟨(by (with_reducible repeat (first | refine blk_drewN ?_ _ | refine blk_drew ?_ | refine blk_alloc ?_ _)); refine blk_far ?_ b3.out _; (with_reducible repeat (first | refine blk_drewN ?_ _ | refine blk_drew ?_ | refine blk_alloc ?_ _)); refine blk_far ?_ b3.out _; (with_reducible repeat (first | refine blk_drewN ?_ _ | refine blk_drew ?_ | refine blk_alloc ?_ _)); exact a2.out)⟩, ⟨(by (with_reducible repeat (first | refine blk_drewN ?_ _ | refine blk_drew ?_ | refine blk_alloc ?_ _)); refine blk_far ?_ b4.out _; (with_reducible repeat (first | refine blk_drewN ?_ _ | refine blk_drew ?_ | refine blk_alloc ?_ _)); refine blk_far ?_ b4.out _; (with_reducible repeat (first | refine blk_drewN ?_ _ | refine blk_drew ?_ | refine blk_alloc ?_ _)); exact a4.out)⟩, ⟨(by (with_reducible repeat (first | refine blk_drewN ?_ _ | refine blk_drew ?_ | refine blk_alloc ?_ _)); refine blk_put (cs := #[.slice none 0 0, .slice none 0 0]) ?_ 1 _ rfl; (with_reducible repeat (first | refine blk_drewN ?_ _ | refine blk_drew ?_ | refine blk_alloc ?_ _)); refine blk_put (cs := #[.slice none 0 0, .slice none 0 0]) ?_ 0 _ rfl; (with_reducible repeat (first | refine blk_drewN ?_ _ | refine blk_drew ?_ | refine blk_alloc ?_ _)); exact a1.out)⟩, ⟨z1f_0⟩⟩
   case round =>
    clear H'
    try clear c1
    try clear c3
    try clear f0
    try clear f1
    try clear c4
    try clear f2
    try clear f3
    try clear c9
    try clear f4
    try clear d4
    try clear d5
    try clear d6
    try clear d7
    obtain ⟨a8, a6, a5, u405000, u405001, rfl, HA, HK2, b1, a3, a0, a2, a4, a1, HB⟩ := hrel
    cases gk with
    | zero => exact absurd HA.out (by simp [spec_l20Rename.l1])
    | succ k2 =>
     have H := HA.out
     clear HA
     simp only [spec_l20Rename.l1] at H
     replace H := os_ H
     rcases H with ⟨e7, H⟩ | ⟨e7, H⟩
     ·
      obtain ⟨y405, hy405⟩ : ∃ y_ : List Int, y_ = (([] : List Int)) := ⟨_, rfl⟩
      replace H : (spec_l20Rename.l2 k2 l1 b5 a8 y405 0 l0_0 l0_1 a6 a5) = some (r1, r2) := by first | (rw [hy405]; with_reducible exact H) | (have H2_ := (Option.bind_some _ _).symm.trans H; rw [hy405]; with_reducible exact H2_) | (have H2_ := (Option.bind_some _ _).symm.trans H; with_reducible exact H2_) | with_reducible exact H | (rw [hy405]; exact H) | exact H
      have Ny405 := ak hy405
      clear hy405
      have H' := ak H
      clear H
      go_wp2_with (first | ((with_reducible refine gate_dst (N := 34) rfl ?_); refine Kd.R_lit (Kd.int .i64) _ 3 ?hg (N := 34) ?hd (xs := ([] : List Int)) (inner := []) (ok := fun _ => True) (okp := fun _ => True) ?hr ?hp (fun _ hk => hk) trivial (Below.refl _ _) (Nat.le_refl _) (by simp) ?_; (case hd => rfl); (case hg => rfl); (case hr => first | (go_simp; done) | (go_simp; rfl)); (case hp => exact (Reps.none _ _)); intro n0 o0 ho22 hb hg_ hnew_; clear hg_ hnew_; (first | rw [← Ny405.out] at ho22 | (simp only [Int.reduceToNat] at ho22; rw [← Ny405.out] at ho22)); replace a3 := ak (Kd.S_elder' (xS a3.out) (Kd.R_base ho22) hb); have g9 := ak (Kd.R_lower (Kd.R_new' (Kd.R_new' ho22 (Kd.R_lt (xR b1.out))) (Kd.R_lt (xR a0.out))) (below_size z1f_0)); replace b1 := ak (Kd.R_elder' (xR b1.out) (Kd.R_base ho22) hb); replace a0 := ak (Kd.R_elder' (xR a0.out) (Kd.R_base ho22) hb); replace a2 := ak (blk_below (g := a9) (o := .cells #[.slice A0_0 l0_0.length c0_0, .slice A0_1 l0_1.length c0_1] 27 (0, 0)) (xb a2.out) hb); replace a4 := ak (blk_below (g := b0) (o := .cells #[.slice none 0 0, .slice none 0 0] 27 (0, 0)) (xb a4.out) hb); replace a1 := ak (blk_below (g := a7) (o := .cells #[u405000, u405001] 27 (0, 0)) (xb a1.out) hb); replace HB := ak (below_step z1f_0 hb); clear hb ho22))
      go_loopg [9, 10] k2 (fun kq v9 n1 w' => ∃ (d8 : List Int) (b2 : Int), n1 = .int .i64 b2 ∧ Aside0 (spec_l20Rename.l2 kq l1 b5 a8 d8 b2 l0_0 l0_1 a6 a5 = some (r1, r2)) ∧ Aside0 (kq ≤ k2) ∧ Aside0 (Kd.R (Kd.int .i64) 3 w' w.heap.size (fun k_ => some k_ ≠ (v9 : Value).ownBlock ∧ some k_ ≠ (u405001 : Value).ownBlock) b6 b5) ∧ Aside0 (Kd.R (Kd.int .i64) 3 w' w.heap.size (fun k_ => some k_ ≠ (b6 : Value).ownBlock ∧ some k_ ≠ (u405001 : Value).ownBlock) v9 d8) ∧ Aside0 (Kd.S (Kd.slice 3 (Kd.int .i64)) 25 w' w.heap.size (fun k_ => some k_ ≠ (b6 : Value).ownBlock ∧ some k_ ≠ (v9 : Value).ownBlock ∧ some k_ ≠ (u405001 : Value).ownBlock) u405000 a6) ∧ Aside0 (Kd.R (Kd.int .i64) 3 w' w.heap.size (fun k_ => some k_ ≠ (b6 : Value).ownBlock ∧ some k_ ≠ (v9 : Value).ownBlock) u405001 a5) ∧ Aside0 (w'.heap[a9]? = some (.cells #[(.slice A0_0 l0_0.length c0_0), (.slice A0_1 l0_1.length c0_1)] 27 (0, 0))) ∧ Aside0 (w'.heap[b0]? = some (.cells #[(.slice none 0 0), (.slice none 0 0)] 27 (0, 0))) ∧ Aside0 (w'.heap[a7]? = some (.cells #[u405000, u405001] 27 (0, 0))) ∧ Aside0 (Below w.heap.size w w'))
      case atStart => exact ⟨(y405), (0), z1f_7, H', ⟨Nat.le_refl _⟩, ⟨z1f_3⟩, ⟨(by (with_reducible repeat (first | apply Kd.R_alloc | apply Kd.R_drewN | apply Kd.R_drew)); exact Kd.R_mono g9.out (fun _ hk => ⟨hk.1.2, hk.2⟩))⟩, ⟨z1f_8⟩, ⟨(xR a0.out)⟩, ⟨(xb a2.out)⟩, ⟨(xb a4.out)⟩, ⟨(xb a1.out)⟩, ⟨z1f_0⟩⟩
      case round =>
       clear H'
       try clear c1
       try clear c3
       try clear f0
       try clear f1
       try clear c4
       try clear f2
       try clear f3
       try clear c9
       try clear f4
       try clear o1
       try clear e7
       try clear d4
       try clear d5
       try clear d6
       try clear d7
       obtain ⟨d8, b2, rfl, HA, HK3, b1, d3, a3, a0, a2, a4, a1, HB⟩ := hrel
       cases gk with
       | zero => exact absurd HA.out (by simp [spec_l20Rename.l2])
       | succ k3 =>
        have H := HA.out
        clear HA
        simp only [spec_l20Rename.l2] at H
        replace H := os_ H
        rcases H with ⟨h0, H⟩ | ⟨h0, H⟩
        ·
         replace H := od6 H
         obtain ⟨j8, j9, k0, k4, k5, k6, H⟩ := H
         replace H := od_ H
         obtain ⟨k7, H⟩ := H
         replace H := ok_ H
         obtain ⟨k8, H⟩ := H
         have LMc31 := ak k8
         clear k8
         obtain ⟨y412, hy412⟩ : ∃ y_ : List Int, y_ = (d8 ++ [rd (rd_L1 l0_0 (rd l1 a8)) (rd l1 b2)]) := ⟨_, rfl⟩
         replace H : (spec_l20Rename.l2 k3 l1 b5 a8 y412 (wrap64 (b2 + 1)) l0_0 l0_1 a6 a5) = some (r1, r2) := by first | (rw [hy412]; with_reducible exact H) | (have H2_ := (Option.bind_some _ _).symm.trans H; rw [hy412]; with_reducible exact H2_) | (have H2_ := (Option.bind_some _ _).symm.trans H; with_reducible exact H2_) | with_reducible exact H | (rw [hy412]; exact H) | exact H
         have Ny412 := ak hy412
         clear hy412
         have H' := ak H
         clear H
         try go_wp2
         replace b1 := ak (Kd.R_drew b1.out)
         replace d3 := ak (Kd.R_drew d3.out)
         replace a3 := ak (Kd.S_drew a3.out)
         replace a0 := ak (Kd.R_drew a0.out)
         replace a2 := ak (blk_drew a2.out)
         replace a4 := ak (blk_drew a4.out)
         replace a1 := ak (blk_drew a1.out)
         replace HB := ak (below_drew1 HB.out)
         have f6 : 0 ≤ (a8 : Int) := oa_
         have q408 : a8 < (l1.length : Int) := oa_
         obtain ⟨ad408, e408, hx408_0⟩ := Kd.at_int HR1.out a8 f6 q408
         have hw408_0 := hx408_0
         cases e408
         replace hx408_0 := (HB.out.cell (World.block_lt_of_cell? w _ hx408_0)).trans hx408_0
         replace f6 := eq_true f6
         replace q408 := eq_true q408
         have f7 : 0 ≤ ((rd l1 a8) : Int) := oa_
         have q409 : (rd l1 a8) < (l0_0.length : Int) := oa_
         obtain ⟨ad409, i1, f8, e409, hx409_0, hl409_0, hi409_0⟩ := at_L1 HR0_0.out (rd l1 a8) f7 q409
         have hw409_0 := hx409_0
         cases e409
         replace hx409_0 := (HB.out.cell (World.block_lt_of_cell? w _ hx409_0)).trans hx409_0
         have HR409_0 := ak hi409_0
         have h7 := ak hl409_0
         clear hi409_0 hl409_0
         replace f7 := eq_true f7
         replace q409 := eq_true q409
         have f9 : 0 ≤ (b2 : Int) := oa_
         have q410 : b2 < (l1.length : Int) := oa_
         obtain ⟨ad410, e410, hx410_0⟩ := Kd.at_int HR1.out b2 f9 q410
         have hw410_0 := hx410_0
         obtain rfl := ij_ e410
         replace hx410_0 := (HB.out.cell (World.block_lt_of_cell? w _ hx410_0)).trans hx410_0
         replace f9 := eq_true f9
         replace q410 := eq_true q410
         have g0 : 0 ≤ ((rd l1 b2) : Int) := oa_
         have q411 : (rd l1 b2) < ((rd_L1 l0_0 (rd l1 a8)).length : Int) := oa_
         obtain ⟨ad411, e411, hx411_0⟩ := Kd.at_int HR409_0.out (rd l1 b2) g0 q411
         have hw411_0 := hx411_0
         cases e411
         replace hx411_0 := (HB.out.cell (World.block_lt_of_cell? w _ hx411_0)).trans hx411_0
         replace g0 := eq_true g0
         replace q411 := eq_true q411
         refine start_ (n := 18) (S := fun w' => w'.cell? ⟨a9, 0, none⟩ = some (.slice (some ad409) l0_0.length c0_0) ∧ w'.cell? ⟨a9, 1, none⟩ = some (.slice A0_1 l0_1.length c0_1) ∧ w'.cell? (ad408.add (a8).toNat) = some (.int .i64 (rd l1 a8)) ∧ w'.cell? (ad409.add ((rd l1 a8)).toNat) = some (.slice (some ad411) (rd_L1 l0_0 (rd l1 a8)).length f8) ∧ w'.cell? (ad408.add (b2).toNat) = some (.int .i64 (rd l1 b2)) ∧ w'.cell? (ad411.add ((rd l1 b2)).toNat) = some (.int .i64 (rd (rd_L1 l0_0 (rd l1 a8)) (rd l1 b2)))) (ds := []) (bA 18 0) (by kernel_rfl) rfl rfl ⟨(blk_cell a2.out 0).trans rfl, (blk_cell a2.out 1).trans rfl, ((HB.out.cell (World.block_lt_of_cell? w _ hw408_0)).trans hw408_0), ((HB.out.cell (World.block_lt_of_cell? w _ hw409_0)).trans hw409_0), ((HB.out.cell (World.block_lt_of_cell? w _ hw410_0)).trans hw410_0), ((HB.out.cell (World.block_lt_of_cell? w _ hw411_0)).trans hw411_0)⟩ (fun hHeld => ?_); refine with_tabW spec_l20Rename.tab14 spec_l20Rename.bits14 (fun HT_ HW_ => ?_)
         generalize wr.drew = o2 at b1 d3 a3 a0 a2 a4 a1 HB HR409_0 hx408_0 hx409_0 hx410_0 hx411_0 hHeld ⊢
         refine pu_ (i := 0) (N := some 41) (bA 18 1) ?_
         refine pu_ (i := 1) (N := some 42) (bA 18 3) ?_
         refine pu_ (i := 3) (N := some 44) (bA 18 11) ?_
         refine pu_ (i := 4) (N := some 45) (bA 18 27) ?_
         refine pu_ (i := 5) (N := some 46) (bA 18 59) ?_
         refine pu_ (i := 9) (N := some 50) (bA 18 571) ?_
         refine pu_ (i := 10) (N := some 51) (bA 18 1595) ?_
         refine pu_ (i := 11) (N := some 52) (bA 18 3643) ?_
         refine tk_ (i := 2) (N := some 43) (bA 18 3647) ?_
         refine tk_ (i := 6) (N := some 47) (bA 18 3711) ?_
         refine pu_ (i := 7) (N := some 48) (bA 18 3839) ?_
         refine tk_ (i := 8) (N := some 49) (bA 18 4095) ?_
         refine tk_ (i := 12) (N := some 53) (bA 18 8191) ?_
         refine pu_ (i := 13) (N := some 54) (bA 18 16383) ?_
         refine tk_ (i := 14) (N := some 55) (bA 18 32767) ?_
         refine one_ (i := 15) (N := some 56) (bA 18 65535) rfl rfl (one_of HT_.out (by kernel_rfl)) z1f_9 (fun K hK => ?_)
         refine value_ (w1 := ?_) (v := ?_) (by rfl) rfl ?_ ?_
         rotate_left 2
         ·
          go_simp
          constructor
          ·
           rfl
          rfl
         refine hK.out _ _ ⟨(blk_cell (blk_alloc a2.out _) 0).trans rfl, (blk_cell (blk_alloc a2.out _) 1).trans rfl, (World.cell?_alloc_lt _ _ _ (World.block_lt_of_cell? _ _ (((HB.out.cell (World.block_lt_of_cell? w _ hw408_0)).trans hw408_0)))).trans (((HB.out.cell (World.block_lt_of_cell? w _ hw408_0)).trans hw408_0)), (World.cell?_alloc_lt _ _ _ (World.block_lt_of_cell? _ _ (((HB.out.cell (World.block_lt_of_cell? w _ hw409_0)).trans hw409_0)))).trans (((HB.out.cell (World.block_lt_of_cell? w _ hw409_0)).trans hw409_0)), (World.cell?_alloc_lt _ _ _ (World.block_lt_of_cell? _ _ (((HB.out.cell (World.block_lt_of_cell? w _ hw410_0)).trans hw410_0)))).trans (((HB.out.cell (World.block_lt_of_cell? w _ hw410_0)).trans hw410_0)), (World.cell?_alloc_lt _ _ _ (World.block_lt_of_cell? _ _ (((HB.out.cell (World.block_lt_of_cell? w _ hw411_0)).trans hw411_0)))).trans (((HB.out.cell (World.block_lt_of_cell? w _ hw411_0)).trans hw411_0))⟩ (fun hHeld => ?_)
         clear hK K
         refine no_ (N := some 56) ?_
         refine one_ (i := 16) (N := some 57) (bA 18 131071) rfl rfl (one_of HT_.out (by kernel_rfl)) z1f_9 (fun K hK => ?_)
         refine Kd.R_append_step (Kd.int .i64) (w0 := w) w.heap.size (by rfl) (.tmp 41) (.tmp 56) 25 3 (.int .i64 0) 8 rfl Try.underlying25 info3 rfl z1f_9 (by omega) u9 d8 (rd (rd_L1 l0_0 (rd l1 a8)) (rd l1 b2)) [.int .i64 (rd (rd_L1 l0_0 (rd l1 a8)) (rd l1 b2))] (fun k_ => some k_ ≠ (b6 : Value).ownBlock ∧ some k_ ≠ (u405001 : Value).ownBlock) (fun _ => False) rfl rfl ?aP (fun _ hk => hk.elim) ?aF ?aO ?aB ?aS ?aL ?_
         (case aP => exact rfl)
         (case aB => exact z1f_0)
         (case aF => exact (fun k_ hk => ⟨Kd.fresh' (Kd.R_lt (xR b1.out)) k_ hk, Kd.fresh' (Kd.R_lt (xR a0.out)) k_ hk⟩))
         (case aO => exact (xR d3.out))
         (case aS => exact (below_size z1f_0))
         (case aL => have := LMc31.out; omega)
         intro n2 o3 ho hb hg hat
         rw [← Ny412.out] at ho
         replace b1 := ak (Kd.R_after (ok := (fun k_ => some k_ ≠ (u405001 : Value).ownBlock)) z1f_3 hg hat)
         replace a3 := ak (Kd.S_after (ok := (fun k_ => some k_ ≠ (b6 : Value).ownBlock ∧ some k_ ≠ (u405001 : Value).ownBlock)) (by (with_reducible repeat (first | apply Kd.S_alloc | apply Kd.S_drewN | apply Kd.S_drew)); exact Kd.S_mono a3.out (fun _ hk => ⟨⟨hk.1, hk.2.2⟩, hk.2.1⟩)) hg hat)
         replace a0 := ak (Kd.R_after (ok := (fun k_ => some k_ ≠ (b6 : Value).ownBlock)) (xR a0.out) hg hat)
         replace a2 := ak (blk_grown (g := a9) (o := .cells #[.slice (some ad409) l0_0.length c0_0, .slice A0_1 l0_1.length c0_1] 27 (0, 0)) (xb a2.out) hg (Kd.R_ne d3.out a2.out z1f_9))
         replace a4 := ak (blk_grown (g := b0) (o := .cells #[.slice none 0 0, .slice none 0 0] 27 (0, 0)) (xb a4.out) hg (Kd.R_ne d3.out a4.out z1f_9))
         replace a1 := ak (blk_grown (g := a7) (o := .cells #[u405000, u405001] 27 (0, 0)) (xb a1.out) hg (Kd.R_ne d3.out a1.out z1f_9))
         replace HB := ak (hb)
         have h1 := ak (ho)
         clear d3 ho hb hg hat
         refine hK.out _ _ ⟨(blk_cell a2.out 0).trans rfl, (blk_cell a2.out 1).trans rfl, ((HB.out.cell (World.block_lt_of_cell? w _ hw408_0)).trans hw408_0), ((HB.out.cell (World.block_lt_of_cell? w _ hw409_0)).trans hw409_0), ((HB.out.cell (World.block_lt_of_cell? w _ hw410_0)).trans hw410_0), ((HB.out.cell (World.block_lt_of_cell? w _ hw411_0)).trans hw411_0)⟩ (fun hHeld => ?_)
         clear hK K
         refine no_ (N := some 57) ?_
         refine pu_ (i := 17) (N := some 9) (bA 18 262143) ?_
         refine done_ (done_of HT_.out (by kernel_rfl)) ?_
         try go_wp2
         go_roundg k3
         case measure => have := HK1.out; have := HK2.out; have := HK3.out; omega
         case rel => exact ⟨(y412), (wrap64 (b2 + 1)), z1f_7, H', ⟨(by have := HK1.out; have := HK2.out; have := HK3.out; omega)⟩, ⟨z1f_3⟩, ⟨(xR h1.out)⟩, ⟨z1f_8⟩, ⟨(xR a0.out)⟩, ⟨(xb a2.out)⟩, ⟨(xb a4.out)⟩, ⟨(xb a1.out)⟩, ⟨z1f_0⟩⟩
        replace H := ok_ H
        obtain ⟨k9, H⟩ := H
        have LMc34 := ak k9
        clear k9
        obtain ⟨y415, hy415⟩ : ∃ y_ : List (List Int), y_ = (a6 ++ [d8]) := ⟨_, rfl⟩
        replace H : (if 0 ≤ a8 then (if a8 < (l1.length : Int) then (if 0 ≤ (rd l1 a8) then (if (rd l1 a8) < (l0_1.length : Int) then (if 0 ≤ (rd l0_1 (rd l1 a8)) then (if (rd l0_1 (rd l1 a8)) < (b5.length : Int) then (if a5.length < 17592186044416 then (spec_l20Rename.l1 k3 l1 b5 (wrap64 (a8 + 1)) l0_0 l0_1 y415 (a5 ++ [rd b5 (rd l0_1 (rd l1 a8))])) else (none)) else (none)) else (none)) else (none)) else (none)) else (none)) else (none)) = some (r1, r2) := by first | (rw [hy415]; with_reducible exact H) | (have H2_ := (Option.bind_some _ _).symm.trans H; rw [hy415]; with_reducible exact H2_) | (have H2_ := (Option.bind_some _ _).symm.trans H; with_reducible exact H2_) | with_reducible exact H | (rw [hy415]; exact H) | exact H
        have Ny415 := ak hy415
        clear hy415
        replace H := od6 H
        obtain ⟨l3, l4, l5, l6, l7, l8, H⟩ := H
        replace H := ok_ H
        obtain ⟨l9, H⟩ := H
        have LMc41 := ak l9
        clear l9
        obtain ⟨y421, hy421⟩ : ∃ y_ : List Int, y_ = (a5 ++ [rd b5 (rd l0_1 (rd l1 a8))]) := ⟨_, rfl⟩
        replace H : (spec_l20Rename.l1 k3 l1 b5 (wrap64 (a8 + 1)) l0_0 l0_1 y415 y421) = some (r1, r2) := by first | (rw [hy421]; with_reducible exact H) | (have H2_ := (Option.bind_some _ _).symm.trans H; rw [hy421]; with_reducible exact H2_) | (have H2_ := (Option.bind_some _ _).symm.trans H; with_reducible exact H2_) | with_reducible exact H | (rw [hy421]; exact H) | exact H
        have Ny421 := ak hy421
        clear hy421
        have H' := ak H
        clear H
        have m0 := d0.out
        have m1 := b3.out
        have m2 := d1.out
        have m3 := b4.out
        have d4 := cz20 a1.out
        have d5 := cz21 a1.out
        have d6 := blk_frozen a1.out 0
        have d7 := blk_frozen a1.out 1
        obtain ⟨h2, h3, i2⟩ := Kd.R_slice d3.out
        subst i2
        try go_wp2_with (first | ((with_reducible refine gate_builtin (b := .append) (xs := #[.tmp 59, .tmp 61]) rfl ?_); at_builtin; refine Kd.S_append (Kd.slice 3 (Kd.int .i64)) (w0 := w) w.heap.size rfl (.tmp 59) (.tmp 61) 24 25 (.slice none 0 0) 24 rfl Try.underlying24 info25 rfl z1f_9 (by omega) u405000 a6 d8 [.slice h2 d8.length h3] (fun k_ => some k_ ≠ (b6 : Value).ownBlock ∧ some k_ ≠ (u405001 : Value).ownBlock) (fun k_ => some k_ = (.slice h2 d8.length h3 : Value).ownBlock) rfl rfl ?aP (fun k_ hk_ => ((Kd.R_mono (ok' := fun k_ => ((fun k_ => some k_ ≠ (b6 : Value).ownBlock ∧ some k_ ≠ (u405001 : Value).ownBlock)) k_ ∧ some k_ ≠ (u405000 : Value).ownBlock) (Kd.R_apart' (d3.out) (Kd.S_typed a3.out) z1f_9) (fun k_ hk => ⟨⟨hk.1.1, hk.1.2⟩, hk.2⟩))).1 k_ hk_.symm) ?aF ?aO ?aB ?aS ?aL ?_; (case aP => exact Kd.M_row (Kd.R_mono (Kd.R_tight rfl (Kd.R_mono (ok' := fun k_ => ((fun k_ => some k_ ≠ (b6 : Value).ownBlock ∧ some k_ ≠ (u405001 : Value).ownBlock)) k_ ∧ some k_ ≠ (u405000 : Value).ownBlock) (Kd.R_apart' (d3.out) (Kd.S_typed a3.out) z1f_9) (fun k_ hk => ⟨⟨hk.1.1, hk.1.2⟩, hk.2⟩))) (fun _ h_ => h_))); (case aB => exact z1f_0); (case aF => exact (fun k_ hk => ⟨Kd.fresh' (Kd.R_lt (xR b1.out)) k_ hk, Kd.fresh' (Kd.R_lt (xR a0.out)) k_ hk⟩)); (case aO => exact (by (with_reducible repeat (first | apply Kd.S_alloc | apply Kd.S_drewN | apply Kd.S_drew)); exact Kd.S_mono a3.out (fun k_ hk => ⟨⟨hk.1, hk.2.2⟩, fun e_ => hk.2.1 e_⟩))); (case aS => exact (below_size z1f_0)); (case aL => have := LMc34.out; omega); intro n3 e8 ho hb hg hat; rw [← Ny415.out] at ho; replace b1 := ak (Kd.R_over' (xR b1.out) (Kd.S_typed (xS a3.out)) z1f_9 hg); replace a0 := ak (Kd.R_over' (xR a0.out) (Kd.S_typed (xS a3.out)) z1f_9 hg); replace a2 := ak (blk_grown (g := a9) (o := .cells #[.slice A0_0 l0_0.length c0_0, .slice A0_1 l0_1.length c0_1] 27 (0, 0)) (xb a2.out) hg (Kd.S_ne a3.out a2.out z1f_9)); replace a4 := ak (blk_grown (g := b0) (o := .cells #[.slice none 0 0, .slice none 0 0] 27 (0, 0)) (xb a4.out) hg (Kd.S_ne a3.out a4.out z1f_9)); replace a1 := ak (blk_grown (g := a7) (o := .cells #[u405000, u405001] 27 (0, 0)) (xb a1.out) hg (Kd.S_ne a3.out a1.out z1f_9)); replace HB := ak (hb); have d2 := ak (ho); clear a3 d3; clear ho hb hg hat; obtain ⟨b8, b9, i3⟩ := Kd.S_slice d2.out; subst i3; have d4 := cz20 a1.out; have d5 := cz21 a1.out; have d6 := blk_frozen a1.out 0; have d7 := blk_frozen a1.out 1))
        have n0_ : Aside0 (Kd.R (Kd.int .i64) 3 (e8.setCell ⟨a7, 0, none⟩ (.slice b8 y415.length b9)) w.heap.size (fun k_ => some k_ ≠ (u405001 : Value).ownBlock) b6 b5) := ⟨(by (with_reducible repeat (first | apply Kd.R_alloc | apply Kd.R_drewN | apply Kd.R_drew)); exact Kd.R_mono (Kd.R_far (p := ⟨a7, 0, none⟩) (Kd.R_types b1.out a1.out z1f_9) (fun _ hk => hk.2) (.slice b8 y415.length b9)) (fun _ hk => hk.1.2))⟩
        have n1_ : Aside0 (Kd.R (Kd.int .i64) 3 (e8.setCell ⟨a7, 0, none⟩ (.slice b8 y415.length b9)) w.heap.size (fun k_ => some k_ ≠ (b6 : Value).ownBlock) u405001 a5) := ⟨(by (with_reducible repeat (first | apply Kd.R_alloc | apply Kd.R_drewN | apply Kd.R_drew)); exact Kd.R_mono (Kd.R_far (p := ⟨a7, 0, none⟩) (Kd.R_types a0.out a1.out z1f_9) (fun _ hk => hk.2) (.slice b8 y415.length b9)) (fun _ hk => hk.1.1))⟩
        have n2_ : Aside0 (Kd.S (Kd.slice 3 (Kd.int .i64)) 25 (e8.setCell ⟨a7, 0, none⟩ (.slice b8 y415.length b9)) w.heap.size (fun k_ => some k_ ≠ (b6 : Value).ownBlock ∧ some k_ ≠ (u405001 : Value).ownBlock) (.slice b8 y415.length b9) y415) := ⟨(by (with_reducible repeat (first | apply Kd.S_alloc | apply Kd.S_drewN | apply Kd.S_drew)); exact Kd.S_mono (Kd.S_far (p := ⟨a7, 0, none⟩) (Kd.S_types d2.out a1.out z1f_9) (fun _ hk => hk.2) (.slice b8 y415.length b9)) (fun _ hk => ⟨hk.1.1, hk.1.2⟩))⟩
        have n3_ : Aside0 ((e8.setCell ⟨a7, 0, none⟩ (.slice b8 y415.length b9)).heap[a9]? = some (.cells #[.slice A0_0 l0_0.length c0_0, .slice A0_1 l0_1.length c0_1] 27 (0, 0))) := ⟨z1f_6⟩
        have n4_ : Aside0 ((e8.setCell ⟨a7, 0, none⟩ (.slice b8 y415.length b9)).heap[b0]? = some (.cells #[.slice none 0 0, .slice none 0 0] 27 (0, 0))) := ⟨z1f_5⟩
        have n5_ : Aside0 ((e8.setCell ⟨a7, 0, none⟩ (.slice b8 y415.length b9)).heap[a7]? = some (.cells #[.slice b8 y415.length b9, u405001] 27 (0, 0))) := ⟨(by (with_reducible repeat (first | refine blk_drewN ?_ _ | refine blk_drew ?_ | refine blk_alloc ?_ _)); refine blk_put (cs := #[u405000, u405001]) ?_ 0 _ rfl; (with_reducible repeat (first | refine blk_drewN ?_ _ | refine blk_drew ?_ | refine blk_alloc ?_ _)); exact a1.out)⟩
        have n6_ : Aside0 (Below w.heap.size w (e8.setCell ⟨a7, 0, none⟩ (.slice b8 y415.length b9))) := ⟨z1f_0⟩
        (try clear b1)
        (try clear a0)
        (try clear d2)
        (try clear a2)
        (try clear a4)
        (try clear a1)
        (try clear HB)
        generalize (e8.setCell ⟨a7, 0, none⟩ (.slice b8 y415.length b9)) = n4 at n0_ n1_ n2_ n3_ n4_ n5_ n6_ ⊢
        have b1 := n0_
        have a0 := n1_
        have d2 := n2_
        have a2 := n3_
        have a4 := n4_
        have a1 := n5_
        have HB := n6_
        clear n0_ n1_ n2_ n3_ n4_ n5_ n6_
        replace b1 := ak (Kd.R_drew b1.out)
        replace a0 := ak (Kd.R_drew a0.out)
        replace d2 := ak (Kd.S_drew d2.out)
        replace a2 := ak (blk_drew a2.out)
        replace a4 := ak (blk_drew a4.out)
        replace a1 := ak (blk_drew a1.out)
        replace HB := ak (below_drew1 HB.out)
        have g1 : 0 ≤ (a8 : Int) := oa_
        have q418 : a8 < (l1.length : Int) := oa_
        obtain ⟨ad418, e418, hx418_0⟩ := Kd.at_int HR1.out a8 g1 q418
        have hw418_0 := hx418_0
        cases e418
        replace hx418_0 := (HB.out.cell (World.block_lt_of_cell? w _ hx418_0)).trans hx418_0
        replace g1 := eq_true g1
        replace q418 := eq_true q418
        have g2 : 0 ≤ ((rd l1 a8) : Int) := oa_
        have q419 : (rd l1 a8) < (l0_1.length : Int) := oa_
        obtain ⟨ad419, e419, hx419_0⟩ := Kd.at_int HR0_1.out (rd l1 a8) g2 q419
        have hw419_0 := hx419_0
        cases e419
        replace hx419_0 := (HB.out.cell (World.block_lt_of_cell? w _ hx419_0)).trans hx419_0
        replace g2 := eq_true g2
        replace q419 := eq_true q419
        obtain ⟨n5, h4, h5⟩ := Kd.R_slice b1.out
        (first | subst h5 | (injection h5 with f1_ f2_ f3_; have f4_ := f1_.symm; have f5_ := f3_.symm; clear f1_ f2_ f3_; subst f4_; subst f5_))
        obtain ⟨ad420, e420, hx420_0, n6, q420⟩ := ai_ (Kd.R_reads' b1.out).2.2 (rd l0_1 (rd l1 a8))
        cases e420
        refine start_ (n := 17) (S := fun w' => w'.cell? ⟨a7, 0, none⟩ = some (.slice b8 y415.length b9) ∧ w'.cell? ⟨a7, 1, none⟩ = some (u405001) ∧ w'.cell? ⟨a9, 0, none⟩ = some (.slice A0_0 l0_0.length c0_0) ∧ w'.cell? ⟨a9, 1, none⟩ = some (.slice (some ad419) l0_1.length c0_1) ∧ w'.cell? (ad418.add (a8).toNat) = some (.int .i64 (rd l1 a8)) ∧ w'.cell? (ad419.add ((rd l1 a8)).toNat) = some (.int .i64 (rd l0_1 (rd l1 a8))) ∧ w'.cell? (ad420.add ((rd l0_1 (rd l1 a8))).toNat) = some (.int .i64 (rd b5 (rd l0_1 (rd l1 a8))))) (ds := [14, 16]) (bA 17 0) (by kernel_rfl) rfl rfl ⟨(blk_cell a1.out 0).trans rfl, (blk_cell a1.out 1).trans rfl, (blk_cell a2.out 0).trans rfl, (blk_cell a2.out 1).trans rfl, ((HB.out.cell (World.block_lt_of_cell? w _ hw418_0)).trans hw418_0), ((HB.out.cell (World.block_lt_of_cell? w _ hw419_0)).trans hw419_0), hx420_0⟩ (fun hHeld => ?_); refine with_tabW spec_l20Rename.tab16 spec_l20Rename.bits16 (fun HT_ HW_ => ?_)
        generalize n4.drew = o4 at b1 a0 d2 a2 a4 a1 HB hx418_0 hx419_0 hx420_0 hHeld ⊢
        refine pu_ (i := 0) (N := some 64) (bA 17 1) ?_
        refine pu_ (i := 2) (N := some 66) (bA 17 5) ?_
        refine pu_ (i := 3) (N := some 67) (bA 17 13) ?_
        refine pu_ (i := 5) (N := some 69) (bA 17 45) ?_
        refine pu_ (i := 6) (N := some 70) (bA 17 109) ?_
        refine pu_ (i := 7) (N := some 71) (bA 17 237) ?_
        refine tk_ (i := 1) (N := some 65) (bA 17 239) ?_
        refine tk_ (i := 4) (N := some 68) (bA 17 255) ?_
        refine tk_ (i := 8) (N := some 72) (bA 17 511) ?_
        refine pu_ (i := 9) (N := some 73) (bA 17 1023) ?_
        refine tk_ (i := 10) (N := some 74) (bA 17 2047) ?_
        refine pu_ (i := 11) (N := some 75) (bA 17 4095) ?_
        refine tk_ (i := 12) (N := some 76) (bA 17 8191) ?_
        refine one_ (i := 13) (N := some 77) (bA 17 16383) rfl rfl (one_of HT_.out (by kernel_rfl)) z1f_9 (fun K hK => ?_)
        refine value_ (w1 := ?_) (v := ?_) (by rfl) rfl ?_ ?_
        rotate_left 2
        ·
         go_simp
         constructor
         ·
          rfl
         rfl
        refine hK.out _ _ ⟨(blk_cell (blk_alloc a1.out _) 0).trans rfl, (blk_cell (blk_alloc a1.out _) 1).trans rfl, (blk_cell (blk_alloc a2.out _) 0).trans rfl, (blk_cell (blk_alloc a2.out _) 1).trans rfl, (World.cell?_alloc_lt _ _ _ (World.block_lt_of_cell? _ _ (((HB.out.cell (World.block_lt_of_cell? w _ hw418_0)).trans hw418_0)))).trans (((HB.out.cell (World.block_lt_of_cell? w _ hw418_0)).trans hw418_0)), (World.cell?_alloc_lt _ _ _ (World.block_lt_of_cell? _ _ (((HB.out.cell (World.block_lt_of_cell? w _ hw419_0)).trans hw419_0)))).trans (((HB.out.cell (World.block_lt_of_cell? w _ hw419_0)).trans hw419_0)), (World.cell?_alloc_lt _ _ _ (World.block_lt_of_cell? _ _ (hHeld.2.2.2.2.2.2))).trans (hHeld.2.2.2.2.2.2)⟩ (fun hHeld => ?_)
        clear hK K
        refine no_ (N := some 77) ?_
        refine last_ (i := 14) (N := some 78) (bA 17 32767) rfl rfl (one_of HT_.out (by kernel_rfl)) z1f_9 (fun K hK => ?_)
        refine Kd.R_append_step (Kd.int .i64) (w0 := w) w.heap.size (by rfl) (.tmp 65) (.tmp 77) 25 3 (.int .i64 0) 8 rfl Try.underlying25 info3 rfl z1f_9 (by omega) u405001 a5 (rd b5 (rd l0_1 (rd l1 a8))) [.int .i64 (rd b5 (rd l0_1 (rd l1 a8)))] (fun k_ => some k_ ≠ (.slice (some ad420) b5.length h4 : Value).ownBlock) (fun _ => False) rfl rfl ?aP (fun _ hk => hk.elim) ?aF ?aO ?aB ?aS ?aL ?_
        (case aP => exact rfl)
        (case aB => exact z1f_0)
        (case aF => exact (fun k_ hk => Kd.fresh' (Kd.R_lt (xR b1.out)) k_ hk))
        (case aO => exact (xR a0.out))
        (case aS => exact (below_size z1f_0))
        (case aL => have := LMc41.out; omega)
        intro n7 o5 ho hb hg hat
        rw [← Ny421.out] at ho
        replace b1 := ak (Kd.R_after (ok := (fun _ => True)) (by (with_reducible repeat (first | apply Kd.R_alloc | apply Kd.R_drewN | apply Kd.R_drew)); exact Kd.R_mono b1.out (fun _ hk => ⟨trivial, hk⟩)) hg hat)
        replace a2 := ak (blk_grown (g := a9) (o := .cells #[.slice A0_0 l0_0.length c0_0, .slice (some ad419) l0_1.length c0_1] 27 (0, 0)) (xb a2.out) hg (Kd.R_ne a0.out a2.out z1f_9))
        replace a4 := ak (blk_grown (g := b0) (o := .cells #[.slice none 0 0, .slice none 0 0] 27 (0, 0)) (xb a4.out) hg (Kd.R_ne a0.out a4.out z1f_9))
        replace a1 := ak (blk_grown (g := a7) (o := .cells #[.slice b8 y415.length b9, u405001] 27 (0, 0)) (xb a1.out) hg (Kd.R_ne a0.out a1.out z1f_9))
        replace d2 := ak (Kd.S_after (ok := (fun k_ => some k_ ≠ (.slice (some ad420) b5.length h4 : Value).ownBlock)) (xS d2.out) hg hat)
        replace HB := ak (hb)
        have e9 := ak (ho)
        clear a0 ho hb hg hat
        obtain ⟨e2, e3, h6⟩ := Kd.R_slice e9.out
        (first | subst h6 | (injection h6 with f1_ f2_ f3_; have f4_ := f1_.symm; have f5_ := f3_.symm; clear f1_ f2_ f3_; subst f4_; subst f5_))
        refine hK.out _ _ ?_
        clear hK K
        refine no_ (N := some 78) ?_
        refine pu_ (i := 15) (N := some 79) (bA 17 65535) ?_
        refine last_ (i := 16) (N := none) (bA 17 131071) rfl rfl (one_of HT_.out (by kernel_rfl)) z1f_9 (fun K hK => ?_)
        have hs54 : _ := cz21 a1.out
        have hfs54 := blk_frozen a1.out 1
        have hns54_0 := b3.out
        have hns54_1 := b4.out
        have hms54_0 := d0.out
        have hms54_1 := d1.out
        refine skip_ (w1 := ?_) (by rfl) rfl ?_ ?_
        rotate_left
        ·
         go_simp
         rfl
        refine hK.out _ _ ?_
        clear hK K
        refine done_ (done_of HT_.out (by kernel_rfl)) ?_
        try go_wp2
        go_roundg k3
        case measure => have := HK1.out; have := HK2.out; have := HK3.out; omega
        case rel => exact ⟨(wrap64 (a8 + 1)), (y415), (y421), (.slice b8 y415.length b9), (.slice e2 y421.length e3), z1f_7, H', ⟨(by have := HK1.out; have := HK2.out; have := HK3.out; omega)⟩, ⟨(by (with_reducible repeat (first | apply Kd.R_alloc | apply Kd.R_drewN | apply Kd.R_drew)); exact Kd.R_mono (Kd.R_far (p := ⟨a7, 1, none⟩) (Kd.R_types b1.out a1.out z1f_9) (fun _ hk => hk.2) (.slice e2 y421.length e3)) (fun _ hk => hk.1.2))⟩, ⟨(by (with_reducible repeat (first | apply Kd.S_alloc | apply Kd.S_drewN | apply Kd.S_drew)); exact Kd.S_mono (Kd.S_far (p := ⟨a7, 1, none⟩) (Kd.S_types d2.out a1.out z1f_9) (fun _ hk => hk.2) (.slice e2 y421.length e3)) (fun _ hk => ⟨hk.1.1, hk.1.2⟩))⟩, ⟨(by (with_reducible repeat (first | apply Kd.R_alloc | apply Kd.R_drewN | apply Kd.R_drew)); exact Kd.R_mono (Kd.R_far (p := ⟨a7, 1, none⟩) (Kd.R_types e9.out a1.out z1f_9) (fun _ hk => hk.2) (.slice e2 y421.length e3)) (fun _ hk => hk.1))⟩, ⟨z1f_6⟩, ⟨z1f_5⟩, ⟨(by (with_reducible repeat (first | refine blk_drewN ?_ _ | refine blk_drew ?_ | refine blk_alloc ?_ _)); refine blk_put (cs := #[.slice b8 y415.length b9, u405001]) ?_ 1 _ rfl; (with_reducible repeat (first | refine blk_drewN ?_ _ | refine blk_drew ?_ | refine blk_alloc ?_ _)); exact a1.out)⟩, ⟨z1f_0⟩⟩
     simp only [Option.some.injEq, Prod.mk.injEq] at H
     obtain ⟨rfl, rfl⟩ := H
     have m4 := d0.out
     have m5 := b3.out
     have m6 := d1.out
     have m7 := b4.out
     have d4 := cz20 a1.out
     have d5 := cz21 a1.out
     have d6 := blk_frozen a1.out 0
     have d7 := blk_frozen a1.out 1
     obtain ⟨e4, e5, i4⟩ := Kd.S_slice a3.out
     subst i4
     have m8 := e0.out
     have m9 := d9.out
     have d4 := cz20 a4.out
     have d5 := cz21 a4.out
     have d6 := blk_frozen a4.out 0
     have d7 := blk_frozen a4.out 1
     obtain ⟨g3, g4, i5⟩ := Kd.R_slice a0.out
     subst i5
     go_wp2
     refine bodyPost_ret (results_cell_row rfl _ _ b0 27 #[.slice e4 a6.length e5, .slice g3 a5.length g4] (0, 0) _ rfl (by (with_reducible repeat (first | refine blk_drewN ?_ _ | refine blk_drew ?_ | refine blk_alloc ?_ _)); refine blk_put (cs := #[.slice e4 a6.length e5, .slice none 0 0]) ?_ 1 _ rfl; (with_reducible repeat (first | refine blk_drewN ?_ _ | refine blk_drew ?_ | refine blk_alloc ?_ _)); refine blk_put (cs := #[.slice none 0 0, .slice none 0 0]) ?_ 0 _ rfl; (with_reducible repeat (first | refine blk_drewN ?_ _ | refine blk_drew ?_ | refine blk_alloc ?_ _)); exact a4.out) Try.underlying27 rfl (by kernel_rfl)) rfl ?_
     exact ⟨_, _, (by first | rfl | (simp [errW_none, errW_some] <;> rfl) | (simp [*, errW_none, errW_some] <;> rfl)), (by (with_reducible repeat (first | apply Kd.S_alloc | apply Kd.S_drewN | apply Kd.S_drew)); exact Kd.S_mono (Kd.S_far (p := ⟨b0, 1, none⟩) (Kd.S_far (p := ⟨b0, 0, none⟩) (Kd.S_types a3.out a4.out z1f_9) (fun _ hk => hk.2) (.slice e4 a6.length e5)) (fun _ hk => hk.2) (.slice g3 a5.length g4)) (fun _ hk => hk.1.2)), (by (with_reducible repeat (first | apply Kd.R_alloc | apply Kd.R_drewN | apply Kd.R_drew)); exact Kd.R_mono (Kd.R_far (p := ⟨b0, 1, none⟩) (Kd.R_far (p := ⟨b0, 0, none⟩) (Kd.R_types a0.out a4.out z1f_9) (fun _ hk => hk.2) (.slice e4 a6.length e5)) (fun _ hk => hk.2) (.slice g3 a5.length g4)) (fun _ hk => trivial)), z1f_0⟩

end Go.Proofs.Ytacifhahfamipaa.P

namespace Go.Proofs.Ytacifhahfamipaa.P
open Go.RowKit Go.Proofs.YtacifhahfamipaaW.PrintWords Go.Proofs.YtacifhahfamipaaW.PrintLast Go.Proofs.YtacifhahfamipaaW.PrintMore
attribute [local go_sem] max2_int min2_int max_two min_two max_three min_three max_four min_four
set_option linter.unusedVariables false
set_option linter.unusedSimpArgs false
def spec_Renamed.T22 : Bool × List (List Nat × List Nat) := (true, [([], []), ([], []), ([1], [1]), ([], []), ([], []), ([3, 4], [3, 4]), ([5], [5]), ([2, 6], [2, 6]), ([7], [7]), ([], []), ([], []), ([9, 10], [9, 10]), ([11], [11]), ([8, 12], [8, 12]), ([13], [13]), ([14], [14]), ([0, 15], [0, 15]), ([16, 16, 0, 1, 2, 3, 4, 5, 6, 7, 8, 9, 10, 11, 12, 13, 14, 15, 16], [0, 16])])
def spec_Renamed.B22 : List Nat := [0, 0, 2, 0, 0, 24, 56, 126, 254, 0, 0, 1536, 3584, 8190, 16382, 32766, 65535, 131071]
theorem spec_Renamed.tab22 : rtab .any (opsOf Try.f50 22) = spec_Renamed.T22 := by kernel_rfl
theorem spec_Renamed.bits22 : waitsOk spec_Renamed.T22.2 spec_Renamed.B22 = true := by kernel_rfl
def spec_Renamed.T24 : Bool × List (List Nat × List Nat) := (true, [([], []), ([0], [0]), ([], []), ([], []), ([3], [3]), ([], []), ([], []), ([5, 6], [5, 6]), ([7], [7]), ([4, 8], [4, 8]), ([9], [9]), ([2, 10], [2, 10]), ([11], [11]), ([12], [12]), ([1, 13], [1, 13]), ([0, 1, 2, 3, 4, 5, 6, 7, 8, 9, 10, 11, 12, 13, 14], []), ([15, 14, 14, 0, 1, 2, 3, 4, 5, 6, 7, 8, 9, 10, 11, 12, 13, 14], [14, 15])])
def spec_Renamed.B24 : List Nat := [0, 1, 0, 0, 8, 0, 0, 96, 224, 504, 1016, 2044, 4092, 8188, 16383, 32767, 65535]
theorem spec_Renamed.tab24 : rtab .any (opsOf Try.f50 24) = spec_Renamed.T24 := by kernel_rfl
theorem spec_Renamed.bits24 : waitsOk spec_Renamed.T24.2 spec_Renamed.B24 = true := by kernel_rfl
theorem z1t_16 {p : Prop} (h : p := by decide) : p := h
theorem z1t_15 {p : Prop} (h : p := by (with_reducible repeat (first | apply Kd.S_alloc | apply Kd.S_drewN | apply Kd.S_drew)); exact Kd.S_mono a4.out (fun _ hk => ⟨hk.1.1, ⟨hk.2, hk.1.2⟩⟩)) : p := h
theorem z1t_14 {p : Prop} (h : p := by first | rfl | (simp [errW_none, errW_some] <;> rfl) | (simp only [← hji47]; first | rfl | (simp [errW_none, errW_some] <;> rfl)) | (simp [*, errW_none, errW_some] <;> rfl)) : p := h
theorem z1t_13 {p : Prop} (h : p := by (with_reducible repeat (first | refine blk_drewN ?_ _ | refine blk_drew ?_ | refine blk_alloc ?_ _)); refine blk_far ?_ a9.out _; (with_reducible repeat (first | refine blk_drewN ?_ _ | refine blk_drew ?_ | refine blk_alloc ?_ _)); exact a1.out) : p := h
theorem z1t_12 {p : Prop} (h : p := by (with_reducible repeat (first | refine blk_drewN ?_ _ | refine blk_drew ?_ | refine blk_alloc ?_ _)); refine blk_far ?_ b1.out _; (with_reducible repeat (first | refine blk_drewN ?_ _ | refine blk_drew ?_ | refine blk_alloc ?_ _)); exact a2.out) : p := h
theorem z1t_11 {p : Prop} (h : p := by repeat (first | (with_reducible first | exact HB.out | apply below_alloc | apply pw_below_drewN | apply below_drew1) | exact HB.out)) : p := h
theorem z1t_10 {p : Prop} (h : p := by (with_reducible repeat (first | apply Kd.R_alloc | apply Kd.R_drewN | apply Kd.R_drew)); exact Kd.R_mono b5.out (fun _ hk => ⟨hk.2, hk.1⟩)) : p := h
theorem z1t_9 {p : Prop} (h : p := by repeat (first | (with_reducible first | exact HB.out | apply below_alloc | apply pw_below_drewN | apply below_drew1 | refine below_set ?_ e2.out) | exact HB.out)) : p := h
theorem z1t_8 {p : Prop} (h : p := by first | rfl | (simp; done) | (simp [*]; done)) : p := h
theorem z1t_7 {p : Prop} (h : p := by repeat (first | (with_reducible first | exact HB.out | apply below_alloc | apply pw_below_drewN | apply below_drew1 | refine below_set ?_ e2.out | refine below_set ?_ e4.out) | exact HB.out)) : p := h
theorem z1t_6 {p : Prop} (h : p := by (with_reducible repeat (first | refine blk_drewN ?_ _ | refine blk_drew ?_ | refine blk_alloc ?_ _)); refine blk_far ?_ a9.out _; (with_reducible repeat (first | refine blk_drewN ?_ _ | refine blk_drew ?_ | refine blk_alloc ?_ _)); refine blk_far ?_ a9.out _; (with_reducible repeat (first | refine blk_drewN ?_ _ | refine blk_drew ?_ | refine blk_alloc ?_ _)); exact a1.out) : p := h
theorem z1t_5 {p : Prop} (h : p := by (with_reducible repeat (first | refine blk_drewN ?_ _ | refine blk_drew ?_ | refine blk_alloc ?_ _)); refine blk_far ?_ b1.out _; (with_reducible repeat (first | refine blk_drewN ?_ _ | refine blk_drew ?_ | refine blk_alloc ?_ _)); refine blk_far ?_ b1.out _; (with_reducible repeat (first | refine blk_drewN ?_ _ | refine blk_drew ?_ | refine blk_alloc ?_ _)); exact a2.out) : p := h
theorem z1t_4 {p : Prop} (h : p := by first | exact Kd.R_nil _ _ _ _ _ | exact Kd.N_nil _ _ _ _ _ | exact Kd.V_nil _ _ _ _ _ | exact Kd.Q_nil _ _ _ _ _ | exact Kd.S_nil _ _ _ _ _) : p := h
theorem z1t_3 {p : Prop} (h : p := by first | exact Kd.S_nil _ _ _ _ _ | exact Kd.N_nil _ _ _ _ _ | exact Kd.V_nil _ _ _ _ _ | exact Kd.Q_nil _ _ _ _ _ | exact Kd.R_nil _ _ _ _ _) : p := h
theorem z1t_2 {p : Prop} (h : p := by (with_reducible repeat (first | refine blk_drewN ?_ _ | refine blk_drew ?_ | refine blk_alloc ?_ _)); refine blk_put (cs := #[.slice none 0 0, .slice none 0 0]) ?_ 1 _ rfl; (with_reducible repeat (first | refine blk_drewN ?_ _ | refine blk_drew ?_ | refine blk_alloc ?_ _)); refine blk_put (cs := #[.slice none 0 0, .slice none 0 0]) ?_ 0 _ rfl; (with_reducible repeat (first | refine blk_drewN ?_ _ | refine blk_drew ?_ | refine blk_alloc ?_ _)); exact a0.out) : p := h
theorem z1t_1 {p : Prop} (h : p := by (with_reducible repeat (first | refine blk_drewN ?_ _ | refine blk_drew ?_ | refine blk_alloc ?_ _)); refine blk_put (cs := #[.slice none 0 0, .slice none 0 0]) ?_ 1 _ rfl; (with_reducible repeat (first | refine blk_drewN ?_ _ | refine blk_drew ?_ | refine blk_alloc ?_ _)); refine blk_put (cs := #[.slice none 0 0, .slice none 0 0]) ?_ 0 _ rfl; (with_reducible repeat (first | refine blk_drewN ?_ _ | refine blk_drew ?_ | refine blk_alloc ?_ _)); exact a2.out) : p := h
theorem z1t_0 {p : Prop} (h : p := by repeat (first | (with_reducible first | exact HB.out | apply below_alloc | apply pw_below_drewN | apply below_drew1 | refine below_set ?_ e2.out | refine below_set ?_ e4.out | refine below_set ?_ h2.out) | exact HB.out)) : p := h
set_option maxHeartbeats 8000000 in
set_option maxRecDepth 100000 in
theorem spec_Renamed.calls (k : Nat) (A0_0 : Option Addr) (c0_0 : Nat) (l0_0 : List (List Int)) (A0_1 : Option Addr) (c0_1 : Nat) (l0_1 : List Int) (A1 : Option Addr) (c1 : Nat) (l1 : List Int) (r1 : List (List Int)) (r2 : List Int) (w : World) (hr0_0 : Kd.C (Kd.slice 3 (Kd.int .i64)) w A0_0 l0_0.length l0_0) (hc0_0 : l0_0.length ≤ c0_0) (hr0_1 : Kd.C (Kd.int .i64) w A0_1 l0_1.length l0_1) (hc0_1 : l0_1.length ≤ c0_1) (hr1 : Kd.C (Kd.int .i64) w A1 l1.length l1) (hc1 : l1.length ≤ c1) (h : spec_Renamed.f k l0_0 l0_1 l1 = some (r1, r2)) :
 Calls Try.prog 50 #[.agg #[.slice A0_0 l0_0.length c0_0, .slice A0_1 l0_1.length c0_1], .slice A1 l1.length c1] w fun e w' => ∃ v0_ v1_ : Value, e = .returned (.agg #[v0_, v1_]) ∧ Kd.S (Kd.slice 3 (Kd.int .i64)) 25 w' w.heap.size (fun k_ => some k_ ≠ (v1_ : Value).ownBlock) v0_ r1 ∧ Kd.R (Kd.int .i64) 3 w' w.heap.size (fun _ => True) v1_ r2 ∧ Below w.heap.size w w' := by
 have hu27 := Try.underlying27
 have HR0_0 := ak hr0_0
 have g7 := ak hc0_0
 clear hr0_0 hc0_0
 have HR0_1 := ak hr0_1
 have g8 := ak hc0_1
 clear hr0_1 hc0_1
 have HR1 := ak hr1
 have v6 := ak hc1
 clear hr1 hc1
 have HB := ak (Below.refl w.heap.size w)
 have H : ((spec_LogicOk.f k l0_0 l0_1).bind fun g9 => (if g9 = true then (spec_Renamed.j0 k l1 ((l1.length : Int) != (l0_1.length : Int)) l0_0 l0_1) else (spec_Renamed.j0 k l1 true l0_0 l0_1))) = some (r1, r2) := h
 clear h
 have j3 := ak H
 clear H
 go_enter Try.func50, Try.ntmps50
 go_upto_region 2 with (first | ((with_reducible refine gate_dst (N := 2) rfl ?_); (try (refine gate_guard (by rfl) ?_; dsimp only)); refine box_event ?hg (N := 2) ?hd (cs := #[.slice A0_0 l0_0.length c0_0, .slice A0_1 l0_1.length c0_1]) (t := 27) ?hr ?_; (case hd => rfl); (case hg => rfl); (case hr => first | (go_simp; done) | (go_simp; rfl)); intro a7 hg w4 hbox hb; have a1 := ak (hbox); have j4 := ak ((by rw [hg]; exact (below_size z1t_11) : w.heap.size ≤ a7)); have e2 := ak ((by rw [hg]; exact (below_size z1t_11) : w.heap.size ≤ a7)); replace HB := ak (below_step z1t_11 hb); clear hb hbox hg) | ((with_reducible refine gate_dst (N := 4) rfl ?_); (try (refine gate_guard (by rfl) ?_; dsimp only)); refine box_event ?hg (N := 4) ?hd (cs := #[.slice none 0 0, .slice none 0 0]) (t := 27) ?hr ?_; (case hd => rfl); (case hg => rfl); (case hr => first | (go_simp; done) | (go_simp; rfl)); intro a6 hg w5 hbox hb; have a2 := ak (hbox); have j5 := ak ((by rw [hg]; exact (below_size z1t_9) : w.heap.size ≤ a6)); have e4 := ak ((by rw [hg]; exact (below_size z1t_9) : w.heap.size ≤ a6)); replace HB := ak (below_step z1t_9 hb); have b7 := ak ((by rw [hg]; exact Nat.ne_of_lt (blk_lt (g := a7) (o := .cells #[.slice A0_0 l0_0.length c0_0, .slice A0_1 l0_1.length c0_1] 27 (0, 0)) (xb a1.out)) : a7 ≠ a6)); have b8 := ak ((by rw [hg]; exact Nat.ne_of_gt (blk_lt (g := a7) (o := .cells #[.slice A0_0 l0_0.length c0_0, .slice A0_1 l0_1.length c0_1] 27 (0, 0)) (xb a1.out)) : a6 ≠ a7)); replace a1 := ak (blk_below (g := a7) (o := .cells #[.slice A0_0 l0_0.length c0_0, .slice A0_1 l0_1.length c0_1] 27 (0, 0)) (xb a1.out) hb); clear hb hbox hg) | ((with_reducible refine gate_dst (N := 5) rfl ?_); (try (refine gate_guard (by rfl) ?_; dsimp only)); refine box_event ?hg (N := 5) ?hd (cs := #[.slice none 0 0, .slice none 0 0]) (t := 27) ?hr ?_; (case hd => rfl); (case hg => rfl); (case hr => first | (go_simp; done) | (go_simp; rfl)); intro a5 hg w6 hbox hb; have a0 := ak (hbox); have j6 := ak ((by rw [hg]; exact (below_size z1t_7) : w.heap.size ≤ a5)); have h2 := ak ((by rw [hg]; exact (below_size z1t_7) : w.heap.size ≤ a5)); replace HB := ak (below_step z1t_7 hb); have a9 := ak ((by rw [hg]; exact Nat.ne_of_lt (blk_lt (g := a7) (o := .cells #[.slice A0_0 l0_0.length c0_0, .slice A0_1 l0_1.length c0_1] 27 (0, 0)) (xb a1.out)) : a7 ≠ a5)); have b3 := ak ((by rw [hg]; exact Nat.ne_of_gt (blk_lt (g := a7) (o := .cells #[.slice A0_0 l0_0.length c0_0, .slice A0_1 l0_1.length c0_1] 27 (0, 0)) (xb a1.out)) : a5 ≠ a7)); replace a1 := ak (blk_below (g := a7) (o := .cells #[.slice A0_0 l0_0.length c0_0, .slice A0_1 l0_1.length c0_1] 27 (0, 0)) (xb a1.out) hb); have b1 := ak ((by rw [hg]; exact Nat.ne_of_lt (blk_lt (g := a6) (o := .cells #[.slice none 0 0, .slice none 0 0] 27 (0, 0)) (xb a2.out)) : a6 ≠ a5)); have b6 := ak ((by rw [hg]; exact Nat.ne_of_gt (blk_lt (g := a6) (o := .cells #[.slice none 0 0, .slice none 0 0] 27 (0, 0)) (xb a2.out)) : a5 ≠ a6)); replace a2 := ak (blk_below (g := a6) (o := .cells #[.slice none 0 0, .slice none 0 0] 27 (0, 0)) (xb a2.out) hb); clear hb hbox hg; have u7 := b3.out; have u8 := a9.out; have u9 := b6.out; have v0 := b1.out; have d1 := cz20 a0.out; have d2 := cz21 a0.out; have d3 := blk_frozen a0.out 0; have d4 := blk_frozen a0.out 1))
 (try simp only [Act.put, List.setIfInBounds_toArray, List.set_cons_zero, List.set_cons_succ])
 go_cut [23] (fun v1 wc => ∃ (kq : Nat) (e5 : Bool), v1 = .bool e5 ∧ Aside0 (spec_Renamed.j0 kq l1 e5 l0_0 l0_1 = some (r1, r2)) ∧ Aside0 (kq ≤ k) ∧ Aside0 (wc.heap[a7]? = some (.cells #[(.slice A0_0 l0_0.length c0_0), (.slice A0_1 l0_1.length c0_1)] 27 (0, 0))) ∧ Aside0 (wc.heap[a6]? = some (.cells #[(.slice none 0 0), (.slice none 0 0)] 27 (0, 0))) ∧ Aside0 (wc.heap[a5]? = some (.cells #[(.slice none 0 0), (.slice none 0 0)] 27 (0, 0))) ∧ Aside0 (Below w.heap.size w wc))
 case first =>
  have H := j3.out
  clear j3
  obtain ⟨g9, k9, H⟩ := bd_ H
  try dsimp only at H
  replace H := ox_ H
  rcases H with ⟨rfl, H⟩ | ⟨rfl, H⟩
  ·
   have H' := ak H
   clear H
   have l3 := b7.out
   have l4 := b8.out
   have l5 := a9.out
   have l6 := b3.out
   have d1 := cz20 a1.out
   have d2 := cz21 a1.out
   have d3 := blk_frozen a1.out 0
   have d4 := blk_frozen a1.out 1
   go_wp2_with (first | ((with_reducible refine gate_callee (f := 30) rfl ?_); refine gl_ (some 14) Try.func30 #[.agg #[.slice A0_0 l0_0.length c0_0, .slice A0_1 l0_1.length c0_1]] ?_; (with_reducible refine (spec_LogicOk.calls k _ _ l0_0 _ _ l0_1 true _ (by exact Kd.C_below HR0_0.out z1t_0) g7.out (by exact Kd.C_below HR0_1.out z1t_0) g8.out k9.out).mono ?_); rintro e w' ⟨rfl, hb⟩; refine ⟨_, rfl, ?_⟩; replace a1 := ak (blk_below (g := a7) (o := .cells #[.slice A0_0 l0_0.length c0_0, .slice A0_1 l0_1.length c0_1] 27 (0, 0)) z1t_6 hb); replace a2 := ak (blk_below (g := a6) (o := .cells #[.slice none 0 0, .slice none 0 0] 27 (0, 0)) z1t_5 hb); replace a0 := ak (blk_below (g := a5) (o := .cells #[.slice none 0 0, .slice none 0 0] 27 (0, 0)) z1t_2 hb); replace HB := ak (below_step z1t_0 hb); (try clear hb); (try clear hb2); (try clear hk); (try clear hi); have d1 := cz20 a1.out; have d2 := cz21 a1.out; have d3 := blk_frozen a1.out 0; have d4 := blk_frozen a1.out 1))
   go_meet
   case rel => exact ⟨_, (((l1.length : Int) != (l0_1.length : Int))), z1t_8, H', ⟨(by first | omega | exact Nat.le_refl _)⟩, ⟨(xb a1.out)⟩, ⟨(xb a2.out)⟩, ⟨(xb a0.out)⟩, ⟨z1t_0⟩⟩
  have H' := ak H
  clear H
  have l7 := b7.out
  have l8 := b8.out
  have l9 := a9.out
  have m0 := b3.out
  have d1 := cz20 a1.out
  have d2 := cz21 a1.out
  have d3 := blk_frozen a1.out 0
  have d4 := blk_frozen a1.out 1
  go_wp2_with (first | ((with_reducible refine gate_callee (f := 30) rfl ?_); refine gl_ (some 14) Try.func30 #[.agg #[.slice A0_0 l0_0.length c0_0, .slice A0_1 l0_1.length c0_1]] ?_; (with_reducible refine (spec_LogicOk.calls k _ _ l0_0 _ _ l0_1 false _ (by exact Kd.C_below HR0_0.out z1t_0) g7.out (by exact Kd.C_below HR0_1.out z1t_0) g8.out k9.out).mono ?_); rintro e w' ⟨rfl, hb⟩; refine ⟨_, rfl, ?_⟩; replace a1 := ak (blk_below (g := a7) (o := .cells #[.slice A0_0 l0_0.length c0_0, .slice A0_1 l0_1.length c0_1] 27 (0, 0)) z1t_6 hb); replace a2 := ak (blk_below (g := a6) (o := .cells #[.slice none 0 0, .slice none 0 0] 27 (0, 0)) z1t_5 hb); replace a0 := ak (blk_below (g := a5) (o := .cells #[.slice none 0 0, .slice none 0 0] 27 (0, 0)) z1t_2 hb); replace HB := ak (below_step z1t_0 hb); (try clear hb); (try clear hb2); (try clear hk); (try clear hi)))
  go_meet
  case rel => exact ⟨_, (true), z1t_8, H', ⟨(by first | omega | exact Nat.le_refl _)⟩, ⟨(xb a1.out)⟩, ⟨(xb a2.out)⟩, ⟨(xb a0.out)⟩, ⟨z1t_0⟩⟩
 case rest =>
  clear j3
  try clear c1
  try clear d1
  try clear d2
  try clear d3
  try clear d4
  obtain ⟨kq, e5, rfl, HA, h8, a1, a2, a0, HB⟩ := hcut
  cases kq with
  | zero => exact absurd HA.out (by simp [spec_Renamed.j0])
  | succ j7 =>
   have H := HA.out
   clear HA
   simp only [spec_Renamed.j0] at H
   replace H := ox_ H
   rcases H with ⟨rfl, H⟩ | ⟨rfl, H⟩
   ·
    simp only [Option.some.injEq, Prod.mk.injEq] at H
    obtain ⟨rfl, rfl⟩ := H
    have m1 := b3.out
    have m2 := a9.out
    have m3 := b6.out
    have m4 := b1.out
    have d1 := cz20 a0.out
    have d2 := cz21 a0.out
    have d3 := blk_frozen a0.out 0
    have d4 := blk_frozen a0.out 1
    have m5 := b8.out
    have m6 := b7.out
    have d1 := cz20 a2.out
    have d2 := cz21 a2.out
    have d3 := blk_frozen a2.out 0
    have d4 := blk_frozen a2.out 1
    go_wp2
    refine bodyPost_ret (results_cell_row rfl _ _ a6 27 #[.slice none 0 0, .slice none 0 0] (0, 0) _ rfl z1t_1 Try.underlying27 rfl (by kernel_rfl)) rfl ?_
    exact ⟨_, _, (by first | rfl | (simp [errW_none, errW_some] <;> rfl) | (simp [*, errW_none, errW_some] <;> rfl)), z1t_3, z1t_4, z1t_0⟩
   replace H := ok_ H
   obtain ⟨h9, H⟩ := H
   have e6 := eq_true h9
   have e7 : decide (0 ≤ (l1.length : Int)) = true := dT_ h9
   clear h9
   replace H := ok_ H
   obtain ⟨i0, H⟩ := H
   have e8 := eq_true i0
   have e9 : decide (((l1.length : Int) : Int).toNat ≤ 35184372088832) = true := dT_ i0
   clear i0
   obtain ⟨y1064, hy1064⟩ : ∃ y_ : List Int, y_ = (List.replicate ((l1.length : Int) : Int).toNat 0) := ⟨_, rfl⟩
   replace H : (spec_Renamed.l0 j7 l1 y1064 0 0 l0_0 l0_1) = some (r1, r2) := by first | (rw [hy1064]; with_reducible exact H) | (have H2_ := (Option.bind_some _ _).symm.trans H; rw [hy1064]; with_reducible exact H2_) | (have H2_ := (Option.bind_some _ _).symm.trans H; with_reducible exact H2_) | with_reducible exact H | (rw [hy1064]; exact H) | exact H
   have Ny1064 := ak hy1064
   clear hy1064
   have H' := ak H
   clear H
   go_wp2_with (first | ((with_reducible refine gate_dst (N := 27) rfl ?_); (try (refine gate_guard (by rfl) ?_; dsimp only)); refine Kd.R_make (Kd.int .i64) _ 3 rfl (N := 27) rfl 25 _ _ rfl (l1.length : Int) rfl rfl Try.underlying25 (.int .i64 0) 8 info3 rfl z1t_16 (by omega) 0 (ok := fun _ => True) (okp := fun _ => True) rfl (fun _ hk => hk) trivial (oa_) (Nat.le_trans (Nat.mul_le_mul_right _ (oa_ : (l1.length : Int).toNat ≤ 35184372088832)) (by omega)) (Below.refl _ _) (Nat.le_refl _) ?_; intro b9 x0 ho30 hb hg_ hnew_; clear hg_ hnew_; (first | rw [← Ny1064.out] at ho30 | (simp only [Int.reduceToNat] at ho30; rw [← Ny1064.out] at ho30)); have h3 := ak (Kd.R_lower ho30 (below_size z1t_0)); replace a1 := ak (blk_below (g := a7) (o := .cells #[.slice A0_0 l0_0.length c0_0, .slice A0_1 l0_1.length c0_1] 27 (0, 0)) (xb a1.out) hb); replace a2 := ak (blk_below (g := a6) (o := .cells #[.slice none 0 0, .slice none 0 0] 27 (0, 0)) (xb a2.out) hb); replace a0 := ak (blk_below (g := a5) (o := .cells #[.slice none 0 0, .slice none 0 0] 27 (0, 0)) (xb a0.out) hb); replace HB := ak (below_step z1t_0 hb); clear hb ho30))
   go_loopg [7, 8] j7 (fun kq v7 v8 w' => ∃ (d5 : List Int) (e3 : Int) (b4 : Int), v7 = .int .i64 e3 ∧ v8 = .int .i64 b4 ∧ Aside0 (spec_Renamed.l0 kq l1 d5 e3 b4 l0_0 l0_1 = some (r1, r2)) ∧ Aside0 (kq ≤ j7) ∧ Aside0 (Kd.R (Kd.int .i64) 3 w' w.heap.size (fun _ => True) b9 d5) ∧ Aside0 (w'.heap[a7]? = some (.cells #[(.slice A0_0 l0_0.length c0_0), (.slice A0_1 l0_1.length c0_1)] 27 (0, 0))) ∧ Aside0 (w'.heap[a6]? = some (.cells #[(.slice none 0 0), (.slice none 0 0)] 27 (0, 0))) ∧ Aside0 (w'.heap[a5]? = some (.cells #[(.slice none 0 0), (.slice none 0 0)] 27 (0, 0))) ∧ Aside0 (Below w.heap.size w w'))
   case atStart => exact ⟨(y1064), (0), (0), z1t_8, z1t_8, H', ⟨Nat.le_refl _⟩, ⟨(xR h3.out)⟩, ⟨(xb a1.out)⟩, ⟨(xb a2.out)⟩, ⟨(xb a0.out)⟩, ⟨z1t_0⟩⟩
   case round =>
    clear H'
    try clear c1
    try clear m7
    try clear h9
    try clear e6
    try clear e7
    try clear i0
    try clear e8
    try clear e9
    try clear d1
    try clear d2
    try clear d3
    try clear d4
    obtain ⟨d5, e3, b4, rfl, rfl, HA, HK2, b5, a1, a2, a0, HB⟩ := hrel
    cases gk with
    | zero => exact absurd HA.out (by simp [spec_Renamed.l0])
    | succ k2 =>
     have H := HA.out
     clear HA
     simp only [spec_Renamed.l0] at H
     replace H := os_ H
     rcases H with ⟨f0, H⟩ | ⟨f0, H⟩
     ·
      replace H := od_ H
      obtain ⟨m8, H⟩ := H
      obtain ⟨m9, j8, H⟩ := bd_ H
      try dsimp only at H
      replace H := ox_ H
      rcases H with ⟨rfl, H⟩ | ⟨rfl, H⟩
      ·
       replace H := od2 H
       obtain ⟨n0, n1, H⟩ := H
       obtain ⟨y1070, hy1070⟩ : ∃ y_ : List Int, y_ = (d5.set ((rd l1 b4) : Int).toNat b4) := ⟨_, rfl⟩
       replace H : (spec_Renamed.l0 k2 l1 y1070 (Go.bits .or .i64 e3 (shl .i64 1 (rd l1 b4))) (wrap64 (b4 + 1)) l0_0 l0_1) = some (r1, r2) := by first | (rw [hy1070]; with_reducible exact H) | (have H2_ := (Option.bind_some _ _).symm.trans H; rw [hy1070]; with_reducible exact H2_) | (have H2_ := (Option.bind_some _ _).symm.trans H; with_reducible exact H2_) | with_reducible exact H | (rw [hy1070]; exact H) | exact H
       have Ny1070 := ak hy1070
       clear hy1070
       have n2 := eq_true (oa_ : 0 ≤ (rd l1 b4))
       obtain ⟨ji39, hji39⟩ : ∃ j_ : Int, (shl .i64 1 (rd l1 b4)) = j_ := ⟨_, rfl⟩
       replace H : (spec_Renamed.l0 k2 l1 y1070 (Go.bits .or .i64 e3 (ji39)) (wrap64 (b4 + 1)) l0_0 l0_1) = some (r1, r2) := by first | (rw [hji39] at H; exact H) | (simp only [hji39] at H ⊢; exact H)
       (try rw [hji39] at j8)
       have hji39_ : (IntKind.i64.wrap (1 * 2 ^ min (rd l1 b4).toNat 64)) = ji39 := hji39
       have hji39z : (rd l1 b4) ≤ 64 → (IntKind.i64.wrap (1 * 2 ^ (rd l1 b4).toNat)) = ji39 := shl_small hji39
       have hji39u : (IntKind.i64.wrap (2 ^ min (rd l1 b4).toNat 64)) = ji39 := by have h_ := hji39_; rw [Int.one_mul] at h_; exact h_
       have hji39v : (rd l1 b4) ≤ 64 → (IntKind.i64.wrap (2 ^ (rd l1 b4).toNat)) = ji39 := fun hle_ => by have h_ := hji39z hle_; rw [Int.one_mul] at h_; exact h_
       have hji39y : (wrap64 (1 * 2 ^ min (rd l1 b4).toNat 64)) = ji39 := (i64_w _).symm.trans hji39_
       have hji39x : (rd l1 b4) ≤ 64 → (wrap64 (1 * 2 ^ (rd l1 b4).toNat)) = ji39 := fun h_ => (i64_w _).symm.trans (hji39z h_)
       have H' := ak H
       clear H
       have e1 : 0 ≤ (b4 : Int) := oa_
       have q1067 : b4 < (l1.length : Int) := oa_
       obtain ⟨ad1067, e1067, hx1067_0⟩ := Kd.at_int HR1.out b4 e1 q1067
       cases e1067
       replace hx1067_0 := (HB.out.cell (World.block_lt_of_cell? w _ hx1067_0)).trans hx1067_0
       replace e1 := eq_true e1
       replace q1067 := eq_true q1067
       go_wp2_with (first | ((with_reducible refine gate_callee (f := 72) rfl ?_); refine gl_ (some 41) Try.func72 #[.int .i64 (rd l1 b4), .int .i64 0, .int .i64 (wrap64 ((l1.length : Int) - 1))] ?_; (with_reducible refine (spec_l1In.calls (rd l1 b4) 0 (wrap64 ((l1.length : Int) - 1)) true _ j8.out).mono ?_); rintro e w' ⟨rfl, ⟨nd, rfl⟩⟩; refine ⟨_, rfl, ?_⟩; (try (rw [drewN_self wr]; generalize hq_ : World.drewN wr _ = wr; have n0_ : Aside0 (Kd.R (Kd.int .i64) 3 wr w.heap.size (fun _ => True) b9 d5) := ⟨(by rw [← hq_]; exact (xR b5.out))⟩; have n1_ : Aside0 (wr.heap[a7]? = some (.cells #[.slice A0_0 l0_0.length c0_0, .slice A0_1 l0_1.length c0_1] 27 (0, 0))) := ⟨(by rw [← hq_]; exact (xb a1.out))⟩; have n2_ : Aside0 (wr.heap[a6]? = some (.cells #[.slice none 0 0, .slice none 0 0] 27 (0, 0))) := ⟨(by rw [← hq_]; exact (xb a2.out))⟩; have n3_ : Aside0 (wr.heap[a5]? = some (.cells #[.slice none 0 0, .slice none 0 0] 27 (0, 0))) := ⟨(by rw [← hq_]; exact (xb a0.out))⟩; have n4_ : Aside0 (Below w.heap.size w wr) := ⟨(by rw [← hq_]; exact z1t_0)⟩; clear b5 a1 a2 a0 HB hq_; have b5 := n0_; have a1 := n1_; have a2 := n2_; have a0 := n3_; have HB := n4_; clear n0_ n1_ n2_ n3_ n4_)); have f1 : 0 ≤ (b4 : Int) := oa_; have q1069 : b4 < (l1.length : Int) := oa_; obtain ⟨ad1069, e1069, hx1069_0⟩ := Kd.at_int HR1.out b4 f1 q1069; obtain rfl : ad1067 = ad1069 := (by injection e1069); replace hx1069_0 := (HB.out.cell (World.block_lt_of_cell? w _ hx1069_0)).trans hx1069_0; replace f1 := eq_true f1; replace q1069 := eq_true q1069; have j9 : 0 ≤ ((rd l1 b4) : Int) := oa_; have q37 : ((rd l1 b4) : Int) < ((d5.length : Int) : Int) := oa_; obtain ⟨go37, k0, i1, i2, gl37, cl37, HG37⟩ := Kd.R_form b5.out (by omega); (first | cases i1 | (injection i1 with ea_ en_ ec_; (first | subst ea_ | (injection ea_ with ea_; subst ea_)); subst ec_; clear en_)); have GB37 := ak i2; have GG37 := ak HG37; clear i2 gl37 HG37; obtain ⟨hx37_0, hf37_0⟩ := Kd.R_celln 0 b5.out ((rd l1 b4) : Int) j9 q37; replace j9 := eq_true j9; replace q37 := eq_true q37; obtain ⟨hy40_, hz40_⟩ := Kd.R_celln 0 b5.out ((rd l1 b4) : Int) (oa_) (oa_); have HP40 := Kd.R_putg b5.out ((rd l1 b4) : Int) b4) | ((with_reducible refine gate_store (t := 3) (p := 50) rfl ?_); refine store_event (t := 3) (p := 50) (v := ?vo_w41) (w1 := (wr.setCell ⟨go37, ((rd l1 b4) : Int).toNat, none⟩ (.int .i64 b4))) ?hg ?ho ?hn ?hr ?_; (case ho => rfl); (case hg => rfl); (case hn => rfl); (case hr => first | (go_simp; done) | (go_simp; rfl)); intro k1 hw; have hg : wr.grownBy k1 (some go37) := (by rw [hw]; exact HP40.2); have hp_ : Kd.R (Kd.int .i64) 3 k1 w.heap.size (fun _ => True) (.slice (some ⟨go37, 0, none⟩) d5.length k0) y1070 := (by rw [hw, Ny1070.out]; exact HP40.1); clear HP40; replace a1 := ak (blk_grown (g := a7) (o := .cells #[.slice A0_0 l0_0.length c0_0, .slice A0_1 l0_1.length c0_1] 27 (0, 0)) (xb a1.out) hg (Kd.R_ne b5.out a1.out z1t_16)); replace a2 := ak (blk_grown (g := a6) (o := .cells #[.slice none 0 0, .slice none 0 0] 27 (0, 0)) (xb a2.out) hg (Kd.R_ne b5.out a2.out z1t_16)); replace a0 := ak (blk_grown (g := a5) (o := .cells #[.slice none 0 0, .slice none 0 0] 27 (0, 0)) (xb a0.out) hg (Kd.R_ne b5.out a0.out z1t_16)); replace b5 := ak (hp_); replace HB := ak ((by rw [hw]; exact below_set (HB.out) GB37.out : Below w.heap.size w k1)); clear hg hw hp_; have f2 : 0 ≤ (b4 : Int) := oa_; have q1071 : b4 < (l1.length : Int) := oa_; obtain ⟨ad1071, e1071, hx1071_0⟩ := Kd.at_int HR1.out b4 f2 q1071; obtain rfl : ad1067 = ad1071 := (by injection e1071); replace hx1071_0 := (HB.out.cell (World.block_lt_of_cell? w _ hx1071_0)).trans hx1071_0; replace f2 := eq_true f2; replace q1071 := eq_true q1071))
       go_roundg k2
       case measure => have := h8.out; have := HK2.out; omega
       case rel => exact ⟨(y1070), (Go.bits .or .i64 e3 (ji39)), (wrap64 (b4 + 1)), (by first | rfl | (simp; done) | (simp only [← hji39] <;> (first | rfl | simp)) | (simp [*]; done)), z1t_8, H', ⟨(by have := h8.out; have := HK2.out; omega)⟩, ⟨(xR b5.out)⟩, ⟨(xb a1.out)⟩, ⟨(xb a2.out)⟩, ⟨(xb a0.out)⟩, ⟨z1t_0⟩⟩
      simp only [Option.some.injEq, Prod.mk.injEq] at H
      obtain ⟨rfl, rfl⟩ := H
      have e1 : 0 ≤ (b4 : Int) := oa_
      have q1067 : b4 < (l1.length : Int) := oa_
      obtain ⟨ad1067, e1067, hx1067_0⟩ := Kd.at_int HR1.out b4 e1 q1067
      cases e1067
      replace hx1067_0 := (HB.out.cell (World.block_lt_of_cell? w _ hx1067_0)).trans hx1067_0
      replace e1 := eq_true e1
      replace q1067 := eq_true q1067
      go_wp2_with (first | ((with_reducible refine gate_callee (f := 72) rfl ?_); refine gl_ (some 41) Try.func72 #[.int .i64 (rd l1 b4), .int .i64 0, .int .i64 (wrap64 ((l1.length : Int) - 1))] ?_; (with_reducible refine (spec_l1In.calls (rd l1 b4) 0 (wrap64 ((l1.length : Int) - 1)) false _ j8.out).mono ?_); rintro e w' ⟨rfl, ⟨nd, rfl⟩⟩; refine ⟨_, rfl, ?_⟩; (try (rw [drewN_self wr]; generalize hq_ : World.drewN wr _ = wr; have n0_ : Aside0 (Kd.R (Kd.int .i64) 3 wr w.heap.size (fun _ => True) b9 d5) := ⟨(by rw [← hq_]; exact (xR b5.out))⟩; have n1_ : Aside0 (wr.heap[a7]? = some (.cells #[.slice A0_0 l0_0.length c0_0, .slice A0_1 l0_1.length c0_1] 27 (0, 0))) := ⟨(by rw [← hq_]; exact (xb a1.out))⟩; have n2_ : Aside0 (wr.heap[a6]? = some (.cells #[.slice none 0 0, .slice none 0 0] 27 (0, 0))) := ⟨(by rw [← hq_]; exact (xb a2.out))⟩; have n3_ : Aside0 (wr.heap[a5]? = some (.cells #[.slice none 0 0, .slice none 0 0] 27 (0, 0))) := ⟨(by rw [← hq_]; exact (xb a0.out))⟩; have n4_ : Aside0 (Below w.heap.size w wr) := ⟨(by rw [← hq_]; exact z1t_0)⟩; clear b5 a1 a2 a0 HB hq_; have b5 := n0_; have a1 := n1_; have a2 := n2_; have a0 := n3_; have HB := n4_; clear n0_ n1_ n2_ n3_ n4_)); have n3 := b3.out; have n4 := a9.out; have n5 := b6.out; have n6 := b1.out; have d1 := cz20 a0.out; have d2 := cz21 a0.out; have d3 := blk_frozen a0.out 0; have d4 := blk_frozen a0.out 1; have n7 := b8.out; have n8 := b7.out; have d1 := cz20 a2.out; have d2 := cz21 a2.out; have d3 := blk_frozen a2.out 0; have d4 := blk_frozen a2.out 1))
      refine bodyPost_ret (results_cell_row rfl _ _ a6 27 #[.slice none 0 0, .slice none 0 0] (0, 0) _ rfl z1t_1 Try.underlying27 rfl (by kernel_rfl)) rfl ?_
      exact ⟨_, _, (by first | rfl | (simp [errW_none, errW_some] <;> rfl) | (simp [*, errW_none, errW_some] <;> rfl)), z1t_3, z1t_4, z1t_0⟩
     obtain ⟨ji47, hji47⟩ : ∃ j_ : Int, (shl .i64 1 (l1.length : Int)) = j_ := ⟨_, rfl⟩
     replace H : (if e3 = (wrap64 ((ji47) - 1)) then (spec_Renamed.l1 k2 l1 d5 0 l0_0 l0_1 ([] : List (List Int)) ([] : List Int)) else (some (([] : List (List Int)), ([] : List Int)))) = some (r1, r2) := by first | (rw [hji47] at H; exact H) | (simp only [hji47] at H ⊢; exact H)
     have hji47_ : (IntKind.i64.wrap (1 * 2 ^ min (l1.length : Int).toNat 64)) = ji47 := hji47
     have hji47z : (l1.length : Int) ≤ 64 → (IntKind.i64.wrap (1 * 2 ^ (l1.length : Int).toNat)) = ji47 := shl_small hji47
     have hji47p : (IntKind.i64.wrap (1 * 2 ^ min l1.length 64)) = ji47 := hji47_
     have hji47q : (l1.length : Int) ≤ 64 → (IntKind.i64.wrap (1 * 2 ^ l1.length)) = ji47 := hji47z
     have hji47r : (IntKind.i64.wrap (2 ^ min l1.length 64)) = ji47 := by have h_ := hji47p; rw [Int.one_mul] at h_; exact h_
     have hji47s : (l1.length : Int) ≤ 64 → (IntKind.i64.wrap (2 ^ l1.length)) = ji47 := fun hle_ => by have h_ := hji47q hle_; rw [Int.one_mul] at h_; exact h_
     have hji47u : (IntKind.i64.wrap (2 ^ min (l1.length : Int).toNat 64)) = ji47 := by have h_ := hji47_; rw [Int.one_mul] at h_; exact h_
     have hji47v : (l1.length : Int) ≤ 64 → (IntKind.i64.wrap (2 ^ (l1.length : Int).toNat)) = ji47 := fun hle_ => by have h_ := hji47z hle_; rw [Int.one_mul] at h_; exact h_
     have hji47y : (wrap64 (1 * 2 ^ min (l1.length : Int).toNat 64)) = ji47 := (i64_w _).symm.trans hji47_
     have hji47x : (l1.length : Int) ≤ 64 → (wrap64 (1 * 2 ^ (l1.length : Int).toNat)) = ji47 := fun h_ => (i64_w _).symm.trans (hji47z h_)
     replace H := oe2 H
     rcases H with ⟨⟨-, f3, f4⟩, H⟩ | ⟨⟨n9, f3, f4⟩, H⟩
     ·
      have H' := ak H
      clear H
      go_wp2
      go_loopg [9] k2 (fun kq v9 w' => ∃ (b2 : Int) (b0 : List (List Int)) (a8 : List Int) (u1063000 : Value) (u1063001 : Value), v9 = .int .i64 b2 ∧ Aside0 (spec_Renamed.l1 kq l1 d5 b2 l0_0 l0_1 b0 a8 = some (r1, r2)) ∧ Aside0 (kq ≤ k2) ∧ Aside0 (Kd.R (Kd.int .i64) 3 w' w.heap.size (fun k_ => some k_ ≠ (u1063001 : Value).ownBlock) b9 d5) ∧ Aside0 (Kd.S (Kd.slice 3 (Kd.int .i64)) 25 w' w.heap.size (fun k_ => some k_ ≠ (b9 : Value).ownBlock ∧ some k_ ≠ (u1063001 : Value).ownBlock) u1063000 b0) ∧ Aside0 (Kd.R (Kd.int .i64) 3 w' w.heap.size (fun k_ => some k_ ≠ (b9 : Value).ownBlock) u1063001 a8) ∧ Aside0 (w'.heap[a7]? = some (.cells #[(.slice A0_0 l0_0.length c0_0), (.slice A0_1 l0_1.length c0_1)] 27 (0, 0))) ∧ Aside0 (w'.heap[a6]? = some (.cells #[(.slice none 0 0), (.slice none 0 0)] 27 (0, 0))) ∧ Aside0 (w'.heap[a5]? = some (.cells #[u1063000, u1063001] 27 (0, 0))) ∧ Aside0 (Below w.heap.size w w'))
      case atStart => exact ⟨(0), (([] : List (List Int))), (([] : List Int)), (.slice none 0 0), (.slice none 0 0), z1t_8, H', ⟨Nat.le_refl _⟩, ⟨(by (with_reducible repeat (first | apply Kd.R_alloc | apply Kd.R_drewN | apply Kd.R_drew)); exact Kd.R_mono b5.out (fun _ hk => (by simp [Value.ownBlock])))⟩, ⟨z1t_3⟩, ⟨z1t_4⟩, ⟨(xb a1.out)⟩, ⟨(xb a2.out)⟩, ⟨(xb a0.out)⟩, ⟨z1t_0⟩⟩
      case round =>
       clear H'
       try clear c1
       try clear m7
       try clear h9
       try clear e6
       try clear e7
       try clear i0
       try clear e8
       try clear e9
       try clear v2
       try clear f0
       try clear n9
       try clear f3
       try clear f4
       try clear d1
       try clear d2
       try clear d3
       try clear d4
       obtain ⟨b2, b0, a8, u1063000, u1063001, rfl, HA, HK3, b5, a4, a3, a1, a2, a0, HB⟩ := hrel
       cases gk with
       | zero => exact absurd HA.out (by simp [spec_Renamed.l1])
       | succ k3 =>
        have H := HA.out
        clear HA
        simp only [spec_Renamed.l1] at H
        replace H := os_ H
        rcases H with ⟨h0, H⟩ | ⟨h0, H⟩
        ·
         obtain ⟨y1072, hy1072⟩ : ∃ y_ : List Int, y_ = (([] : List Int)) := ⟨_, rfl⟩
         replace H : (spec_Renamed.l2 k3 l1 d5 b2 y1072 0 l0_0 l0_1 b0 a8) = some (r1, r2) := by first | (rw [hy1072]; with_reducible exact H) | (have H2_ := (Option.bind_some _ _).symm.trans H; rw [hy1072]; with_reducible exact H2_) | (have H2_ := (Option.bind_some _ _).symm.trans H; with_reducible exact H2_) | with_reducible exact H | (rw [hy1072]; exact H) | exact H
         have Ny1072 := ak hy1072
         clear hy1072
         have H' := ak H
         clear H
         go_wp2_with (first | ((with_reducible refine gate_dst (N := 71) rfl ?_); (try (refine gate_guard (by rfl) ?_; dsimp only)); refine Kd.R_lit (Kd.int .i64) _ 3 ?hg (N := 71) ?hd (xs := ([] : List Int)) (inner := []) (ok := fun _ => True) (okp := fun _ => True) ?hr ?hp (fun _ hk => hk) trivial (Below.refl _ _) (Nat.le_refl _) (by simp) ?_; (case hd => rfl); (case hg => rfl); (case hr => first | (go_simp; done) | (go_simp; rfl)); (case hp => exact (Reps.none _ _)); intro o0 x1 ho51 hb hg_ hnew_; clear hg_ hnew_; (first | rw [← Ny1072.out] at ho51 | (simp only [Int.reduceToNat] at ho51; rw [← Ny1072.out] at ho51)); replace a4 := ak (Kd.S_elder' (xS a4.out) (Kd.R_base ho51) hb); have h4 := ak (Kd.R_lower (Kd.R_new' (Kd.R_new' ho51 (Kd.R_lt (xR b5.out))) (Kd.R_lt (xR a3.out))) (below_size z1t_0)); replace b5 := ak (Kd.R_elder' (xR b5.out) (Kd.R_base ho51) hb); replace a3 := ak (Kd.R_elder' (xR a3.out) (Kd.R_base ho51) hb); replace a1 := ak (blk_below (g := a7) (o := .cells #[.slice A0_0 l0_0.length c0_0, .slice A0_1 l0_1.length c0_1] 27 (0, 0)) (xb a1.out) hb); replace a2 := ak (blk_below (g := a6) (o := .cells #[.slice none 0 0, .slice none 0 0] 27 (0, 0)) (xb a2.out) hb); replace a0 := ak (blk_below (g := a5) (o := .cells #[u1063000, u1063001] 27 (0, 0)) (xb a0.out) hb); replace HB := ak (below_step z1t_0 hb); clear hb ho51))
         go_loopg [10, 11] k3 (fun kq j1 v3 w' => ∃ (e0 : List Int) (d0 : Int), v3 = .int .i64 d0 ∧ Aside0 (spec_Renamed.l2 kq l1 d5 b2 e0 d0 l0_0 l0_1 b0 a8 = some (r1, r2)) ∧ Aside0 (kq ≤ k3) ∧ Aside0 (Kd.R (Kd.int .i64) 3 w' w.heap.size (fun k_ => some k_ ≠ (j1 : Value).ownBlock ∧ some k_ ≠ (u1063001 : Value).ownBlock) b9 d5) ∧ Aside0 (Kd.R (Kd.int .i64) 3 w' w.heap.size (fun k_ => some k_ ≠ (b9 : Value).ownBlock ∧ some k_ ≠ (u1063001 : Value).ownBlock) j1 e0) ∧ Aside0 (Kd.S (Kd.slice 3 (Kd.int .i64)) 25 w' w.heap.size (fun k_ => some k_ ≠ (b9 : Value).ownBlock ∧ some k_ ≠ (j1 : Value).ownBlock ∧ some k_ ≠ (u1063001 : Value).ownBlock) u1063000 b0) ∧ Aside0 (Kd.R (Kd.int .i64) 3 w' w.heap.size (fun k_ => some k_ ≠ (b9 : Value).ownBlock ∧ some k_ ≠ (j1 : Value).ownBlock) u1063001 a8) ∧ Aside0 (w'.heap[a7]? = some (.cells #[(.slice A0_0 l0_0.length c0_0), (.slice A0_1 l0_1.length c0_1)] 27 (0, 0))) ∧ Aside0 (w'.heap[a6]? = some (.cells #[(.slice none 0 0), (.slice none 0 0)] 27 (0, 0))) ∧ Aside0 (w'.heap[a5]? = some (.cells #[u1063000, u1063001] 27 (0, 0))) ∧ Aside0 (Below w.heap.size w w'))
         case atStart => exact ⟨(y1072), (0), z1t_8, H', ⟨Nat.le_refl _⟩, ⟨z1t_10⟩, ⟨(by (with_reducible repeat (first | apply Kd.R_alloc | apply Kd.R_drewN | apply Kd.R_drew)); exact Kd.R_mono h4.out (fun _ hk => ⟨hk.1.2, hk.2⟩))⟩, ⟨z1t_15⟩, ⟨(xR a3.out)⟩, ⟨(xb a1.out)⟩, ⟨(xb a2.out)⟩, ⟨(xb a0.out)⟩, ⟨z1t_0⟩⟩
         case round =>
          clear H'
          try clear c1
          try clear m7
          try clear h9
          try clear e6
          try clear e7
          try clear i0
          try clear e8
          try clear e9
          try clear v2
          try clear f0
          try clear n9
          try clear f3
          try clear f4
          try clear x2
          try clear h0
          try clear d1
          try clear d2
          try clear d3
          try clear d4
          obtain ⟨e0, d0, rfl, HA, HK4, b5, d7, a4, a3, a1, a2, a0, HB⟩ := hrel
          cases gk with
          | zero => exact absurd HA.out (by simp [spec_Renamed.l2])
          | succ k4 =>
           have H := HA.out
           clear HA
           simp only [spec_Renamed.l2] at H
           replace H := os_ H
           rcases H with ⟨i3, H⟩ | ⟨i3, H⟩
           ·
            replace H := od6 H
            obtain ⟨o1, o2, o3, o4, o5, o6, H⟩ := H
            replace H := od_ H
            obtain ⟨o7, H⟩ := H
            replace H := ok_ H
            obtain ⟨o8, H⟩ := H
            have LMc60 := ak o8
            clear o8
            obtain ⟨y1079, hy1079⟩ : ∃ y_ : List Int, y_ = (e0 ++ [rd (rd_L1 l0_0 (rd l1 b2)) (rd l1 d0)]) := ⟨_, rfl⟩
            replace H : (spec_Renamed.l2 k4 l1 d5 b2 y1079 (wrap64 (d0 + 1)) l0_0 l0_1 b0 a8) = some (r1, r2) := by first | (rw [hy1079]; with_reducible exact H) | (have H2_ := (Option.bind_some _ _).symm.trans H; rw [hy1079]; with_reducible exact H2_) | (have H2_ := (Option.bind_some _ _).symm.trans H; with_reducible exact H2_) | with_reducible exact H | (rw [hy1079]; exact H) | exact H
            have Ny1079 := ak hy1079
            clear hy1079
            have H' := ak H
            clear H
            try go_wp2
            replace b5 := ak (Kd.R_drew b5.out)
            replace d7 := ak (Kd.R_drew d7.out)
            replace a4 := ak (Kd.S_drew a4.out)
            replace a3 := ak (Kd.R_drew a3.out)
            replace a1 := ak (blk_drew a1.out)
            replace a2 := ak (blk_drew a2.out)
            replace a0 := ak (blk_drew a0.out)
            replace HB := ak (below_drew1 HB.out)
            have f5 : 0 ≤ (b2 : Int) := oa_
            have q1075 : b2 < (l1.length : Int) := oa_
            obtain ⟨ad1075, e1075, hx1075_0⟩ := Kd.at_int HR1.out b2 f5 q1075
            have hw1075_0 := hx1075_0
            cases e1075
            replace hx1075_0 := (HB.out.cell (World.block_lt_of_cell? w _ hx1075_0)).trans hx1075_0
            replace f5 := eq_true f5
            replace q1075 := eq_true q1075
            have f6 : 0 ≤ ((rd l1 b2) : Int) := oa_
            have q1076 : (rd l1 b2) < (l0_0.length : Int) := oa_
            obtain ⟨ad1076, j2, g2, e1076, hx1076_0, hl1076_0, hi1076_0⟩ := at_L1 HR0_0.out (rd l1 b2) f6 q1076
            have hw1076_0 := hx1076_0
            cases e1076
            replace hx1076_0 := (HB.out.cell (World.block_lt_of_cell? w _ hx1076_0)).trans hx1076_0
            have HR1076_0 := ak hi1076_0
            have i4 := ak hl1076_0
            clear hi1076_0 hl1076_0
            replace f6 := eq_true f6
            replace q1076 := eq_true q1076
            have f7 : 0 ≤ (d0 : Int) := oa_
            have q1077 : d0 < (l1.length : Int) := oa_
            obtain ⟨ad1077, e1077, hx1077_0⟩ := Kd.at_int HR1.out d0 f7 q1077
            have hw1077_0 := hx1077_0
            obtain rfl := ij_ e1077
            replace hx1077_0 := (HB.out.cell (World.block_lt_of_cell? w _ hx1077_0)).trans hx1077_0
            replace f7 := eq_true f7
            replace q1077 := eq_true q1077
            have f8 : 0 ≤ ((rd l1 d0) : Int) := oa_
            have q1078 : (rd l1 d0) < ((rd_L1 l0_0 (rd l1 b2)).length : Int) := oa_
            obtain ⟨ad1078, e1078, hx1078_0⟩ := Kd.at_int HR1076_0.out (rd l1 d0) f8 q1078
            have hw1078_0 := hx1078_0
            cases e1078
            replace hx1078_0 := (HB.out.cell (World.block_lt_of_cell? w _ hx1078_0)).trans hx1078_0
            replace f8 := eq_true f8
            replace q1078 := eq_true q1078
            refine start_ (n := 18) (S := fun w' => w'.cell? ⟨a7, 0, none⟩ = some (.slice (some ad1076) l0_0.length c0_0) ∧ w'.cell? ⟨a7, 1, none⟩ = some (.slice A0_1 l0_1.length c0_1) ∧ w'.cell? (ad1075.add (b2).toNat) = some (.int .i64 (rd l1 b2)) ∧ w'.cell? (ad1076.add ((rd l1 b2)).toNat) = some (.slice (some ad1078) (rd_L1 l0_0 (rd l1 b2)).length g2) ∧ w'.cell? (ad1075.add (d0).toNat) = some (.int .i64 (rd l1 d0)) ∧ w'.cell? (ad1078.add ((rd l1 d0)).toNat) = some (.int .i64 (rd (rd_L1 l0_0 (rd l1 b2)) (rd l1 d0)))) (ds := []) (bA 18 0) (by kernel_rfl) rfl rfl ⟨(blk_cell a1.out 0).trans rfl, (blk_cell a1.out 1).trans rfl, ((HB.out.cell (World.block_lt_of_cell? w _ hw1075_0)).trans hw1075_0), ((HB.out.cell (World.block_lt_of_cell? w _ hw1076_0)).trans hw1076_0), ((HB.out.cell (World.block_lt_of_cell? w _ hw1077_0)).trans hw1077_0), ((HB.out.cell (World.block_lt_of_cell? w _ hw1078_0)).trans hw1078_0)⟩ (fun hHeld => ?_); refine with_tabW spec_Renamed.tab22 spec_Renamed.bits22 (fun HT_ HW_ => ?_)
            generalize wr.drew = x3 at b5 d7 a4 a3 a1 a2 a0 HB HR1076_0 hx1075_0 hx1076_0 hx1077_0 hx1078_0 hHeld ⊢
            refine pu_ (i := 0) (N := some 78) (bA 18 1) ?_
            refine pu_ (i := 1) (N := some 79) (bA 18 3) ?_
            refine pu_ (i := 3) (N := some 81) (bA 18 11) ?_
            refine pu_ (i := 4) (N := some 82) (bA 18 27) ?_
            refine pu_ (i := 5) (N := some 83) (bA 18 59) ?_
            refine pu_ (i := 9) (N := some 87) (bA 18 571) ?_
            refine pu_ (i := 10) (N := some 88) (bA 18 1595) ?_
            refine pu_ (i := 11) (N := some 89) (bA 18 3643) ?_
            refine tk_ (i := 2) (N := some 80) (bA 18 3647) ?_
            refine tk_ (i := 6) (N := some 84) (bA 18 3711) ?_
            refine pu_ (i := 7) (N := some 85) (bA 18 3839) ?_
            refine tk_ (i := 8) (N := some 86) (bA 18 4095) ?_
            refine tk_ (i := 12) (N := some 90) (bA 18 8191) ?_
            refine pu_ (i := 13) (N := some 91) (bA 18 16383) ?_
            refine tk_ (i := 14) (N := some 92) (bA 18 32767) ?_
            refine one_ (i := 15) (N := some 93) (bA 18 65535) rfl rfl (one_of HT_.out (by kernel_rfl)) z1t_16 (fun K hK => ?_)
            refine value_ (w1 := ?_) (v := ?_) (by rfl) rfl ?_ ?_
            rotate_left 2
            ·
             go_simp
             constructor
             ·
              rfl
             rfl
            refine hK.out _ _ ⟨(blk_cell (blk_alloc a1.out _) 0).trans rfl, (blk_cell (blk_alloc a1.out _) 1).trans rfl, (World.cell?_alloc_lt _ _ _ (World.block_lt_of_cell? _ _ (((HB.out.cell (World.block_lt_of_cell? w _ hw1075_0)).trans hw1075_0)))).trans (((HB.out.cell (World.block_lt_of_cell? w _ hw1075_0)).trans hw1075_0)), (World.cell?_alloc_lt _ _ _ (World.block_lt_of_cell? _ _ (((HB.out.cell (World.block_lt_of_cell? w _ hw1076_0)).trans hw1076_0)))).trans (((HB.out.cell (World.block_lt_of_cell? w _ hw1076_0)).trans hw1076_0)), (World.cell?_alloc_lt _ _ _ (World.block_lt_of_cell? _ _ (((HB.out.cell (World.block_lt_of_cell? w _ hw1077_0)).trans hw1077_0)))).trans (((HB.out.cell (World.block_lt_of_cell? w _ hw1077_0)).trans hw1077_0)), (World.cell?_alloc_lt _ _ _ (World.block_lt_of_cell? _ _ (((HB.out.cell (World.block_lt_of_cell? w _ hw1078_0)).trans hw1078_0)))).trans (((HB.out.cell (World.block_lt_of_cell? w _ hw1078_0)).trans hw1078_0))⟩ (fun hHeld => ?_)
            clear hK K
            refine no_ (N := some 93) ?_
            refine one_ (i := 16) (N := some 94) (bA 18 131071) rfl rfl (one_of HT_.out (by kernel_rfl)) z1t_16 (fun K hK => ?_)
            refine Kd.R_append_step (Kd.int .i64) (w0 := w) w.heap.size (by rfl) (.tmp 78) (.tmp 93) 25 3 (.int .i64 0) 8 rfl Try.underlying25 info3 rfl z1t_16 (by omega) u10 e0 (rd (rd_L1 l0_0 (rd l1 b2)) (rd l1 d0)) [.int .i64 (rd (rd_L1 l0_0 (rd l1 b2)) (rd l1 d0))] (fun k_ => some k_ ≠ (b9 : Value).ownBlock ∧ some k_ ≠ (u1063001 : Value).ownBlock) (fun _ => False) rfl rfl ?aP (fun _ hk => hk.elim) ?aF ?aO ?aB ?aS ?aL ?_
            (case aP => exact rfl)
            (case aB => exact z1t_0)
            (case aF => exact (fun k_ hk => ⟨Kd.fresh' (Kd.R_lt (xR b5.out)) k_ hk, Kd.fresh' (Kd.R_lt (xR a3.out)) k_ hk⟩))
            (case aO => exact (xR d7.out))
            (case aS => exact (below_size z1t_0))
            (case aL => have := LMc60.out; omega)
            intro o9 x4 ho hb hg hat
            rw [← Ny1079.out] at ho
            replace b5 := ak (Kd.R_after (ok := (fun k_ => some k_ ≠ (u1063001 : Value).ownBlock)) z1t_10 hg hat)
            replace a4 := ak (Kd.S_after (ok := (fun k_ => some k_ ≠ (b9 : Value).ownBlock ∧ some k_ ≠ (u1063001 : Value).ownBlock)) (by (with_reducible repeat (first | apply Kd.S_alloc | apply Kd.S_drewN | apply Kd.S_drew)); exact Kd.S_mono a4.out (fun _ hk => ⟨⟨hk.1, hk.2.2⟩, hk.2.1⟩)) hg hat)
            replace a3 := ak (Kd.R_after (ok := (fun k_ => some k_ ≠ (b9 : Value).ownBlock)) (xR a3.out) hg hat)
            replace a1 := ak (blk_grown (g := a7) (o := .cells #[.slice (some ad1076) l0_0.length c0_0, .slice A0_1 l0_1.length c0_1] 27 (0, 0)) (xb a1.out) hg (Kd.R_ne d7.out a1.out z1t_16))
            replace a2 := ak (blk_grown (g := a6) (o := .cells #[.slice none 0 0, .slice none 0 0] 27 (0, 0)) (xb a2.out) hg (Kd.R_ne d7.out a2.out z1t_16))
            replace a0 := ak (blk_grown (g := a5) (o := .cells #[u1063000, u1063001] 27 (0, 0)) (xb a0.out) hg (Kd.R_ne d7.out a0.out z1t_16))
            replace HB := ak (hb)
            have h5 := ak (ho)
            clear d7 ho hb hg hat
            refine hK.out _ _ ⟨(blk_cell a1.out 0).trans rfl, (blk_cell a1.out 1).trans rfl, ((HB.out.cell (World.block_lt_of_cell? w _ hw1075_0)).trans hw1075_0), ((HB.out.cell (World.block_lt_of_cell? w _ hw1076_0)).trans hw1076_0), ((HB.out.cell (World.block_lt_of_cell? w _ hw1077_0)).trans hw1077_0), ((HB.out.cell (World.block_lt_of_cell? w _ hw1078_0)).trans hw1078_0)⟩ (fun hHeld => ?_)
            clear hK K
            refine no_ (N := some 94) ?_
            refine pu_ (i := 17) (N := some 10) (bA 18 262143) ?_
            refine done_ (done_of HT_.out (by kernel_rfl)) ?_
            try go_wp2
            go_roundg k4
            case measure => have := h8.out; have := HK2.out; have := HK3.out; have := HK4.out; omega
            case rel => exact ⟨(y1079), (wrap64 (d0 + 1)), z1t_8, H', ⟨(by have := h8.out; have := HK2.out; have := HK3.out; have := HK4.out; omega)⟩, ⟨z1t_10⟩, ⟨(xR h5.out)⟩, ⟨z1t_15⟩, ⟨(xR a3.out)⟩, ⟨(xb a1.out)⟩, ⟨(xb a2.out)⟩, ⟨(xb a0.out)⟩, ⟨z1t_0⟩⟩
           replace H := ok_ H
           obtain ⟨q0, H⟩ := H
           have LMc63 := ak q0
           clear q0
           obtain ⟨y1082, hy1082⟩ : ∃ y_ : List (List Int), y_ = (b0 ++ [e0]) := ⟨_, rfl⟩
           replace H : (if 0 ≤ b2 then (if b2 < (l1.length : Int) then (if 0 ≤ (rd l1 b2) then (if (rd l1 b2) < (l0_1.length : Int) then (if 0 ≤ (rd l0_1 (rd l1 b2)) then (if (rd l0_1 (rd l1 b2)) < (d5.length : Int) then (if a8.length < 17592186044416 then (spec_Renamed.l1 k4 l1 d5 (wrap64 (b2 + 1)) l0_0 l0_1 y1082 (a8 ++ [rd d5 (rd l0_1 (rd l1 b2))])) else (none)) else (none)) else (none)) else (none)) else (none)) else (none)) else (none)) = some (r1, r2) := by first | (rw [hy1082]; with_reducible exact H) | (have H2_ := (Option.bind_some _ _).symm.trans H; rw [hy1082]; with_reducible exact H2_) | (have H2_ := (Option.bind_some _ _).symm.trans H; with_reducible exact H2_) | with_reducible exact H | (rw [hy1082]; exact H) | exact H
           have Ny1082 := ak hy1082
           clear hy1082
           replace H := od6 H
           obtain ⟨q1, q2, q3, q4, q5, q6, H⟩ := H
           replace H := ok_ H
           obtain ⟨q7, H⟩ := H
           have LMc70 := ak q7
           clear q7
           obtain ⟨y1088, hy1088⟩ : ∃ y_ : List Int, y_ = (a8 ++ [rd d5 (rd l0_1 (rd l1 b2))]) := ⟨_, rfl⟩
           replace H : (spec_Renamed.l1 k4 l1 d5 (wrap64 (b2 + 1)) l0_0 l0_1 y1082 y1088) = some (r1, r2) := by first | (rw [hy1088]; with_reducible exact H) | (have H2_ := (Option.bind_some _ _).symm.trans H; rw [hy1088]; with_reducible exact H2_) | (have H2_ := (Option.bind_some _ _).symm.trans H; with_reducible exact H2_) | with_reducible exact H | (rw [hy1088]; exact H) | exact H
           have Ny1088 := ak hy1088
           clear hy1088
           have H' := ak H
           clear H
           have q8 := b3.out
           have q9 := a9.out
           have s0 := b6.out
           have s1 := b1.out
           have d1 := cz20 a0.out
           have d2 := cz21 a0.out
           have d3 := blk_frozen a0.out 0
           have d4 := blk_frozen a0.out 1
           obtain ⟨i5, i6, k5⟩ := Kd.R_slice d7.out
           subst k5
           try go_wp2_with (first | ((with_reducible refine gate_builtin (b := .append) (xs := #[.tmp 96, .tmp 98]) rfl ?_); (try (refine gate_guard (by rfl) ?_; dsimp only)); at_builtin; refine Kd.S_append (Kd.slice 3 (Kd.int .i64)) (w0 := w) w.heap.size rfl (.tmp 96) (.tmp 98) 24 25 (.slice none 0 0) 24 rfl Try.underlying24 info25 rfl z1t_16 (by omega) u1063000 b0 e0 [.slice i5 e0.length i6] (fun k_ => some k_ ≠ (b9 : Value).ownBlock ∧ some k_ ≠ (u1063001 : Value).ownBlock) (fun k_ => some k_ = (.slice i5 e0.length i6 : Value).ownBlock) rfl rfl ?aP (fun k_ hk_ => ((Kd.R_mono (ok' := fun k_ => ((fun k_ => some k_ ≠ (b9 : Value).ownBlock ∧ some k_ ≠ (u1063001 : Value).ownBlock)) k_ ∧ some k_ ≠ (u1063000 : Value).ownBlock) (Kd.R_apart' (d7.out) (Kd.S_typed a4.out) z1t_16) (fun k_ hk => ⟨⟨hk.1.1, hk.1.2⟩, hk.2⟩))).1 k_ hk_.symm) ?aF ?aO ?aB ?aS ?aL ?_; (case aP => exact Kd.M_row (Kd.R_mono (Kd.R_tight rfl (Kd.R_mono (ok' := fun k_ => ((fun k_ => some k_ ≠ (b9 : Value).ownBlock ∧ some k_ ≠ (u1063001 : Value).ownBlock)) k_ ∧ some k_ ≠ (u1063000 : Value).ownBlock) (Kd.R_apart' (d7.out) (Kd.S_typed a4.out) z1t_16) (fun k_ hk => ⟨⟨hk.1.1, hk.1.2⟩, hk.2⟩))) (fun _ h_ => h_))); (case aB => exact z1t_0); (case aF => exact (fun k_ hk => ⟨Kd.fresh' (Kd.R_lt (xR b5.out)) k_ hk, Kd.fresh' (Kd.R_lt (xR a3.out)) k_ hk⟩)); (case aO => exact (by (with_reducible repeat (first | apply Kd.S_alloc | apply Kd.S_drewN | apply Kd.S_drew)); exact Kd.S_mono a4.out (fun k_ hk => ⟨⟨hk.1, hk.2.2⟩, fun e_ => hk.2.1 e_⟩))); (case aS => exact (below_size z1t_0)); (case aL => have := LMc63.out; omega); intro s2 h1 ho hb hg hat; rw [← Ny1082.out] at ho; replace b5 := ak (Kd.R_over' (xR b5.out) (Kd.S_typed (xS a4.out)) z1t_16 hg); replace a3 := ak (Kd.R_over' (xR a3.out) (Kd.S_typed (xS a4.out)) z1t_16 hg); replace a1 := ak (blk_grown (g := a7) (o := .cells #[.slice A0_0 l0_0.length c0_0, .slice A0_1 l0_1.length c0_1] 27 (0, 0)) (xb a1.out) hg (Kd.S_ne a4.out a1.out z1t_16)); replace a2 := ak (blk_grown (g := a6) (o := .cells #[.slice none 0 0, .slice none 0 0] 27 (0, 0)) (xb a2.out) hg (Kd.S_ne a4.out a2.out z1t_16)); replace a0 := ak (blk_grown (g := a5) (o := .cells #[u1063000, u1063001] 27 (0, 0)) (xb a0.out) hg (Kd.S_ne a4.out a0.out z1t_16)); replace HB := ak (hb); have d6 := ak (ho); clear a4 d7; clear ho hb hg hat; obtain ⟨d8, d9, k6⟩ := Kd.S_slice d6.out; subst k6; have d1 := cz20 a0.out; have d2 := cz21 a0.out; have d3 := blk_frozen a0.out 0; have d4 := blk_frozen a0.out 1))
           have n0_ : Aside0 (Kd.R (Kd.int .i64) 3 (h1.setCell ⟨a5, 0, none⟩ (.slice d8 y1082.length d9)) w.heap.size (fun k_ => some k_ ≠ (u1063001 : Value).ownBlock) b9 d5) := ⟨(by (with_reducible repeat (first | apply Kd.R_alloc | apply Kd.R_drewN | apply Kd.R_drew)); exact Kd.R_mono (Kd.R_far (p := ⟨a5, 0, none⟩) (Kd.R_types b5.out a0.out z1t_16) (fun _ hk => hk.2) (.slice d8 y1082.length d9)) (fun _ hk => hk.1.2))⟩
           have n1_ : Aside0 (Kd.R (Kd.int .i64) 3 (h1.setCell ⟨a5, 0, none⟩ (.slice d8 y1082.length d9)) w.heap.size (fun k_ => some k_ ≠ (b9 : Value).ownBlock) u1063001 a8) := ⟨(by (with_reducible repeat (first | apply Kd.R_alloc | apply Kd.R_drewN | apply Kd.R_drew)); exact Kd.R_mono (Kd.R_far (p := ⟨a5, 0, none⟩) (Kd.R_types a3.out a0.out z1t_16) (fun _ hk => hk.2) (.slice d8 y1082.length d9)) (fun _ hk => hk.1.1))⟩
           have n2_ : Aside0 (Kd.S (Kd.slice 3 (Kd.int .i64)) 25 (h1.setCell ⟨a5, 0, none⟩ (.slice d8 y1082.length d9)) w.heap.size (fun k_ => some k_ ≠ (b9 : Value).ownBlock ∧ some k_ ≠ (u1063001 : Value).ownBlock) (.slice d8 y1082.length d9) y1082) := ⟨(by (with_reducible repeat (first | apply Kd.S_alloc | apply Kd.S_drewN | apply Kd.S_drew)); exact Kd.S_mono (Kd.S_far (p := ⟨a5, 0, none⟩) (Kd.S_types d6.out a0.out z1t_16) (fun _ hk => hk.2) (.slice d8 y1082.length d9)) (fun _ hk => ⟨hk.1.1, hk.1.2⟩))⟩
           have n3_ : Aside0 ((h1.setCell ⟨a5, 0, none⟩ (.slice d8 y1082.length d9)).heap[a7]? = some (.cells #[.slice A0_0 l0_0.length c0_0, .slice A0_1 l0_1.length c0_1] 27 (0, 0))) := ⟨z1t_13⟩
           have n4_ : Aside0 ((h1.setCell ⟨a5, 0, none⟩ (.slice d8 y1082.length d9)).heap[a6]? = some (.cells #[.slice none 0 0, .slice none 0 0] 27 (0, 0))) := ⟨z1t_12⟩
           have n5_ : Aside0 ((h1.setCell ⟨a5, 0, none⟩ (.slice d8 y1082.length d9)).heap[a5]? = some (.cells #[.slice d8 y1082.length d9, u1063001] 27 (0, 0))) := ⟨(by (with_reducible repeat (first | refine blk_drewN ?_ _ | refine blk_drew ?_ | refine blk_alloc ?_ _)); refine blk_put (cs := #[u1063000, u1063001]) ?_ 0 _ rfl; (with_reducible repeat (first | refine blk_drewN ?_ _ | refine blk_drew ?_ | refine blk_alloc ?_ _)); exact a0.out)⟩
           have n6_ : Aside0 (Below w.heap.size w (h1.setCell ⟨a5, 0, none⟩ (.slice d8 y1082.length d9))) := ⟨z1t_0⟩
           (try clear b5)
           (try clear a3)
           (try clear d6)
           (try clear a1)
           (try clear a2)
           (try clear a0)
           (try clear HB)
           generalize (h1.setCell ⟨a5, 0, none⟩ (.slice d8 y1082.length d9)) = v4 at n0_ n1_ n2_ n3_ n4_ n5_ n6_ ⊢
           have b5 := n0_
           have a3 := n1_
           have d6 := n2_
           have a1 := n3_
           have a2 := n4_
           have a0 := n5_
           have HB := n6_
           clear n0_ n1_ n2_ n3_ n4_ n5_ n6_
           replace b5 := ak (Kd.R_drew b5.out)
           replace a3 := ak (Kd.R_drew a3.out)
           replace d6 := ak (Kd.S_drew d6.out)
           replace a1 := ak (blk_drew a1.out)
           replace a2 := ak (blk_drew a2.out)
           replace a0 := ak (blk_drew a0.out)
           replace HB := ak (below_drew1 HB.out)
           have f9 : 0 ≤ (b2 : Int) := oa_
           have q1085 : b2 < (l1.length : Int) := oa_
           obtain ⟨ad1085, e1085, hx1085_0⟩ := Kd.at_int HR1.out b2 f9 q1085
           have hw1085_0 := hx1085_0
           cases e1085
           replace hx1085_0 := (HB.out.cell (World.block_lt_of_cell? w _ hx1085_0)).trans hx1085_0
           replace f9 := eq_true f9
           replace q1085 := eq_true q1085
           have g0 : 0 ≤ ((rd l1 b2) : Int) := oa_
           have q1086 : (rd l1 b2) < (l0_1.length : Int) := oa_
           obtain ⟨ad1086, e1086, hx1086_0⟩ := Kd.at_int HR0_1.out (rd l1 b2) g0 q1086
           have hw1086_0 := hx1086_0
           cases e1086
           replace hx1086_0 := (HB.out.cell (World.block_lt_of_cell? w _ hx1086_0)).trans hx1086_0
           replace g0 := eq_true g0
           replace q1086 := eq_true q1086
           obtain ⟨v5, i7, i8⟩ := Kd.R_slice b5.out
           (first | subst i8 | (injection i8 with f1_ f2_ f3_; have f4_ := f1_.symm; have f5_ := f3_.symm; clear f1_ f2_ f3_; subst f4_; subst f5_))
           obtain ⟨ad1087, e1087, hx1087_0, s3, q1087⟩ := ai_ (Kd.R_reads' b5.out).2.2 (rd l0_1 (rd l1 b2))
           cases e1087
           refine start_ (n := 17) (S := fun w' => w'.cell? ⟨a5, 0, none⟩ = some (.slice d8 y1082.length d9) ∧ w'.cell? ⟨a5, 1, none⟩ = some (u1063001) ∧ w'.cell? ⟨a7, 0, none⟩ = some (.slice A0_0 l0_0.length c0_0) ∧ w'.cell? ⟨a7, 1, none⟩ = some (.slice (some ad1086) l0_1.length c0_1) ∧ w'.cell? (ad1085.add (b2).toNat) = some (.int .i64 (rd l1 b2)) ∧ w'.cell? (ad1086.add ((rd l1 b2)).toNat) = some (.int .i64 (rd l0_1 (rd l1 b2))) ∧ w'.cell? (ad1087.add ((rd l0_1 (rd l1 b2))).toNat) = some (.int .i64 (rd d5 (rd l0_1 (rd l1 b2))))) (ds := [14, 16]) (bA 17 0) (by kernel_rfl) rfl rfl ⟨(blk_cell a0.out 0).trans rfl, (blk_cell a0.out 1).trans rfl, (blk_cell a1.out 0).trans rfl, (blk_cell a1.out 1).trans rfl, ((HB.out.cell (World.block_lt_of_cell? w _ hw1085_0)).trans hw1085_0), ((HB.out.cell (World.block_lt_of_cell? w _ hw1086_0)).trans hw1086_0), hx1087_0⟩ (fun hHeld => ?_); refine with_tabW spec_Renamed.tab24 spec_Renamed.bits24 (fun HT_ HW_ => ?_)
           generalize v4.drew = x5 at b5 a3 d6 a1 a2 a0 HB hx1085_0 hx1086_0 hx1087_0 hHeld ⊢
           refine pu_ (i := 0) (N := some 101) (bA 17 1) ?_
           refine pu_ (i := 2) (N := some 103) (bA 17 5) ?_
           refine pu_ (i := 3) (N := some 104) (bA 17 13) ?_
           refine pu_ (i := 5) (N := some 106) (bA 17 45) ?_
           refine pu_ (i := 6) (N := some 107) (bA 17 109) ?_
           refine pu_ (i := 7) (N := some 108) (bA 17 237) ?_
           refine tk_ (i := 1) (N := some 102) (bA 17 239) ?_
           refine tk_ (i := 4) (N := some 105) (bA 17 255) ?_
           refine tk_ (i := 8) (N := some 109) (bA 17 511) ?_
           refine pu_ (i := 9) (N := some 110) (bA 17 1023) ?_
           refine tk_ (i := 10) (N := some 111) (bA 17 2047) ?_
           refine pu_ (i := 11) (N := some 112) (bA 17 4095) ?_
           refine tk_ (i := 12) (N := some 113) (bA 17 8191) ?_
           refine one_ (i := 13) (N := some 114) (bA 17 16383) rfl rfl (one_of HT_.out (by kernel_rfl)) z1t_16 (fun K hK => ?_)
           refine value_ (w1 := ?_) (v := ?_) (by rfl) rfl ?_ ?_
           rotate_left 2
           ·
            go_simp
            constructor
            ·
             rfl
            rfl
           refine hK.out _ _ ⟨(blk_cell (blk_alloc a0.out _) 0).trans rfl, (blk_cell (blk_alloc a0.out _) 1).trans rfl, (blk_cell (blk_alloc a1.out _) 0).trans rfl, (blk_cell (blk_alloc a1.out _) 1).trans rfl, (World.cell?_alloc_lt _ _ _ (World.block_lt_of_cell? _ _ (((HB.out.cell (World.block_lt_of_cell? w _ hw1085_0)).trans hw1085_0)))).trans (((HB.out.cell (World.block_lt_of_cell? w _ hw1085_0)).trans hw1085_0)), (World.cell?_alloc_lt _ _ _ (World.block_lt_of_cell? _ _ (((HB.out.cell (World.block_lt_of_cell? w _ hw1086_0)).trans hw1086_0)))).trans (((HB.out.cell (World.block_lt_of_cell? w _ hw1086_0)).trans hw1086_0)), (World.cell?_alloc_lt _ _ _ (World.block_lt_of_cell? _ _ (hHeld.2.2.2.2.2.2))).trans (hHeld.2.2.2.2.2.2)⟩ (fun hHeld => ?_)
           clear hK K
           refine no_ (N := some 114) ?_
           refine last_ (i := 14) (N := some 115) (bA 17 32767) rfl rfl (one_of HT_.out (by kernel_rfl)) z1t_16 (fun K hK => ?_)
           refine Kd.R_append_step (Kd.int .i64) (w0 := w) w.heap.size (by rfl) (.tmp 102) (.tmp 114) 25 3 (.int .i64 0) 8 rfl Try.underlying25 info3 rfl z1t_16 (by omega) u1063001 a8 (rd d5 (rd l0_1 (rd l1 b2))) [.int .i64 (rd d5 (rd l0_1 (rd l1 b2)))] (fun k_ => some k_ ≠ (.slice (some ad1087) d5.length i7 : Value).ownBlock) (fun _ => False) rfl rfl ?aP (fun _ hk => hk.elim) ?aF ?aO ?aB ?aS ?aL ?_
           (case aP => exact rfl)
           (case aB => exact z1t_0)
           (case aF => exact (fun k_ hk => Kd.fresh' (Kd.R_lt (xR b5.out)) k_ hk))
           (case aO => exact (xR a3.out))
           (case aS => exact (below_size z1t_0))
           (case aL => have := LMc70.out; omega)
           intro s4 x6 ho hb hg hat
           rw [← Ny1088.out] at ho
           replace b5 := ak (Kd.R_after (ok := (fun _ => True)) (by (with_reducible repeat (first | apply Kd.R_alloc | apply Kd.R_drewN | apply Kd.R_drew)); exact Kd.R_mono b5.out (fun _ hk => ⟨trivial, hk⟩)) hg hat)
           replace a1 := ak (blk_grown (g := a7) (o := .cells #[.slice A0_0 l0_0.length c0_0, .slice (some ad1086) l0_1.length c0_1] 27 (0, 0)) (xb a1.out) hg (Kd.R_ne a3.out a1.out z1t_16))
           replace a2 := ak (blk_grown (g := a6) (o := .cells #[.slice none 0 0, .slice none 0 0] 27 (0, 0)) (xb a2.out) hg (Kd.R_ne a3.out a2.out z1t_16))
           replace a0 := ak (blk_grown (g := a5) (o := .cells #[.slice d8 y1082.length d9, u1063001] 27 (0, 0)) (xb a0.out) hg (Kd.R_ne a3.out a0.out z1t_16))
           replace d6 := ak (Kd.S_after (ok := (fun k_ => some k_ ≠ (.slice (some ad1087) d5.length i7 : Value).ownBlock)) (xS d6.out) hg hat)
           replace HB := ak (hb)
           have g1 := ak (ho)
           clear a3 ho hb hg hat
           obtain ⟨g3, g4, i9⟩ := Kd.R_slice g1.out
           (first | subst i9 | (injection i9 with f1_ f2_ f3_; have f4_ := f1_.symm; have f5_ := f3_.symm; clear f1_ f2_ f3_; subst f4_; subst f5_))
           refine hK.out _ _ ?_
           clear hK K
           refine no_ (N := some 115) ?_
           refine pu_ (i := 15) (N := some 116) (bA 17 65535) ?_
           refine last_ (i := 16) (N := none) (bA 17 131071) rfl rfl (one_of HT_.out (by kernel_rfl)) z1t_16 (fun K hK => ?_)
           have hs83 : _ := cz21 a0.out
           have hfs83 := blk_frozen a0.out 1
           have hns83_0 := a9.out
           have hns83_1 := b1.out
           have hms83_0 := b3.out
           have hms83_1 := b6.out
           refine skip_ (w1 := ?_) (by rfl) rfl ?_ ?_
           rotate_left
           ·
            go_simp
            rfl
           refine hK.out _ _ ?_
           clear hK K
           refine done_ (done_of HT_.out (by kernel_rfl)) ?_
           try go_wp2
           go_roundg k4
           case measure => have := h8.out; have := HK2.out; have := HK3.out; have := HK4.out; omega
           case rel => exact ⟨(wrap64 (b2 + 1)), (y1082), (y1088), (.slice d8 y1082.length d9), (.slice g3 y1088.length g4), z1t_8, H', ⟨(by have := h8.out; have := HK2.out; have := HK3.out; have := HK4.out; omega)⟩, ⟨(by (with_reducible repeat (first | apply Kd.R_alloc | apply Kd.R_drewN | apply Kd.R_drew)); exact Kd.R_mono (Kd.R_far (p := ⟨a5, 1, none⟩) (Kd.R_types b5.out a0.out z1t_16) (fun _ hk => hk.2) (.slice g3 y1088.length g4)) (fun _ hk => hk.1.2))⟩, ⟨(by (with_reducible repeat (first | apply Kd.S_alloc | apply Kd.S_drewN | apply Kd.S_drew)); exact Kd.S_mono (Kd.S_far (p := ⟨a5, 1, none⟩) (Kd.S_types d6.out a0.out z1t_16) (fun _ hk => hk.2) (.slice g3 y1088.length g4)) (fun _ hk => ⟨hk.1.1, hk.1.2⟩))⟩, ⟨(by (with_reducible repeat (first | apply Kd.R_alloc | apply Kd.R_drewN | apply Kd.R_drew)); exact Kd.R_mono (Kd.R_far (p := ⟨a5, 1, none⟩) (Kd.R_types g1.out a0.out z1t_16) (fun _ hk => hk.2) (.slice g3 y1088.length g4)) (fun _ hk => hk.1))⟩, ⟨z1t_13⟩, ⟨z1t_12⟩, ⟨(by (with_reducible repeat (first | refine blk_drewN ?_ _ | refine blk_drew ?_ | refine blk_alloc ?_ _)); refine blk_put (cs := #[.slice d8 y1082.length d9, u1063001]) ?_ 1 _ rfl; (with_reducible repeat (first | refine blk_drewN ?_ _ | refine blk_drew ?_ | refine blk_alloc ?_ _)); exact a0.out)⟩, ⟨z1t_0⟩⟩
        simp only [Option.some.injEq, Prod.mk.injEq] at H
        obtain ⟨rfl, rfl⟩ := H
        have s5 := b3.out
        have s6 := a9.out
        have s7 := b6.out
        have s8 := b1.out
        have d1 := cz20 a0.out
        have d2 := cz21 a0.out
        have d3 := blk_frozen a0.out 0
        have d4 := blk_frozen a0.out 1
        obtain ⟨g5, g6, k7⟩ := Kd.S_slice a4.out
        subst k7
        have s9 := b8.out
        have u0 := b7.out
        have d1 := cz20 a2.out
        have d2 := cz21 a2.out
        have d3 := blk_frozen a2.out 0
        have d4 := blk_frozen a2.out 1
        obtain ⟨h6, h7, k8⟩ := Kd.R_slice a3.out
        subst k8
        go_wp2
        refine bodyPost_ret (results_cell_row rfl _ _ a6 27 #[.slice g5 b0.length g6, .slice h6 a8.length h7] (0, 0) _ rfl (by (with_reducible repeat (first | refine blk_drewN ?_ _ | refine blk_drew ?_ | refine blk_alloc ?_ _)); refine blk_put (cs := #[.slice g5 b0.length g6, .slice none 0 0]) ?_ 1 _ rfl; (with_reducible repeat (first | refine blk_drewN ?_ _ | refine blk_drew ?_ | refine blk_alloc ?_ _)); refine blk_put (cs := #[.slice none 0 0, .slice none 0 0]) ?_ 0 _ rfl; (with_reducible repeat (first | refine blk_drewN ?_ _ | refine blk_drew ?_ | refine blk_alloc ?_ _)); exact a2.out) Try.underlying27 rfl (by kernel_rfl)) rfl ?_
        exact ⟨_, _, z1t_14, (by (with_reducible repeat (first | apply Kd.S_alloc | apply Kd.S_drewN | apply Kd.S_drew)); exact Kd.S_mono (Kd.S_far (p := ⟨a6, 1, none⟩) (Kd.S_far (p := ⟨a6, 0, none⟩) (Kd.S_types a4.out a2.out z1t_16) (fun _ hk => hk.2) (.slice g5 b0.length g6)) (fun _ hk => hk.2) (.slice h6 a8.length h7)) (fun _ hk => hk.1.2)), (by (with_reducible repeat (first | apply Kd.R_alloc | apply Kd.R_drewN | apply Kd.R_drew)); exact Kd.R_mono (Kd.R_far (p := ⟨a6, 1, none⟩) (Kd.R_far (p := ⟨a6, 0, none⟩) (Kd.R_types a3.out a2.out z1t_16) (fun _ hk => hk.2) (.slice g5 b0.length g6)) (fun _ hk => hk.2) (.slice h6 a8.length h7)) (fun _ hk => trivial)), z1t_0⟩
     simp only [Option.some.injEq, Prod.mk.injEq] at H
     obtain ⟨rfl, rfl⟩ := H
     have u1 := b3.out
     have u2 := a9.out
     have u3 := b6.out
     have u4 := b1.out
     have d1 := cz20 a0.out
     have d2 := cz21 a0.out
     have d3 := blk_frozen a0.out 0
     have d4 := blk_frozen a0.out 1
     have u5 := b8.out
     have u6 := b7.out
     have d1 := cz20 a2.out
     have d2 := cz21 a2.out
     have d3 := blk_frozen a2.out 0
     have d4 := blk_frozen a2.out 1
     go_wp2
     refine bodyPost_ret (results_cell_row rfl _ _ a6 27 #[.slice none 0 0, .slice none 0 0] (0, 0) _ rfl z1t_1 Try.underlying27 rfl (by kernel_rfl)) rfl ?_
     exact ⟨_, _, z1t_14, z1t_3, z1t_4, z1t_0⟩

end Go.Proofs.Ytacifhahfamipaa.P

namespace Go.Proofs.Ytacifhahfamipaa.P
open Go.RowKit Go.Proofs.YtacifhahfamipaaW.PrintWords Go.Proofs.YtacifhahfamipaaW.PrintLast Go.Proofs.YtacifhahfamipaaW.PrintMore
attribute [local go_sem] max2_int min2_int max_two min_two max_three min_three max_four min_four
set_option linter.unusedVariables false
set_option linter.unusedSimpArgs false
set_option maxHeartbeats 8000000 in
set_option maxRecDepth 100000 in
theorem impl_isAnswer.calls (A0 : Option Addr) (c0 : Nat) (l0 : List (List Int)) (a1 : Int) (r : Bool) (w : World) (hr0 : Kd.C (Kd.slice 3 (Kd.int .i64)) w A0 l0.length l0) (hc0 : l0.length ≤ c0) (h : impl_isAnswer.f l0 a1 = some r) :
 Calls Try.prog 107 #[.slice A0 l0.length c0, .int .i64 a1] w fun e w' => e = .returned (.bool r) ∧ Drawn0 w w' := by
 have HR0 := ak hr0
 have a2 := ak hc0
 clear hr0 hc0
 have H : (if a1 ≥ 0 then (some (decide (a1 < (l0.length : Int)))) else (some false)) = some r := h
 clear h
 replace H := op_ H
 rcases H with ⟨c3, H⟩ | ⟨c3, H⟩
 ·
  have a0 : decide (0 ≤ a1) = true := dT_ c3
  clear c3
  obtain rfl := Option.some.inj H
  go_enter Try.func107, Try.ntmps107
  go_wp2
  go_ret
  exact ⟨(by first | rfl | (simp; done) | (simp [*]; done)), (by repeat (first | exact Drawn0.refl _ | apply Drawn0.step))⟩
 have a0 : decide (0 ≤ a1) = false := dF_ c3
 clear c3
 obtain rfl := Option.some.inj H
 go_enter Try.func107, Try.ntmps107
 go_wp2
 go_ret
 exact ⟨(by first | rfl | (simp; done) | (simp [*]; done)), (by repeat (first | exact Drawn0.refl _ | apply Drawn0.step))⟩

end Go.Proofs.Ytacifhahfamipaa.P

namespace Go.Proofs.Ytacifhahfamipaa.P
open Go.RowKit Go.Proofs.YtacifhahfamipaaW.PrintWords Go.Proofs.YtacifhahfamipaaW.PrintLast Go.Proofs.YtacifhahfamipaaW.PrintMore
attribute [local go_sem] max2_int min2_int max_two min_two max_three min_three max_four min_four
set_option linter.unusedVariables false
set_option linter.unusedSimpArgs false
theorem z5_2 {p : Prop} (h : p := by have := HK1.out; have := b0.out; have := HK3.out; omega) : p := h
theorem z5_1 {p : Prop} (h : p := by repeat (first | exact Drawn0.refl _ | apply Drawn0.step)) : p := h
theorem z5_0 {p : Prop} (h : p := by first | rfl | (simp; done) | (simp [*]; done)) : p := h
set_option maxHeartbeats 8000000 in
set_option maxRecDepth 100000 in
theorem impl_meet.calls (k : Nat) (A0 : Option Addr) (c0 : Nat) (l0 : List (List Int)) (a1 : Int) (a2 : Int) (r : Int) (w : World) (hr0 : Kd.C (Kd.slice 3 (Kd.int .i64)) w A0 l0.length l0) (hc0 : l0.length ≤ c0) (h : impl_meet.f k l0 a1 a2 = some r) :
 Calls Try.prog 106 #[.slice A0 l0.length c0, .int .i64 a1, .int .i64 a2] w fun e w' => e = .returned (.int .i64 r) ∧ Drawn0 w w' := by
 have HR0 := ak hr0
 have g9 := ak hc0
 clear hr0 hc0
 have H : (impl_meet.l0 k l0 a1 a2 (l0.length : Int) 0) = some r := h
 clear h
 have H' := ak H
 clear H
 go_enter Try.func106, Try.ntmps106
 go_wp2
 go_loopg [12] k (fun kq f9 w' => ∃ (a0 : Int), f9 = .int .i64 a0 ∧ Aside0 (impl_meet.l0 kq l0 a1 a2 (l0.length : Int) a0 = some r) ∧ Aside0 (kq ≤ k) ∧ Drawn0 w w')
 case atStart => exact ⟨(0), z5_0, H', ⟨Nat.le_refl _⟩, z5_1⟩
 case round =>
  clear H'
  obtain ⟨a0, rfl, HA, HK1, ⟨m1, rfl⟩⟩ := hrel
  cases gk with
  | zero => exact absurd HA.out (by simp [impl_meet.l0])
  | succ k1 =>
   have H := HA.out
   clear HA
   simp only [impl_meet.l0] at H
   replace H := os_ H
   rcases H with ⟨b1, H⟩ | ⟨b1, H⟩
   ·
    have d9 := ak H
    clear H
    go_upto_region 4 with (fail)
    go_cut [32] (fun g0 wc => ∃ (kq : Nat) (a5 : Bool), g0 = .bool a5 ∧ Aside0 (impl_meet.j1 kq l0 a1 a2 a0 (l0.length : Int) a0 a5 = some r) ∧ Aside0 (kq ≤ k1) ∧ Drawn0 w wc)
    case first =>
     have H := d9.out
     clear d9
     replace H := od_ H
     obtain ⟨b7, H⟩ := H
     (first | rw [b7] | (simp only [i64_w, i32_w]; rw [b7]) | skip)
     replace H := od3 H
     obtain ⟨g1, g2, g3, H⟩ := H
     replace H := oe2 H
     rcases H with ⟨⟨-, b8, b9⟩, H⟩ | ⟨⟨h0, b8, b9⟩, H⟩
     ·
      have H' := ak H
      clear H
      obtain ⟨ad190, b2, b3, e190, hx190_0, a8, HR190_0, e0, q190⟩ := al_ HR0.out a0
      cases e190
      obtain ⟨ad191, e191, hx191_0, e1, q191⟩ := ai_ HR190_0.out a1
      cases e191
      go_wp2
      go_meet
      case rel => exact ⟨_, (true), z5_0, H', ⟨(by have := HK1.out; first | omega | exact Nat.le_refl _)⟩, z5_1⟩
     replace H := od2 H
     obtain ⟨e9, f0, H⟩ := H
     have H' := ak H
     clear H
     obtain ⟨ad190, b2, b3, e190, hx190_0, a8, HR190_0, e0, q190⟩ := al_ HR0.out a0
     cases e190
     obtain ⟨ad191, e191, hx191_0, e1, q191⟩ := ai_ HR190_0.out a1
     cases e191
     obtain ⟨ad192, e2, e3, e192, hx192_0, d7, HR192_0, g4, q192⟩ := al_ HR0.out a0
     obtain rfl := ij_ e192
     obtain ⟨rfl, rfl⟩ := is_ hx190_0 hx192_0
     obtain ⟨ad193, e193, hx193_0, g5, q193⟩ := ai_ HR192_0.out a2
     cases e193
     go_wp2
     go_meet
     case rel => exact ⟨_, (((rd (rd_L1 l0 a0) a2) == 0)), z5_0, H', ⟨(by have := HK1.out; first | omega | exact Nat.le_refl _)⟩, z5_1⟩
    case rest =>
     clear d9
     try clear c4
     try clear b1
     obtain ⟨kq, a5, rfl, HA, b0, ⟨mc4, rfl⟩⟩ := hcut
     cases kq with
     | zero => exact absurd HA.out (by simp [impl_meet.j1])
     | succ e4 =>
      have H := HA.out
      clear HA
      simp only [impl_meet.j1] at H
      replace H := ox_ H
      rcases H with ⟨rfl, H⟩ | ⟨rfl, H⟩
      ·
       have H' := ak H
       clear H
       go_wp2
       go_roundg e4
       case measure => have := HK1.out; have := b0.out; omega
       case rel => exact ⟨(wrap64 (a0 + 1)), z5_0, H', ⟨(by have := HK1.out; have := b0.out; omega)⟩, z5_1⟩
      have H' := ak H
      clear H
      go_wp2
      go_loopg [8, 35] e4 (fun kq v8 g6 w' => ∃ (b4 : Bool) (a3 : Int), v8 = .bool b4 ∧ g6 = .int .i64 a3 ∧ Aside0 (impl_meet.l1 kq l0 a1 a2 a0 b4 (l0.length : Int) a0 (l0.length : Int) a3 = some r) ∧ Aside0 (kq ≤ e4) ∧ Drawn0 w w')
      case atStart => exact ⟨(true), (0), z5_0, z5_0, H', ⟨Nat.le_refl _⟩, z5_1⟩
      case round =>
       clear H'
       try clear c4
       try clear b1
       try clear h1
       obtain ⟨b4, a3, rfl, rfl, HA, HK3, ⟨m3, rfl⟩⟩ := hrel
       cases gk with
       | zero => exact absurd HA.out (by simp [impl_meet.l1])
       | succ k3 =>
        have H := HA.out
        clear HA
        simp only [impl_meet.l1] at H
        replace H := os_ H
        rcases H with ⟨d0, H⟩ | ⟨d0, H⟩
        ·
         replace H := ox_ H
         rcases H with ⟨rfl, H⟩ | ⟨rfl, H⟩
         ·
          replace H := od4 H
          obtain ⟨f1, f2, f3, f4, H⟩ := H
          replace H := oe2 H
          rcases H with ⟨⟨-, d1, d2⟩, H⟩ | ⟨⟨h2, d1, d2⟩, H⟩
          ·
           have H' := ak H
           clear H
           obtain ⟨ad194, a6, a7, e194, hx194_0, a4, HR194_0, d3, q194⟩ := al_ HR0.out a3
           cases e194
           obtain ⟨ad195, e195, hx195_0, d4, q195⟩ := ai_ HR194_0.out a1
           cases e195
           go_wp2
           go_roundg k3
           case measure => have := HK1.out; have := b0.out; have := HK3.out; omega
           case rel => exact ⟨(true), (wrap64 (a3 + 1)), z5_0, z5_0, H', ⟨z5_2⟩, z5_1⟩
          replace H := od2 H
          obtain ⟨f5, f6, H⟩ := H
          replace H := oe2 H
          rcases H with ⟨⟨-, d5, d6⟩, H⟩ | ⟨⟨h3, d5, d6⟩, H⟩
          ·
           have H' := ak H
           clear H
           obtain ⟨ad194, a6, a7, e194, hx194_0, a4, HR194_0, d3, q194⟩ := al_ HR0.out a3
           cases e194
           obtain ⟨ad195, e195, hx195_0, d4, q195⟩ := ai_ HR194_0.out a1
           cases e195
           obtain ⟨ad196, b5, b6, e196, hx196_0, a9, HR196_0, e5, q196⟩ := al_ HR0.out a3
           obtain rfl := ij_ e196
           obtain ⟨rfl, rfl⟩ := is_ hx194_0 hx196_0
           obtain ⟨ad197, e197, hx197_0, e6, q197⟩ := ai_ HR196_0.out a2
           cases e197
           go_wp2
           go_roundg k3
           case measure => have := HK1.out; have := b0.out; have := HK3.out; omega
           case rel => exact ⟨(true), (wrap64 (a3 + 1)), z5_0, z5_0, H', ⟨z5_2⟩, z5_1⟩
          replace H := od2 H
          obtain ⟨f7, f8, H⟩ := H
          have H' := ak H
          clear H
          obtain ⟨ad194, a6, a7, e194, hx194_0, a4, HR194_0, d3, q194⟩ := al_ HR0.out a3
          cases e194
          obtain ⟨ad195, e195, hx195_0, d4, q195⟩ := ai_ HR194_0.out a1
          cases e195
          obtain ⟨ad196, b5, b6, e196, hx196_0, a9, HR196_0, e5, q196⟩ := al_ HR0.out a3
          obtain rfl := ij_ e196
          obtain ⟨rfl, rfl⟩ := is_ hx194_0 hx196_0
          obtain ⟨ad197, e197, hx197_0, e6, q197⟩ := ai_ HR196_0.out a2
          cases e197
          obtain ⟨ad198, e7, e8, e198, hx198_0, d8, HR198_0, g7, q198⟩ := al_ HR0.out a3
          obtain rfl := ij_ e198
          obtain ⟨rfl, rfl⟩ := is_ hx194_0 hx198_0
          obtain ⟨ad199, e199, hx199_0, g8, q199⟩ := ai_ HR198_0.out a0
          cases e199
          go_wp2
          go_roundg k3
          case measure => have := HK1.out; have := b0.out; have := HK3.out; omega
          case rel => exact ⟨(((rd (rd_L1 l0 a3) a0) == 1)), (wrap64 (a3 + 1)), z5_0, z5_0, H', ⟨z5_2⟩, z5_1⟩
         have H' := ak H
         clear H
         go_wp2
         go_roundg k3
         case measure => have := HK1.out; have := b0.out; have := HK3.out; omega
         case rel => exact ⟨(false), (wrap64 (a3 + 1)), z5_0, z5_0, H', ⟨z5_2⟩, z5_1⟩
        replace H := ox_ H
        rcases H with ⟨rfl, H⟩ | ⟨rfl, H⟩
        ·
         obtain rfl := Option.some.inj H
         go_wp2
         go_ret
         exact ⟨z5_0, z5_1⟩
        have H' := ak H
        clear H
        go_wp2
        go_roundg k3
        case measure => have := HK1.out; have := b0.out; have := HK3.out; omega
        case rel => exact ⟨(wrap64 (a0 + 1)), z5_0, H', ⟨z5_2⟩, z5_1⟩
   obtain rfl := Option.some.inj H
   go_wp2
   go_ret
   exact ⟨z5_0, z5_1⟩

end Go.Proofs.Ytacifhahfamipaa.P

namespace Go.Proofs.Ytacifhahfamipaa.P
open Go.RowKit Go.Proofs.YtacifhahfamipaaW.PrintWords Go.Proofs.YtacifhahfamipaaW.PrintLast Go.Proofs.YtacifhahfamipaaW.PrintMore
attribute [local go_sem] max2_int min2_int max_two min_two max_three min_three max_four min_four
set_option linter.unusedVariables false
set_option linter.unusedSimpArgs false
def impl_turned.T9 : Bool × List (List Nat × List Nat) := (true, [([], []), ([], []), ([0, 1], [0, 1]), ([2], [2]), ([], []), ([], []), ([], []), ([5, 6], [5, 6]), ([7], [7]), ([], []), ([8, 9], [8, 9]), ([10], [10]), ([3, 4, 0, 1, 2, 3, 4, 5, 6, 7, 8, 9, 10, 11], [3, 4]), ([12, 11, 0, 1, 2, 3, 4, 5, 6, 7, 8, 9, 10, 11], [11, 12])])
def impl_turned.B9 : List Nat := [0, 0, 3, 7, 0, 0, 0, 96, 224, 0, 992, 2016, 4095, 8191]
theorem impl_turned.tab9 : rtab .any (opsOf Try.f105 9) = impl_turned.T9 := by kernel_rfl
theorem impl_turned.bits9 : waitsOk impl_turned.T9.2 impl_turned.B9 = true := by kernel_rfl
theorem z7_1 {p : Prop} (h : p := by first | rfl | (simp; done) | (simp [*]; done)) : p := h
theorem z7_0 {p : Prop} (h : p := by repeat (first | (with_reducible first | exact HB.out | apply below_alloc | apply pw_below_drewN | apply below_drew1) | exact HB.out)) : p := h
set_option maxHeartbeats 8000000 in
set_option maxRecDepth 100000 in
theorem impl_turned.calls (k : Nat) (A0 : Option Addr) (c0 : Nat) (l0 : List (List Int)) (r : List (List Int)) (w : World) (hr0 : Kd.C (Kd.slice 3 (Kd.int .i64)) w A0 l0.length l0) (hc0 : l0.length ≤ c0) (h : impl_turned.f k l0 = some r) :
 Calls Try.prog 105 #[.slice A0 l0.length c0] w fun e w' => ∃ v0_ : Value, e = .returned (v0_) ∧ Kd.S (Kd.slice 3 (Kd.int .i64)) 25 w' w.heap.size (fun _ => True) v0_ r ∧ Below w.heap.size w w' := by
 have HR0 := ak hr0
 have f8 := ak hc0
 clear hr0 hc0
 have HB := ak (Below.refl w.heap.size w)
 have H : (if 0 ≤ (l0.length : Int) then (if ((l0.length : Int) : Int).toNat ≤ 11728124029610 then (impl_turned.l0 k l0 (List.replicate ((l0.length : Int) : Int).toNat []) (l0.length : Int) 0) else (none)) else (none)) = some r := h
 clear h
 replace H := ok_ H
 obtain ⟨c2, H⟩ := H
 have b3 := eq_true c2
 have b4 : decide (0 ≤ (l0.length : Int)) = true := dT_ c2
 clear c2
 replace H := ok_ H
 obtain ⟨c3, H⟩ := H
 have b5 := eq_true c3
 have b6 : decide (((l0.length : Int) : Int).toNat ≤ 11728124029610) = true := dT_ c3
 clear c3
 obtain ⟨y177, hy177⟩ : ∃ y_ : List (List Int), y_ = (List.replicate ((l0.length : Int) : Int).toNat []) := ⟨_, rfl⟩
 replace H : (impl_turned.l0 k l0 y177 (l0.length : Int) 0) = some r := by first | (rw [hy177]; with_reducible exact H) | (have H2_ := (Option.bind_some _ _).symm.trans H; rw [hy177]; with_reducible exact H2_) | (have H2_ := (Option.bind_some _ _).symm.trans H; with_reducible exact H2_) | with_reducible exact H | (rw [hy177]; exact H) | exact H
 have Ny177 := ak hy177
 clear hy177
 have H' := ak H
 clear H
 go_enter Try.func105, Try.ntmps105
 go_wp2_with (first | ((with_reducible refine gate_dst (N := 8) rfl ?_); refine Kd.S_make (Kd.slice 3 (Kd.int .i64)) _ 25 rfl (N := 8) rfl 24 _ _ rfl (l0.length : Int) rfl rfl Try.underlying24 (.slice none 0 0) 24 info25 rfl (by decide) (by omega) [] (ok := fun _ => True) (okp := fun _ => True) ⟨_, rfl, Kd.R_nil _ _ _ _ _⟩ (fun _ hk => hk) trivial (oa_) (Nat.le_trans (Nat.mul_le_mul_right _ (oa_ : (l0.length : Int).toNat ≤ 11728124029610)) (by omega)) (Below.refl _ _) (Nat.le_refl _) ?_; intro d8 w4 ho5 hb hg_ hnew_; clear hg_ hnew_; (first | rw [← Ny177.out] at ho5 | (simp only [Int.reduceToNat] at ho5; rw [← Ny177.out] at ho5)); have b7 := ak (Kd.S_lower ho5 (below_size z7_0)); replace HB := ak (below_step z7_0 hb); clear hb ho5))
 go_loopg [11] k (fun kq f5 w' => ∃ (a4 : List (List Int)) (a0 : Int), f5 = .int .i64 a0 ∧ Aside0 (impl_turned.l0 kq l0 a4 (l0.length : Int) a0 = some r) ∧ Aside0 (kq ≤ k) ∧ Aside0 (Kd.S (Kd.slice 3 (Kd.int .i64)) 25 w' w.heap.size (fun _ => True) d8 a4) ∧ Aside0 (Below w.heap.size w w'))
 case atStart => exact ⟨(y177), (0), z7_1, H', ⟨Nat.le_refl _⟩, ⟨(xS b7.out)⟩, ⟨z7_0⟩⟩
 case round =>
  clear H'
  try clear c2
  try clear b3
  try clear b4
  try clear c3
  try clear b5
  try clear b6
  obtain ⟨a4, a0, rfl, HA, HK1, a2, HB⟩ := hrel
  cases gk with
  | zero => exact absurd HA.out (by simp [impl_turned.l0])
  | succ k1 =>
   have H := HA.out
   clear HA
   simp only [impl_turned.l0] at H
   replace H := os_ H
   rcases H with ⟨b8, H⟩ | ⟨b8, H⟩
   ·
    replace H := ok_ H
    obtain ⟨c7, H⟩ := H
    have d9 := eq_true c7
    have e0 : decide (0 ≤ (l0.length : Int)) = true := dT_ c7
    clear c7
    replace H := ok_ H
    obtain ⟨c8, H⟩ := H
    have e1 := eq_true c8
    have e2 : decide (((l0.length : Int) : Int).toNat ≤ 35184372088832) = true := dT_ c8
    clear c8
    obtain ⟨y180, hy180⟩ : ∃ y_ : List Int, y_ = (List.replicate ((l0.length : Int) : Int).toNat 0) := ⟨_, rfl⟩
    replace H : (if 0 ≤ a0 then (if a0 < (a4.length : Int) then (impl_turned.l1 k1 l0 (a4.set (a0 : Int).toNat y180) a0 (l0.length : Int) a0 (l0.length : Int) 0) else (none)) else (none)) = some r := by first | (rw [hy180]; with_reducible exact H) | (have H2_ := (Option.bind_some _ _).symm.trans H; rw [hy180]; with_reducible exact H2_) | (have H2_ := (Option.bind_some _ _).symm.trans H; with_reducible exact H2_) | with_reducible exact H | (rw [hy180]; exact H) | exact H
    have Ny180 := ak hy180
    clear hy180
    replace H := od2 H
    obtain ⟨e3, b9, H⟩ := H
    obtain ⟨y183, hy183⟩ : ∃ y_ : List (List Int), y_ = (a4.set (a0 : Int).toNat y180) := ⟨_, rfl⟩
    replace H : (impl_turned.l1 k1 l0 y183 a0 (l0.length : Int) a0 (l0.length : Int) 0) = some r := by first | (rw [hy183]; with_reducible exact H) | (have H2_ := (Option.bind_some _ _).symm.trans H; rw [hy183]; with_reducible exact H2_) | (have H2_ := (Option.bind_some _ _).symm.trans H; with_reducible exact H2_) | with_reducible exact H | (rw [hy183]; exact H) | exact H
    have Ny183 := ak hy183
    clear hy183
    have H' := ak H
    clear H
    go_wp2_with (first | ((with_reducible refine gate_dst (N := 18) rfl ?_); refine Kd.R_make (Kd.int .i64) _ 3 rfl (N := 18) rfl 25 _ _ rfl (l0.length : Int) rfl rfl Try.underlying25 (.int .i64 0) 8 info3 rfl (by decide) (by omega) 0 (ok := fun _ => True) (okp := fun _ => True) rfl (fun _ hk => hk) trivial (oa_) (Nat.le_trans (Nat.mul_le_mul_right _ (oa_ : (l0.length : Int).toNat ≤ 35184372088832)) (by omega)) (Below.refl _ _) (Nat.le_refl _) ?_; intro a6 e4 ho13 hb hg_ hnew_; clear hg_ hnew_; (first | rw [← Ny180.out] at ho13 | (simp only [Int.reduceToNat] at ho13; rw [← Ny180.out] at ho13)); replace a2 := ak (Kd.S_elder' (xS a2.out) (Kd.R_base ho13) hb); have a5 := ak (Kd.R_lower ho13 (below_size z7_0)); replace HB := ak (below_step z7_0 hb); clear hb ho13; have d5 : 0 ≤ (a0 : Int) := oa_; have q11 : (a0 : Int) < ((a4.length : Int) : Int) := oa_; obtain ⟨go11, a8, d0, d1, gl11, cl11, HG11⟩ := Kd.S_form a2.out (by omega); (first | cases d0 | (injection d0 with ea_ en_ ec_; (first | subst ea_ | (injection ea_ with ea_; subst ea_)); subst ec_; clear en_)); have GB11 := ak d1; have GG11 := ak HG11; clear d1 gl11 HG11; obtain ⟨_, ce11, hcl11, hM11, hcc11, hfr11, _, _⟩ := Kd.S_elem a2.out [] (a0 : Int) d5 q11; obtain ⟨ve11_0, rfl, ge11_0⟩ := hM11; have hx11_0 := hcc11 0 _ rfl; have hf11_0 := hfr11 0; (try simp only [show ((Kd.slice 3 (Kd.int .i64))).sz = 1 from rfl, Nat.mul_one, Nat.add_zero] at hx11_0); (try simp only [show ((Kd.slice 3 (Kd.int .i64))).sz = 1 from rfl, Nat.mul_one, Nat.add_zero] at hf11_0); clear hcl11 hcc11 hfr11; (try clear hM11); replace d5 := eq_true d5; replace q11 := eq_true q11; have n_ := ak (Kd.S_mono (ok' := (fun k_ => some k_ ≠ (a6 : Value).ownBlock)) a2.out (fun k_ hk => hk.2)); clear a2; have a2 := n_; clear n_; have HX14 := ak (show Kd.S (Kd.slice 3 (Kd.int .i64)) 25 e4 w.heap.size (fun k_ => ((fun _ => True)) k_ ∧ ¬ ((fun k_ => some k_ = (a6 : Value).ownBlock)) k_) (.slice (some ⟨go11, 0, none⟩) a4.length a8) a4 from (by (with_reducible repeat (first | apply Kd.S_alloc | apply Kd.S_drewN | apply Kd.S_drew)); exact Kd.S_mono a2.out (fun k_ hk => ⟨trivial, fun e_ => hk e_⟩))); obtain ⟨oki14, ce14, hcl14, hM14, hcc14, hfr14, hoki14, hH14⟩ := Kd.S_elem HX14.out [] (a0 : Int) (oa_) (by have h_ : (a0 : Int) < ((a4.length : Int) : Int) := oa_; first | exact h_ | (have e_ := (Kd.S_reads' a2.out).1; omega) | simpa using h_); obtain ⟨ve14_0, rfl, ge14_0⟩ := hM14; have HP14 := Kd.S_seg hH14 (oa_) (by have h_ : (a0 : Int) < ((a4.length : Int) : Int) := oa_; first | exact h_ | (have e_ := (Kd.S_reads' a2.out).1; omega) | simpa using h_) (seg := [a6]) (j := 0) (show 1 ≤ 1 from by decide) (x' := y180) (Kd.M_row (Kd.R_mono (Kd.R_tight rfl (Kd.R_mono (ok' := fun k_ => ((fun _ => True)) k_ ∧ k_ ≠ go11) (Kd.R_apart' (a5.out) (Kd.S_typed a2.out) (by decide)) (fun k_ hk => ⟨trivial, fun e_ => (hk.2) (by rw [e_]; rfl)⟩))) (fun _ h_ => Or.inr (h_)))) (fun _ hk => hk) (fun k_ hk_ => ((Kd.R_mono (ok' := fun k_ => ((fun _ => True)) k_ ∧ k_ ≠ go11) (Kd.R_apart' (a5.out) (Kd.S_typed a2.out) (by decide)) (fun k_ hk => ⟨trivial, fun e_ => (hk.2) (by rw [e_]; rfl)⟩))).1 k_ hk_.symm); have hx14_0 := hcc14 0 _ rfl; (try simp only [show ((Kd.slice 3 (Kd.int .i64))).sz = 1 from rfl, Nat.mul_one, Nat.add_zero] at hx14_0); have hf14_0 := hfr14 0; (try simp only [show ((Kd.slice 3 (Kd.int .i64))).sz = 1 from rfl, Nat.mul_one, Nat.add_zero] at hf14_0); clear hcl14 hcc14 hfr14 hoki14 hH14; (try clear hM14); (try simp only [show ((Kd.slice 3 (Kd.int .i64))).sz = 1 from rfl, Nat.mul_one, Nat.add_zero] at HP14)) | ((with_reducible refine gate_store (t := 25) (p := 19) rfl ?_); refine store_event (t := 25) (p := 19) (v := ?vo_w15) (w1 := (e4.setCell ⟨go11, (a0 : Int).toNat, none⟩ (a6))) ?hg ?ho ?hn ?hr ?_; (case ho => rfl); (case hg => rfl); (case hn => rfl); (case hr => first | (go_simp; done) | (go_simp; rfl) | (obtain ⟨_, _, e_⟩ := Kd.R_slice a5.out; rw [e_]; first | (go_simp; done) | (go_simp; rfl))); intro e5 hw; have hg : e4.grownBy e5 (some go11) := (by rw [hw]; exact HP14.2); have hp_ : Kd.S (Kd.slice 3 (Kd.int .i64)) 25 e5 w.heap.size (fun _ => True) (.slice (some ⟨go11, 0, none⟩) a4.length a8) y183 := (by rw [hw, Ny183.out]; exact HP14.1); clear HP14; replace a2 := ak (hp_); replace HB := ak ((by rw [hw]; exact below_set (HB.out) GB11.out : Below w.heap.size w e5)); clear a5; clear hg hw hp_))
    go_loopg [22] k1 (fun kq f6 w' => ∃ (a3 : List (List Int)) (a1 : Int), f6 = .int .i64 a1 ∧ Aside0 (impl_turned.l1 kq l0 a3 a0 (l0.length : Int) a0 (l0.length : Int) a1 = some r) ∧ Aside0 (kq ≤ k1) ∧ Aside0 (Kd.S (Kd.slice 3 (Kd.int .i64)) 25 w' w.heap.size (fun _ => True) (.slice (some ⟨go11, 0, none⟩) a4.length a8) a3) ∧ Aside0 (Below w.heap.size w w'))
    case atStart => exact ⟨(y183), (0), z7_1, H', ⟨Nat.le_refl _⟩, ⟨(xS a2.out)⟩, ⟨z7_0⟩⟩
    case round =>
     clear H'
     try clear c2
     try clear b3
     try clear b4
     try clear c3
     try clear b5
     try clear b6
     try clear c6
     try clear b8
     try clear c7
     try clear d9
     try clear e0
     try clear c8
     try clear e1
     try clear e2
     try clear c9
     try clear e3
     try clear f9
     try clear b9
     try clear d5
     try clear q11
     try clear hx11_0
     try clear hx14_0
     obtain ⟨a3, a1, rfl, HA, HK2, a2, HB⟩ := hrel
     have hl3_2 := (Kd.S_reads' a2.out).1
     rw [hl3_2] at a2
     (try simp only [hl3_2])
     cases gk with
     | zero => exact absurd HA.out (by simp [impl_turned.l1])
     | succ k2 =>
      have H := HA.out
      clear HA
      simp only [impl_turned.l1] at H
      replace H := os_ H
      rcases H with ⟨d2, H⟩ | ⟨d2, H⟩
      ·
       replace H := od6 H
       obtain ⟨e9, f0, f1, f2, f3, f4, H⟩ := H
       obtain ⟨y187, hy187⟩ : ∃ y_ : List Int, y_ = ((rd_L1 a3 a0).set (a1 : Int).toNat (rd (rd_L1 l0 a1) a0)) := ⟨_, rfl⟩
       replace H : (impl_turned.l1 k2 l0 (a3.set (a0 : Int).toNat y187) a0 (l0.length : Int) a0 (l0.length : Int) (wrap64 (a1 + 1))) = some r := by first | (rw [hy187]; with_reducible exact H) | (have H2_ := (Option.bind_some _ _).symm.trans H; rw [hy187]; with_reducible exact H2_) | (have H2_ := (Option.bind_some _ _).symm.trans H; with_reducible exact H2_) | with_reducible exact H | (rw [hy187]; exact H) | exact H
       have Ny187 := ak hy187
       clear hy187
       obtain ⟨y189, hy189⟩ : ∃ y_ : List (List Int), y_ = (a3.set (a0 : Int).toNat y187) := ⟨_, rfl⟩
       replace H : (impl_turned.l1 k2 l0 y189 a0 (l0.length : Int) a0 (l0.length : Int) (wrap64 (a1 + 1))) = some r := by first | (rw [hy189]; with_reducible exact H) | (have H2_ := (Option.bind_some _ _).symm.trans H; rw [hy189]; with_reducible exact H2_) | (have H2_ := (Option.bind_some _ _).symm.trans H; with_reducible exact H2_) | with_reducible exact H | (rw [hy189]; exact H) | exact H
       have Ny189 := ak hy189
       clear hy189
       have H' := ak H
       clear H
       try go_wp2
       replace a2 := ak (Kd.S_drew a2.out)
       replace HB := ak (below_drew1 HB.out)
       have a7 : 0 ≤ (a0 : Int) := oa_
       have q184 : a0 < (a3.length : Int) := oa_
       obtain ⟨ad184, e6, a9, e184, hx184_0, hl184_0, hi184_0⟩ := at_L1 (Kd.S_reads' a2.out).2.2 a0 a7 q184
       obtain rfl : (⟨go11, 0, none⟩ : Addr) = ad184 := (by injection e184)
       obtain ⟨ce184, hce184, hMe184, hcc184⟩ := Kd.S_get a2.out [] a0 a7 (by first | exact q184 | exact oa_ | (have e_ := (Kd.S_reads' a2.out).1; omega))
       obtain ⟨ve184_0, rfl, ge184_0⟩ := hMe184
       have hv184_0 := hcc184 0 _ rfl
       rw [Nat.add_zero, show ((Kd.slice 3 (Kd.int .i64))).sz = 1 from rfl, Nat.mul_one] at hv184_0
       replace hv184_0 := Option.some.inj (hv184_0.symm.trans hx184_0)
       rw [hv184_0] at ge184_0
       have HL184_0 := ak (show Kd.R (Kd.int .i64) 3 _ _ _ _ (rd_L1 a3 a0) from ge184_0)
       clear hv184_0 ge184_0
       have HX184_0 := ak hx184_0
       clear hcc184 hce184
       (first | simp only [add_plain] at hx184_0 | simp only [add_at] at hx184_0 | simp only [Addr.add, Nat.zero_add] at hx184_0 | skip)
       have HR184_0 := ak hi184_0
       have d6 := ak hl184_0
       clear hi184_0 hl184_0
       replace a7 := eq_true a7
       replace q184 := eq_true q184
       have b0 : 0 ≤ (a1 : Int) := oa_
       have q185 : a1 < (l0.length : Int) := oa_
       obtain ⟨ad185, e7, b1, e185, hx185_0, hl185_0, hi185_0⟩ := at_L1 HR0.out a1 b0 q185
       have hw185_0 := hx185_0
       cases e185
       replace hx185_0 := (HB.out.cell (World.block_lt_of_cell? w _ hx185_0)).trans hx185_0
       have HR185_0 := ak hi185_0
       have d7 := ak hl185_0
       clear hi185_0 hl185_0
       replace b0 := eq_true b0
       replace q185 := eq_true q185
       have b2 : 0 ≤ (a0 : Int) := oa_
       have q186 : a0 < ((rd_L1 l0 a1).length : Int) := oa_
       obtain ⟨ad186, e186, hx186_0⟩ := Kd.at_int HR185_0.out a0 b2 q186
       have hw186_0 := hx186_0
       cases e186
       replace hx186_0 := (HB.out.cell (World.block_lt_of_cell? w _ hx186_0)).trans hx186_0
       replace b2 := eq_true b2
       replace q186 := eq_true q186
       have e8 : 0 ≤ (a1 : Int) := oa_
       have q23 : (a1 : Int) < (((rd_L1 a3 a0).length : Int) : Int) := oa_
       obtain ⟨go23, f7, d3, d4, gl23, cl23, HG23⟩ := Kd.R_form HL184_0.out (by omega)
       (first | cases d3 | (injection d3 with ea_ en_ ec_; (first | subst ea_ | (injection ea_ with ea_; subst ea_)); subst ec_; clear en_))
       have GB23 := ak d4
       have GG23 := ak HG23
       clear d4 gl23 HG23
       obtain ⟨hx23_0, hf23_0⟩ := Kd.R_celln 0 HL184_0.out (a1 : Int) e8 q23
       replace e8 := eq_true e8
       replace q23 := eq_true q23
       have hq25 : (a0 : Int) < (a3.length : Int) := (by have h_ : (a0 : Int) < ((a3.length : Int) : Int) := oa_; first | exact h_ | (have e_ := (Kd.S_reads' a2.out).1; omega) | simpa only [List.length_set, List.length_set] using h_)
       obtain ⟨oki25, ce25, hcl25, hM25, hcc25, hok25, hbk25⟩ := Kd.S_borrow a2.out [] (a0 : Int) (oa_) hq25
       obtain ⟨ve25_0, rfl, ge25_0⟩ := hM25
       have hv25 := hcc25 0 _ rfl
       rw [Nat.add_zero, show ((Kd.slice 3 (Kd.int .i64))).sz = 1 from rfl, Nat.mul_one] at hv25
       replace hv25 := Option.some.inj (hv25.symm.trans HX184_0.out)
       subst hv25
       clear hcc25 hcl25
       replace ge25_0 := (show Kd.R (Kd.int .i64) 3 _ _ _ _ (rd_L1 a3 a0) from ge25_0)
       have HP25 := Kd.R_putg ge25_0 (a1 : Int) (rd (rd_L1 l0 a1) a0)
       rw [← Ny187.out] at HP25
       have HS25 := hbk25 HP25.2 (fun k_ e_ => by injection e_ with e_; subst e_; exact ge25_0.1 _ rfl) (x' := y187) (Kd.M_row HP25.1)
       rw [← Ny189.out] at HS25
       have HQ25 := ak HS25
       clear HP25 HS25 hbk25 hok25
       refine start_ (n := 14) (S := fun w' => w'.cell? ⟨go11, (a0).toNat, none⟩ = some (.slice (some ⟨go23, 0, none⟩) (rd_L1 a3 a0).length a9) ∧ w'.cell? (ad185.add (a1).toNat) = some (.slice (some ad186) (rd_L1 l0 a1).length b1) ∧ w'.cell? (ad186.add (a0).toNat) = some (.int .i64 (rd (rd_L1 l0 a1) a0))) (ds := [13]) (bA 14 0) (by kernel_rfl) rfl rfl ⟨hx184_0, ((HB.out.cell (World.block_lt_of_cell? w _ hw185_0)).trans hw185_0), ((HB.out.cell (World.block_lt_of_cell? w _ hw186_0)).trans hw186_0)⟩ (fun hHeld => ?_); refine with_tabW impl_turned.tab9 impl_turned.bits9 (fun HT_ HW_ => ?_)
       generalize wr.drew = g0 at a2 HB GG23 HL184_0 HQ25 HR184_0 HR185_0 HX184_0 hf23_0 hx184_0 hx185_0 hx186_0 hx23_0 hHeld ⊢
       refine pu_ (i := 0) (N := some 25) (bA 14 1) ?_
       refine pu_ (i := 1) (N := some 26) (bA 14 3) ?_
       refine pu_ (i := 2) (N := some 27) (bA 14 7) ?_
       refine pu_ (i := 4) (N := some 29) (bA 14 23) ?_
       refine pu_ (i := 5) (N := some 30) (bA 14 55) ?_
       refine pu_ (i := 6) (N := some 31) (bA 14 119) ?_
       refine pu_ (i := 7) (N := some 32) (bA 14 247) ?_
       refine pu_ (i := 9) (N := some 34) (bA 14 759) ?_
       refine tk_ (i := 3) (N := some 28) (bA 14 767) ?_
       refine tk_ (i := 8) (N := some 33) (bA 14 1023) ?_
       refine pu_ (i := 10) (N := some 35) (bA 14 2047) ?_
       refine tk_ (i := 11) (N := some 36) (bA 14 4095) ?_
       refine pu_ (i := 12) (N := some 37) (bA 14 8191) ?_
       refine last_ (i := 13) (N := none) (bA 14 16383) rfl rfl (one_of HT_.out (by kernel_rfl)) (by decide) (fun K hK => ?_)
       refine skip_ (w1 := ?_) (by rfl) rfl ?_ ?_
       rotate_left
       ·
        go_simp
        rfl
       refine hK.out _ _ ?_
       clear hK K
       refine done_ (done_of HT_.out (by kernel_rfl)) ?_
       try go_wp2
       (try simp only [← hl3_2])
       go_roundg k2
       case measure => have := HK1.out; have := HK2.out; omega
       case rel => exact ⟨(y189), (wrap64 (a1 + 1)), z7_1, H', ⟨(by have := HK1.out; have := HK2.out; omega)⟩, ⟨(by (try simp only [hl3_2]); (with_reducible repeat (first | apply Kd.S_alloc | apply Kd.S_drewN | apply Kd.S_drew)); exact HQ25.out)⟩, ⟨(by repeat (first | (with_reducible first | exact HB.out | apply below_alloc | apply pw_below_drewN | apply below_drew1 | refine below_set ?_ GB23.out) | exact HB.out))⟩⟩
      have H' := ak H
      clear H
      go_wp2
      (try simp only [← hl3_2])
      go_roundg k2
      case measure => have := HK1.out; have := HK2.out; omega
      case rel => exact ⟨(a3), (wrap64 (a0 + 1)), z7_1, H', ⟨(by have := HK1.out; have := HK2.out; omega)⟩, ⟨(by (try simp only [hl3_2]); (with_reducible repeat (first | apply Kd.S_alloc | apply Kd.S_drewN | apply Kd.S_drew)); exact a2.out)⟩, ⟨z7_0⟩⟩
   obtain rfl := Option.some.inj H
   go_wp2
   go_ret
   exact ⟨_, (by first | rfl | (simp [errW_none, errW_some] <;> rfl) | (simp [*, errW_none, errW_some] <;> rfl)), (xS a2.out), z7_0⟩

end Go.Proofs.Ytacifhahfamipaa.P

namespace Go.Proofs.Ytacifhahfamipaa.P
open Go.RowKit Go.Proofs.YtacifhahfamipaaW.PrintWords Go.Proofs.YtacifhahfamipaaW.PrintLast Go.Proofs.YtacifhahfamipaaW.PrintMore
attribute [local go_sem] max2_int min2_int max_two min_two max_three min_three max_four min_four
set_option linter.unusedVariables false
set_option linter.unusedSimpArgs false
theorem z3_2 {p : Prop} (h : p := by first | rfl | (simp; done) | (simp [*]; done)) : p := h
theorem z3_1 {p : Prop} (h : p := by first | rfl | (simp [errW_none, errW_some] <;> rfl) | (simp [*, errW_none, errW_some] <;> rfl)) : p := h
theorem z3_0 {p : Prop} (h : p := by repeat (first | (with_reducible first | exact HB.out | apply below_alloc | apply pw_below_drewN | apply below_drew1) | exact HB.out)) : p := h
set_option maxHeartbeats 8000000 in
set_option maxRecDepth 100000 in
theorem impl_LatticeOk.calls (k : Nat) (A0 : Option Addr) (c0 : Nat) (l0 : List (List Int)) (r : Bool) (w : World) (hr0 : Kd.C (Kd.slice 3 (Kd.int .i64)) w A0 l0.length l0) (hc0 : l0.length ≤ c0) (h : impl_LatticeOk.f k l0 = some r) :
 Calls Try.prog 104 #[.slice A0 l0.length c0] w fun e w' => e = .returned (.bool r) ∧ Below w.heap.size w w' := by
 have HR0 := ak hr0
 have a5 := ak hc0
 clear hr0 hc0
 have HB := ak (Below.refl w.heap.size w)
 have H : ((impl_OrderOk.f k l0).bind fun a6 => (if a6 = true then ((impl_turned.f k l0).bind fun a3 => (impl_LatticeOk.l0 k l0 a3 (l0.length : Int) 0)) else (some false))) = some r := h
 clear h
 obtain ⟨a6, A2, H⟩ := bd_ H
 try dsimp only at H
 replace H := ox_ H
 rcases H with ⟨rfl, H⟩ | ⟨rfl, H⟩
 ·
  obtain ⟨a3, A4, H⟩ := bd_ H
  try dsimp only at H
  have H' := ak H
  clear H
  go_enter Try.func104, Try.ntmps104
  go_wp2_with (first | ((with_reducible refine gate_callee (f := 67) rfl ?_); refine gl_ (some 7) Try.func67 #[.slice A0 l0.length c0] ?_; (with_reducible refine (impl_OrderOk.calls k _ _ l0 true _ (y4 HR0.out) a5.out A2.out).mono ?_); rintro e w' ⟨rfl, ⟨nd, rfl⟩⟩; refine ⟨_, rfl, ?_⟩) | ((with_reducible refine gate_callee (f := 105) rfl ?_); refine gl_ (some 10) Try.func105 #[.slice A0 l0.length c0] ?_; (with_reducible refine (impl_turned.calls k _ _ l0 a3 _ (y4 HR0.out) a5.out A4.out).mono ?_); rintro e w' ⟨a7, rfl, ho0, hb⟩; refine ⟨_, rfl, ?_⟩; have a8 := ak (Kd.S_lower ho0 (below_size z3_0)); replace HB := ak (below_step z3_0 hb); (try clear hb); (try clear hb2); (try clear hk); (try clear hi); (try clear ho0)))
  go_loopg [13] k (fun kq b7 w' => ∃ (a0 : Int), b7 = .int .i64 a0 ∧ Aside0 (impl_LatticeOk.l0 kq l0 a3 (l0.length : Int) a0 = some r) ∧ Aside0 (kq ≤ k) ∧ Aside0 (Kd.S (Kd.slice 3 (Kd.int .i64)) 25 w' w.heap.size (fun _ => True) a7 a3) ∧ Aside0 (Below w.heap.size w w'))
  case atStart => exact ⟨(0), z3_2, H', ⟨Nat.le_refl _⟩, ⟨(xS a8.out)⟩, ⟨z3_0⟩⟩
  case round =>
   clear H'
   try clear c3
   obtain ⟨a0, rfl, HA, HK1, a2, HB⟩ := hrel
   cases gk with
   | zero => exact absurd HA.out (by simp [impl_LatticeOk.l0])
   | succ k1 =>
    have H := HA.out
    clear HA
    simp only [impl_LatticeOk.l0] at H
    replace H := os_ H
    rcases H with ⟨a9, H⟩ | ⟨a9, H⟩
    ·
     have H' := ak H
     clear H
     go_wp2
     go_loopg [18] k1 (fun kq b8 w' => ∃ (a1 : Int), b8 = .int .i64 a1 ∧ Aside0 (impl_LatticeOk.l1 kq l0 a3 a0 (l0.length : Int) a0 (l0.length : Int) a1 = some r) ∧ Aside0 (kq ≤ k1) ∧ Aside0 (Kd.S (Kd.slice 3 (Kd.int .i64)) 25 w' w.heap.size (fun _ => True) a7 a3) ∧ Aside0 (Below w.heap.size w w'))
     case atStart => exact ⟨(0), z3_2, H', ⟨Nat.le_refl _⟩, ⟨(xS a2.out)⟩, ⟨z3_0⟩⟩
     case round =>
      clear H'
      try clear c3
      try clear c6
      try clear a9
      obtain ⟨a1, rfl, HA, HK2, a2, HB⟩ := hrel
      cases gk with
      | zero => exact absurd HA.out (by simp [impl_LatticeOk.l1])
      | succ k2 =>
       have H := HA.out
       clear HA
       simp only [impl_LatticeOk.l1] at H
       replace H := os_ H
       rcases H with ⟨b2, H⟩ | ⟨b2, H⟩
       ·
        obtain ⟨a4, A8, H⟩ := bd_ H
        try dsimp only at H
        replace H := os_ H
        rcases H with ⟨b3, H⟩ | ⟨b3, H⟩
        ·
         obtain rfl := Option.some.inj H
         go_wp2_with (first | ((with_reducible refine gate_callee (f := 106) rfl ?_); refine gl_ (some 24) Try.func106 #[.slice A0 l0.length c0, .int .i64 a0, .int .i64 a1] ?_; (with_reducible refine (impl_meet.calls k2 _ _ l0 a0 a1 a4 _ (y3 HR0.out HB.out) a5.out A8.out).mono ?_); rintro e w' ⟨rfl, ⟨nd, rfl⟩⟩; refine ⟨_, rfl, ?_⟩))
         go_ret
         exact ⟨z3_1, z3_0⟩
        obtain ⟨b0, b6, H⟩ := bd_ H
        try dsimp only at H
        replace H := os_ H
        rcases H with ⟨b1, H⟩ | ⟨b1, H⟩
        ·
         obtain rfl := Option.some.inj H
         go_wp2_with (first | ((with_reducible refine gate_callee (f := 106) rfl ?_); refine gl_ (some 24) Try.func106 #[.slice A0 l0.length c0, .int .i64 a0, .int .i64 a1] ?_; (with_reducible refine (impl_meet.calls k2 _ _ l0 a0 a1 a4 _ (y3 HR0.out HB.out) a5.out A8.out).mono ?_); rintro e w' ⟨rfl, ⟨nd, rfl⟩⟩; refine ⟨_, rfl, ?_⟩; obtain ⟨b9, d0, b4⟩ := Kd.S_slice a2.out; subst b4) | (go_at_call 106; (with_reducible refine (impl_meet.calls k2 _ _ a3 a0 a1 b0 _ (y1 a2.out) (y2 a2.out) b6.out).mono ?_); rintro e w' ⟨rfl, ⟨nd, rfl⟩⟩))
         go_ret
         exact ⟨z3_1, z3_0⟩
        have H' := ak H
        clear H
        go_wp2_with (first | ((with_reducible refine gate_callee (f := 106) rfl ?_); refine gl_ (some 24) Try.func106 #[.slice A0 l0.length c0, .int .i64 a0, .int .i64 a1] ?_; (with_reducible refine (impl_meet.calls k2 _ _ l0 a0 a1 a4 _ (y3 HR0.out HB.out) a5.out A8.out).mono ?_); rintro e w' ⟨rfl, ⟨nd, rfl⟩⟩; refine ⟨_, rfl, ?_⟩; obtain ⟨d1, d2, b5⟩ := Kd.S_slice a2.out; subst b5) | (go_at_call 106; (with_reducible refine (impl_meet.calls k2 _ _ a3 a0 a1 b0 _ (y1 a2.out) (y2 a2.out) b6.out).mono ?_); rintro e w' ⟨rfl, ⟨nd, rfl⟩⟩))
        go_roundg k2
        case measure => have := HK1.out; have := HK2.out; omega
        case rel => exact ⟨(wrap64 (a1 + 1)), z3_2, H', ⟨(by have := HK1.out; have := HK2.out; omega)⟩, ⟨(xS a2.out)⟩, ⟨z3_0⟩⟩
       have H' := ak H
       clear H
       go_wp2
       go_roundg k2
       case measure => have := HK1.out; have := HK2.out; omega
       case rel => exact ⟨(wrap64 (a0 + 1)), z3_2, H', ⟨(by have := HK1.out; have := HK2.out; omega)⟩, ⟨(xS a2.out)⟩, ⟨z3_0⟩⟩
    obtain rfl := Option.some.inj H
    go_wp2
    go_ret
    exact ⟨z3_1, z3_0⟩
 obtain rfl := Option.some.inj H
 go_enter Try.func104, Try.ntmps104
 go_wp2_with (first | ((with_reducible refine gate_callee (f := 67) rfl ?_); refine gl_ (some 7) Try.func67 #[.slice A0 l0.length c0] ?_; (with_reducible refine (impl_OrderOk.calls k _ _ l0 false _ (y4 HR0.out) a5.out A2.out).mono ?_); rintro e w' ⟨rfl, ⟨nd, rfl⟩⟩; refine ⟨_, rfl, ?_⟩))
 go_ret
 exact ⟨z3_1, z3_0⟩

end Go.Proofs.Ytacifhahfamipaa.P
