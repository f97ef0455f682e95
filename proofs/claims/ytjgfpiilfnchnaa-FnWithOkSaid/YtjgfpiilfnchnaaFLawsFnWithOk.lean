-- written by gen.py (a program of this session) out of the kit's print of this seat's translation
import Derived.Test.YtjgfpiilfnchnaaPk2
import Derived.Test.YtjgfpiilfnchnaaFLawsAlive
import Derived.Test.YtjgfpiilfnchnaaFSpecAndOf
import Derived.Test.YtjgfpiilfnchnaaFSpecDrawWithOk
import Derived.Test.YtjgfpiilfnchnaaFSpecWithOk
import Derived.Test.YtjgfpiilfnchnaaV1
import Derived.Test.YtjgfpiilfnchnaaV3
namespace Go.Proofs.Ytjgfpiilfnchnaa.P
open Go.RowKit Go.Proofs.YtjgfpiilfnchnaaW.PrintWords Go.Proofs.YtjgfpiilfnchnaaW.PrintLast Go.Proofs.YtjgfpiilfnchnaaW.PrintMore
attribute [local go_sem] max2_int min2_int max_two min_two max_three min_three max_four min_four
set_option linter.unusedVariables false
set_option linter.unusedSimpArgs false
def laws_FnWithOk.T9 : Bool × List (List Nat × List Nat) := (true, [([], []), ([], []), ([], []), ([0, 1, 2], [0, 1, 2]), ([3, 3], [3]), ([4], [4]), ([4], [4]), ([4], [4]), ([4], [4]), ([7, 8, 4, 4], [4, 7, 8]), ([5, 6, 9, 9, 4], [4, 5, 6, 9]), ([4, 10], [4, 10]), ([11, 10], [11]), ([12], [12]), ([12], [12]), ([12], [12]), ([15, 12, 12], [12, 15]), ([13, 14, 16, 16, 12], [12, 13, 14, 16]), ([12, 17], [12, 17]), ([18, 17], [18]), ([19], [19]), ([19], [19]), ([19], [19]), ([22, 19, 19], [19, 22]), ([20, 21, 23, 23, 19], [19, 20, 21, 23]), ([19, 24], [19, 24]), ([25, 24], [25]), ([26], [26]), ([27, 26], [26, 27]), ([26], [26]), ([28, 29, 26], [26, 28, 29]), ([30, 26], [26, 30]), ([26], [26]), ([31, 32, 26], [26, 31, 32]), ([33, 26], [26, 33]), ([34, 26], [26, 34]), ([35, 26, 26], [26, 35]), ([36], [36]), ([36, 37, 26], [26, 36, 37]), ([26, 38], [26, 38]), ([39, 36], [39]), ([40], [40]), ([40], [40]), ([40], [40]), ([40], [40]), ([43, 44, 40, 40], [40, 43, 44]), ([41, 42, 45, 45, 40], [40, 41, 42, 45]), ([40], [40]), ([46, 47, 40], [40, 46, 47]), ([40, 48], [40, 48]), ([49, 46, 0, 1, 2, 3, 4, 5, 6, 7, 8, 9, 10, 11, 12, 13, 14, 15, 16, 17, 18, 19, 20, 21, 22, 23, 24, 25, 26, 27, 28, 29, 30, 31, 32, 33, 34, 35, 36, 37, 38, 39, 40, 41, 42, 43, 44, 45, 46, 47, 48, 49], [49])])
def laws_FnWithOk.B9 : List Nat := [0, 0, 0, 7, 15, 31, 31, 31, 31, 415, 1023, 2047, 4095, 8191, 8191, 8191, 40959, 131071, 262143, 524287, 1048575, 1048575, 1048575, 5242879, 16777215, 33554431, 67108863, 134217727, 268435455, 134217727, 1073741823, 2147483647, 134217727, 8589934591, 17179869183, 34359738367, 68719476735, 137438953471, 274877906943, 549755813887, 1099511627775, 2199023255551, 2199023255551, 2199023255551, 2199023255551, 28587302322175, 70368744177663, 2199023255551, 281474976710655, 562949953421311, 1125899906842623]
theorem laws_FnWithOk.tab9 : rtab .any (opsOf Try.f11 9) = laws_FnWithOk.T9 := by kernel_rfl
theorem laws_FnWithOk.bits9 : waitsOk laws_FnWithOk.T9.2 laws_FnWithOk.B9 = true := by kernel_rfl
theorem zk_26 {p : Prop} (h : p := by first | exact q864 | exact oa_ | (have e_ := (Kd.S_reads' a2.out).1; omega)) : p := h
theorem zk_25 {p : Prop} (h : p := by decide) : p := h
theorem zk_24 {p : Prop} (h : p := by (with_reducible repeat (first | apply Kd.Q_alloc | apply Kd.Q_drewN | apply Kd.Q_drew)); exact (Kd.Q_mono (Kd.Q_far (p := ⟨a6, 1, none⟩) (Kd.Q_far (p := ⟨a6, 0, none⟩) (Kd.Q_types a3.out a1.out (by decide)) (fun _ hk => hk.2) (.slice i2 a4.length i1)) (fun _ hk => hk.2) (.slice h4 a5.length h3)) (fun _ h_ => h_.1))) : p := h
theorem zk_23 {p : Prop} (h : p := by (with_reducible repeat (first | apply Kd.S_alloc | apply Kd.S_drewN | apply Kd.S_drew)); exact (Kd.S_mono (Kd.S_far (p := ⟨a6, 1, none⟩) (Kd.S_far (p := ⟨a6, 0, none⟩) (Kd.S_types a2.out a1.out (by decide)) (fun _ hk => hk.2) (.slice i2 a4.length i1)) (fun _ hk => hk.2) (.slice h4 a5.length h3)) (fun _ h_ => h_.1))) : p := h
theorem zk_22 {p : Prop} (h : p := by (with_reducible repeat (first | apply Kd.Q_alloc | apply Kd.Q_drewN | apply Kd.Q_drew)); exact (Kd.Q_mono (Kd.Q_far (p := ⟨a6, 1, none⟩) (Kd.Q_far (p := ⟨a6, 0, none⟩) (Kd.Q_types a3.out a1.out (by decide)) (fun _ hk => hk.2) (.slice g4 a4.length g0)) (fun _ hk => hk.2) (.slice g5 a5.length g1)) (fun _ h_ => h_.1))) : p := h
theorem zk_21 {p : Prop} (h : p := by (with_reducible repeat (first | apply Kd.Q_alloc | apply Kd.Q_drewN | apply Kd.Q_drew)); exact (Kd.Q_mono (Kd.Q_far (p := ⟨a6, 1, none⟩) (Kd.Q_far (p := ⟨a6, 0, none⟩) (Kd.Q_types a3.out a1.out (by decide)) (fun _ hk => hk.2) (.slice g6 a4.length g2)) (fun _ hk => hk.2) (.slice g7 a5.length g3)) (fun _ h_ => h_.1))) : p := h
theorem zk_20 {p : Prop} (h : p := by (with_reducible repeat (first | apply Kd.Q_alloc | apply Kd.Q_drewN | apply Kd.Q_drew)); exact (Kd.Q_mono (Kd.Q_far (p := ⟨a6, 1, none⟩) (Kd.Q_far (p := ⟨a6, 0, none⟩) (Kd.Q_types a3.out a1.out (by decide)) (fun _ hk => hk.2) (.slice g8 a4.length d5)) (fun _ hk => hk.2) (.slice d9 a5.length d6)) (fun _ h_ => h_.1))) : p := h
theorem zk_19 {p : Prop} (h : p := by (with_reducible repeat (first | apply Kd.Q_alloc | apply Kd.Q_drewN | apply Kd.Q_drew)); exact (Kd.Q_mono (Kd.Q_far (p := ⟨a6, 1, none⟩) (Kd.Q_far (p := ⟨a6, 0, none⟩) (Kd.Q_types a3.out a1.out (by decide)) (fun _ hk => hk.2) (.slice g9 a4.length d7)) (fun _ hk => hk.2) (.slice e0 a5.length d8)) (fun _ h_ => h_.1))) : p := h
theorem zk_18 {p : Prop} (h : p := by (with_reducible repeat (first | apply Kd.S_alloc | apply Kd.S_drewN | apply Kd.S_drew)); exact (Kd.S_mono (Kd.S_far (p := ⟨a6, 1, none⟩) (Kd.S_far (p := ⟨a6, 0, none⟩) (Kd.S_types a2.out a1.out (by decide)) (fun _ hk => hk.2) (.slice g4 a4.length g0)) (fun _ hk => hk.2) (.slice g5 a5.length g1)) (fun _ h_ => h_.1))) : p := h
theorem zk_17 {p : Prop} (h : p := by (with_reducible repeat (first | apply Kd.S_alloc | apply Kd.S_drewN | apply Kd.S_drew)); exact (Kd.S_mono (Kd.S_far (p := ⟨a6, 1, none⟩) (Kd.S_far (p := ⟨a6, 0, none⟩) (Kd.S_types a2.out a1.out (by decide)) (fun _ hk => hk.2) (.slice g6 a4.length g2)) (fun _ hk => hk.2) (.slice g7 a5.length g3)) (fun _ h_ => h_.1))) : p := h
theorem zk_16 {p : Prop} (h : p := by (with_reducible repeat (first | apply Kd.S_alloc | apply Kd.S_drewN | apply Kd.S_drew)); exact (Kd.S_mono (Kd.S_far (p := ⟨a6, 1, none⟩) (Kd.S_far (p := ⟨a6, 0, none⟩) (Kd.S_types a2.out a1.out (by decide)) (fun _ hk => hk.2) (.slice g8 a4.length d5)) (fun _ hk => hk.2) (.slice d9 a5.length d6)) (fun _ h_ => h_.1))) : p := h
theorem zk_15 {p : Prop} (h : p := by (with_reducible repeat (first | apply Kd.S_alloc | apply Kd.S_drewN | apply Kd.S_drew)); exact (Kd.S_mono (Kd.S_far (p := ⟨a6, 1, none⟩) (Kd.S_far (p := ⟨a6, 0, none⟩) (Kd.S_types a2.out a1.out (by decide)) (fun _ hk => hk.2) (.slice g9 a4.length d7)) (fun _ hk => hk.2) (.slice e0 a5.length d8)) (fun _ h_ => h_.1))) : p := h
theorem zk_14 {p : Prop} (h : p := by (with_reducible repeat (first | apply Kd.Q_alloc | apply Kd.Q_drewN | apply Kd.Q_drew)); exact (Kd.Q_mono (Kd.Q_far (p := ⟨a6, 1, none⟩) (Kd.Q_far (p := ⟨a6, 0, none⟩) (Kd.Q_types a3.out a1.out (by decide)) (fun _ hk => hk.2) (.slice f4 a4.length b4)) (fun _ hk => hk.2) (.slice b8 a5.length b5)) (fun _ h_ => h_.1))) : p := h
theorem zk_13 {p : Prop} (h : p := by (with_reducible repeat (first | apply Kd.Q_alloc | apply Kd.Q_drewN | apply Kd.Q_drew)); exact (Kd.Q_mono (Kd.Q_far (p := ⟨a6, 1, none⟩) (Kd.Q_far (p := ⟨a6, 0, none⟩) (Kd.Q_types a3.out a1.out (by decide)) (fun _ hk => hk.2) (.slice b9 a4.length b6)) (fun _ hk => hk.2) (.slice d0 a5.length b7)) (fun _ h_ => h_.1))) : p := h
theorem zk_12 {p : Prop} (h : p := by (with_reducible repeat (first | apply Kd.Q_alloc | apply Kd.Q_drewN | apply Kd.Q_drew)); exact (Kd.Q_mono (Kd.Q_far (p := ⟨a6, 1, none⟩) (Kd.Q_far (p := ⟨a6, 0, none⟩) (Kd.Q_types a3.out a1.out (by decide)) (fun _ hk => hk.2) (.slice d3 a4.length d1)) (fun _ hk => hk.2) (.slice d4 a5.length d2)) (fun _ h_ => h_.1))) : p := h
theorem zk_11 {p : Prop} (h : p := by (with_reducible repeat (first | apply Kd.Q_alloc | apply Kd.Q_drewN | apply Kd.Q_drew)); exact (Kd.Q_mono (Kd.Q_far (p := ⟨a6, 1, none⟩) (Kd.Q_far (p := ⟨a6, 0, none⟩) (Kd.Q_types a3.out a1.out (by decide)) (fun _ hk => hk.2) (.slice e3 a4.length e1)) (fun _ hk => hk.2) (.slice e4 a5.length e2)) (fun _ h_ => h_.1))) : p := h
theorem zk_10 {p : Prop} (h : p := by (with_reducible repeat (first | apply Kd.Q_alloc | apply Kd.Q_drewN | apply Kd.Q_drew)); exact (Kd.Q_mono (Kd.Q_far (p := ⟨a6, 1, none⟩) (Kd.Q_far (p := ⟨a6, 0, none⟩) (Kd.Q_types a3.out a1.out (by decide)) (fun _ hk => hk.2) (.slice f0 a4.length e5)) (fun _ hk => hk.2) (.slice f1 a5.length e6)) (fun _ h_ => h_.1))) : p := h
theorem zk_9 {p : Prop} (h : p := by (with_reducible repeat (first | apply Kd.S_alloc | apply Kd.S_drewN | apply Kd.S_drew)); exact (Kd.S_mono (Kd.S_far (p := ⟨a6, 1, none⟩) (Kd.S_far (p := ⟨a6, 0, none⟩) (Kd.S_types a2.out a1.out (by decide)) (fun _ hk => hk.2) (.slice f4 a4.length b4)) (fun _ hk => hk.2) (.slice b8 a5.length b5)) (fun _ h_ => h_.1))) : p := h
theorem zk_8 {p : Prop} (h : p := by (with_reducible repeat (first | apply Kd.S_alloc | apply Kd.S_drewN | apply Kd.S_drew)); exact (Kd.S_mono (Kd.S_far (p := ⟨a6, 1, none⟩) (Kd.S_far (p := ⟨a6, 0, none⟩) (Kd.S_types a2.out a1.out (by decide)) (fun _ hk => hk.2) (.slice b9 a4.length b6)) (fun _ hk => hk.2) (.slice d0 a5.length b7)) (fun _ h_ => h_.1))) : p := h
theorem zk_7 {p : Prop} (h : p := by (with_reducible repeat (first | apply Kd.S_alloc | apply Kd.S_drewN | apply Kd.S_drew)); exact (Kd.S_mono (Kd.S_far (p := ⟨a6, 1, none⟩) (Kd.S_far (p := ⟨a6, 0, none⟩) (Kd.S_types a2.out a1.out (by decide)) (fun _ hk => hk.2) (.slice d3 a4.length d1)) (fun _ hk => hk.2) (.slice d4 a5.length d2)) (fun _ h_ => h_.1))) : p := h
theorem zk_6 {p : Prop} (h : p := by (with_reducible repeat (first | apply Kd.S_alloc | apply Kd.S_drewN | apply Kd.S_drew)); exact (Kd.S_mono (Kd.S_far (p := ⟨a6, 1, none⟩) (Kd.S_far (p := ⟨a6, 0, none⟩) (Kd.S_types a2.out a1.out (by decide)) (fun _ hk => hk.2) (.slice e3 a4.length e1)) (fun _ hk => hk.2) (.slice e4 a5.length e2)) (fun _ h_ => h_.1))) : p := h
theorem zk_5 {p : Prop} (h : p := by (with_reducible repeat (first | apply Kd.S_alloc | apply Kd.S_drewN | apply Kd.S_drew)); exact (Kd.S_mono (Kd.S_far (p := ⟨a6, 1, none⟩) (Kd.S_far (p := ⟨a6, 0, none⟩) (Kd.S_types a2.out a1.out (by decide)) (fun _ hk => hk.2) (.slice f0 a4.length e5)) (fun _ hk => hk.2) (.slice f1 a5.length e6)) (fun _ h_ => h_.1))) : p := h
theorem zk_4 {p : Prop} (h : p := by repeat (first | (with_reducible exact HR864_0.out) | (with_reducible refine Kd.C_alloc ?_ _) | (with_reducible refine Kd.C_drewN ?_ _) | (with_reducible refine Kd.C_drew ?_) | exact HR864_0.out)) : p := h
theorem zk_3 {p : Prop} (h : p := by kernel_rfl) : p := h
theorem zk_2 {p : Prop} (h : p := by first | rfl | (simp [errW_none, errW_some] <;> rfl) | (simp [*, errW_none, errW_some] <;> rfl)) : p := h
theorem zk_1 {p : Prop} (h : p := by repeat (first | (with_reducible first | exact HB.out | apply below_alloc | apply pw_below_drewN | apply below_drew1) | exact HB.out)) : p := h
theorem zk_0 {p : Prop} (h : p := by repeat (first | (with_reducible first | exact HB.out | apply below_alloc | apply pw_below_drewN | apply below_drew1 | refine below_set ?_ f3.out) | exact HB.out)) : p := h
set_option maxHeartbeats 8000000 in
set_option maxRecDepth 100000 in
theorem laws_FnWithOk.calls (k : Nat) (A0 : Option Addr) (c0 : Nat) (l0 : List Int) (r : Bool) (w : World) (hr0 : Kd.C (Kd.int .u8) w A0 l0.length l0) (hc0 : l0.length ≤ c0) (h : laws_FnWithOk.f k l0 = some r) :
 Calls Try.prog 11 #[.slice A0 l0.length c0] w fun e w' => e = .returned (.bool r) ∧ Below w.heap.size w w' := by
 have hu26 := Try.underlying26
 have HR0 := ak hr0
 have h9 := ak hc0
 clear hr0 hc0
 have HB := ak (Below.refl w.heap.size w)
 have H : (if (l0.length : Int) > 1048576 then (some true) else ((spec_DrawWithOk.f k l0).bind fun a8 => ((impl_WithOk.f a8.1 a8.2.1 a8.2.2.1 a8.2.2.2).bind fun e8 => ((spec_WithOk.f k a8.1 a8.2.1 a8.2.2.1 a8.2.2.2).bind fun e9 => (if (e8 != e9) = true then (some false) else ((spec_AndOf.f k a8.1 a8.2.1 a8.2.2.1 a8.2.2.2).bind fun f8 => (if f8 < 0 then (if e8 = true then (some false) else ((laws_alive.f k).bind fun i3 => (some i3))) else ((impl_WithOk.f a8.1 a8.2.1 a8.2.2.1 a8.2.2.1).bind fun i9 => (if i9 = true then ((impl_NotOf.f a8.1 a8.2.1 a8.2.2.1).bind fun e7 => ((impl_WithOk.f a8.1 a8.2.1 a8.2.2.1 e7).bind fun j0 => (if j0 = true then ((impl_NoOf.f a8.1 a8.2.1).bind fun f2 => ((impl_WithOk.f a8.1 a8.2.1 a8.2.2.1 f2).bind fun j1 => (if j1 = true then ((impl_YesOf.f a8.1 a8.2.1).bind fun f5 => ((impl_WithOk.f a8.1 a8.2.1 a8.2.2.1 f5).bind fun j2 => (if j2 = true then (if 0 ≤ a8.2.2.1 then (if a8.2.2.1 < (a8.1.length : Int) then (if 0 ≤ a8.2.2.2 then (if a8.2.2.2 < ((rd_L1 a8.1 a8.2.2.1).length : Int) then (if (rd (rd_L1 a8.1 a8.2.2.1) a8.2.2.2) = 0 then ((impl_NotOf.f a8.1 a8.2.1 a8.2.2.2).bind fun h6 => ((impl_WithOk.f a8.1 a8.2.1 a8.2.2.1 h6).bind fun i4 => (some (i4 == e8)))) else (if e8 = true then ((impl_NotOf.f a8.1 a8.2.1 a8.2.2.2).bind fun h7 => ((impl_WithOk.f a8.1 a8.2.1 a8.2.2.1 h7).bind fun i5 => (some (i5 == e8)))) else (some false))) else (none)) else (none)) else (none)) else (none)) else (some false)))) else (some false)))) else (some false)))) else (some false)))))))))) = some r := h
 clear h
 replace H := op_ H
 rcases H with ⟨c2, H⟩ | ⟨c2, H⟩
 ·
  have l2 : decide (1048576 < (l0.length : Int)) = true := dT_ c2
  have l3 : decide (1048576 < l0.length) = true := dT_ (by omega)
  clear c2
  obtain rfl := Option.some.inj H
  go_enter Try.func11, Try.ntmps11
  go_wp2
  go_ret
  exact ⟨zk_2, zk_1⟩
 have l2 : decide (1048576 < (l0.length : Int)) = false := dF_ c2
 have l3 : decide (1048576 < l0.length) = false := dF_ (by omega)
 clear c2
 replace H := bd_ H
 obtain ⟨⟨a4, a5, a7, a9⟩, A3, H⟩ := H
 try dsimp only at H
 replace H := bd_ H
 obtain ⟨e8, A4, H⟩ := H
 replace H := bd_ H
 obtain ⟨e9, A5, H⟩ := H
 try dsimp only at H
 replace H := op_ H
 rcases H with ⟨c6, H⟩ | ⟨c6, H⟩
 ·
  have l4 : (e8 != e9) = true := c6
  (try (have l5 : decide (e8 = e9) = false := by simpa using c6))
  (try (have l6 : (e8 == e9) = false := by simpa using c6))
  (try (have n5 : ¬ (e8 = e9) := by simpa using c6))
  clear c6
  obtain rfl := Option.some.inj H
  go_enter Try.func11, Try.ntmps11
  go_wp2_with (first | ((with_reducible refine gate_callee (f := 44) rfl ?_); refine gl_ (some 12) Try.func44 #[.slice A0 l0.length c0] ?_; (with_reducible refine (spec_DrawWithOk.calls k _ _ l0 a4 a5 a7 a9 _ (y4 HR0.out) h9.out A3.out).mono ?_); rintro e w' ⟨h0, h2, rfl, ho0, ho1, hb⟩; refine ⟨_, rfl, ?_⟩; have a2 := ak (Kd.S_lower ho0 (below_size zk_1)); have a3 := ak (Kd.Q_lower ho1 (below_size zk_1)); replace HB := ak (below_step zk_1 hb); (try clear hb); (try clear hb2); (try clear hk); (try clear hi); (try clear ho0); (try clear ho1)) | ((with_reducible refine gate_dst (N := 3) rfl ?_); refine bx_ (N := 3) (cs := #[.slice none 0 0, .slice none 0 0]) (t := 26) ?_; intro a6 hg w8 hbox hb; replace a2 := ak (Kd.S_below (xS a2.out) hb); replace a3 := ak (Kd.Q_below (xQ a3.out) hb); have a1 := ak (hbox); have f6 := ak ((by rw [hg]; exact (below_size zk_1) : w.heap.size ≤ a6)); have f3 := ak ((by rw [hg]; exact (below_size zk_1) : w.heap.size ≤ a6)); replace HB := ak (below_step zk_1 hb); clear hb hbox hg; obtain ⟨i2, i1, n6⟩ := Kd.S_slice a2.out; subst n6; have b0 := cz20 a1.out; have b1 := cz21 a1.out; have b2 := blk_frozen a1.out 0; have b3 := blk_frozen a1.out 1; obtain ⟨h4, h3, l7, _⟩ := Kd.Q_slice a3.out; subst l7) | ((with_reducible refine gate_callee (f := 45) rfl ?_); refine gl_ (some 19) Try.func45 #[.agg #[.slice i2 a4.length i1, .slice h4 a5.length h3], .int .i64 a7, .int .i64 a9] ?_; (with_reducible refine (impl_WithOk.calls _ _ a4 _ _ a5 a7 a9 e8 _ (by refine (Kd.S_reads' (e := 24) (base := w.heap.size) (ok := fun k_ => some k_ ≠ (.slice h4 a5.length h3 : Value).ownBlock) (n := a4.length) (c := i1) ?_).2.2; exact zk_23) (y2 a2.out) (by refine (Kd.Q_reads' (e := 3) (base := w.heap.size) (ok := fun k_ => True) (n := a5.length) (c := h3) ?_).2.2; exact zk_24) (y2 a3.out) A4.out).mono ?_); rintro e w' ⟨rfl, hb⟩; refine ⟨_, rfl, ?_⟩; replace a2 := ak (Kd.S_below zk_23 hb); replace a3 := ak (Kd.Q_below zk_24 hb); replace a1 := ak (blk_below (g := a6) (o := .cells #[.slice i2 a4.length i1, .slice h4 a5.length h3] 26 (0, 0)) (by (with_reducible repeat (first | refine blk_drewN ?_ _ | refine blk_drew ?_ | refine blk_alloc ?_ _)); refine blk_put (cs := #[.slice i2 a4.length i1, .slice none 0 0]) ?_ 1 _ rfl; (with_reducible repeat (first | refine blk_drewN ?_ _ | refine blk_drew ?_ | refine blk_alloc ?_ _)); refine blk_put (cs := #[.slice none 0 0, .slice none 0 0]) ?_ 0 _ rfl; (with_reducible repeat (first | refine blk_drewN ?_ _ | refine blk_drew ?_ | refine blk_alloc ?_ _)); exact a1.out) hb); replace HB := ak (below_step zk_0 hb); (try clear hb); (try clear hb2); (try clear hk); (try clear hi); have b0 := cz20 a1.out; have b1 := cz21 a1.out; have b2 := blk_frozen a1.out 0; have b3 := blk_frozen a1.out 1) | ((with_reducible refine gate_callee (f := 46) rfl ?_); refine gl_ (some 24) Try.func46 #[.agg #[.slice i2 a4.length i1, .slice h4 a5.length h3], .int .i64 a7, .int .i64 a9] ?_; (with_reducible refine (spec_WithOk.calls k _ _ a4 _ _ a5 a7 a9 e9 _ (y1 a2.out) (y2 a2.out) (y1 a3.out) (y2 a3.out) A5.out).mono ?_); rintro e w' ⟨rfl, hb⟩; refine ⟨_, rfl, ?_⟩; replace a2 := ak (Kd.S_below (xS a2.out) hb); replace a3 := ak (Kd.Q_below (xQ a3.out) hb); replace a1 := ak (blk_below (g := a6) (o := .cells #[.slice i2 a4.length i1, .slice h4 a5.length h3] 26 (0, 0)) (xb a1.out) hb); replace HB := ak (below_step zk_0 hb); (try clear hb); (try clear hb2); (try clear hk); (try clear hi)))
  go_ret
  exact ⟨zk_2, zk_0⟩
 have l4 : (e8 != e9) = false := by simpa using c6
 (try (have l5 : decide (e8 = e9) = true := by simpa using c6))
 (try (have l6 : (e8 == e9) = true := by simpa using c6))
 clear c6
 replace H := bd_ H
 obtain ⟨f8, i0, H⟩ := H
 try dsimp only at H
 replace H := os_ H
 rcases H with ⟨j3, H⟩ | ⟨j3, H⟩
 ·
  replace H := ox_ H
  rcases H with ⟨rfl, H⟩ | ⟨rfl, H⟩
  ·
   obtain rfl := Option.some.inj H
   go_enter Try.func11, Try.ntmps11
   go_wp2_with (first | ((with_reducible refine gate_callee (f := 44) rfl ?_); refine gl_ (some 12) Try.func44 #[.slice A0 l0.length c0] ?_; (with_reducible refine (spec_DrawWithOk.calls k _ _ l0 a4 a5 a7 a9 _ (y4 HR0.out) h9.out A3.out).mono ?_); rintro e w' ⟨h0, h2, rfl, ho0, ho1, hb⟩; refine ⟨_, rfl, ?_⟩; have a2 := ak (Kd.S_lower ho0 (below_size zk_1)); have a3 := ak (Kd.Q_lower ho1 (below_size zk_1)); replace HB := ak (below_step zk_1 hb); (try clear hb); (try clear hb2); (try clear hk); (try clear hi); (try clear ho0); (try clear ho1)) | ((with_reducible refine gate_dst (N := 3) rfl ?_); refine bx_ (N := 3) (cs := #[.slice none 0 0, .slice none 0 0]) (t := 26) ?_; intro a6 hg q4 hbox hb; replace a2 := ak (Kd.S_below (xS a2.out) hb); replace a3 := ak (Kd.Q_below (xQ a3.out) hb); have a1 := ak (hbox); have f6 := ak ((by rw [hg]; exact (below_size zk_1) : w.heap.size ≤ a6)); have f3 := ak ((by rw [hg]; exact (below_size zk_1) : w.heap.size ≤ a6)); replace HB := ak (below_step zk_1 hb); clear hb hbox hg; obtain ⟨g4, g0, l8⟩ := Kd.S_slice a2.out; subst l8; have b0 := cz20 a1.out; have b1 := cz21 a1.out; have b2 := blk_frozen a1.out 0; have b3 := blk_frozen a1.out 1; obtain ⟨g5, g1, l9, _⟩ := Kd.Q_slice a3.out; subst l9) | ((with_reducible refine gate_callee (f := 45) rfl ?_); refine gl_ (some 19) Try.func45 #[.agg #[.slice g4 a4.length g0, .slice g5 a5.length g1], .int .i64 a7, .int .i64 a9] ?_; (with_reducible refine (impl_WithOk.calls _ _ a4 _ _ a5 a7 a9 true _ (by refine (Kd.S_reads' (e := 24) (base := w.heap.size) (ok := fun k_ => some k_ ≠ (.slice g5 a5.length g1 : Value).ownBlock) (n := a4.length) (c := g0) ?_).2.2; exact zk_18) (y2 a2.out) (by refine (Kd.Q_reads' (e := 3) (base := w.heap.size) (ok := fun k_ => True) (n := a5.length) (c := g1) ?_).2.2; exact zk_22) (y2 a3.out) A4.out).mono ?_); rintro e w' ⟨rfl, hb⟩; refine ⟨_, rfl, ?_⟩; replace a2 := ak (Kd.S_below zk_18 hb); replace a3 := ak (Kd.Q_below zk_22 hb); replace a1 := ak (blk_below (g := a6) (o := .cells #[.slice g4 a4.length g0, .slice g5 a5.length g1] 26 (0, 0)) (by (with_reducible repeat (first | refine blk_drewN ?_ _ | refine blk_drew ?_ | refine blk_alloc ?_ _)); refine blk_put (cs := #[.slice g4 a4.length g0, .slice none 0 0]) ?_ 1 _ rfl; (with_reducible repeat (first | refine blk_drewN ?_ _ | refine blk_drew ?_ | refine blk_alloc ?_ _)); refine blk_put (cs := #[.slice none 0 0, .slice none 0 0]) ?_ 0 _ rfl; (with_reducible repeat (first | refine blk_drewN ?_ _ | refine blk_drew ?_ | refine blk_alloc ?_ _)); exact a1.out) hb); replace HB := ak (below_step zk_0 hb); (try clear hb); (try clear hb2); (try clear hk); (try clear hi); have b0 := cz20 a1.out; have b1 := cz21 a1.out; have b2 := blk_frozen a1.out 0; have b3 := blk_frozen a1.out 1) | ((with_reducible refine gate_callee (f := 46) rfl ?_); refine gl_ (some 24) Try.func46 #[.agg #[.slice g4 a4.length g0, .slice g5 a5.length g1], .int .i64 a7, .int .i64 a9] ?_; (with_reducible refine (spec_WithOk.calls k _ _ a4 _ _ a5 a7 a9 e9 _ (y1 a2.out) (y2 a2.out) (y1 a3.out) (y2 a3.out) A5.out).mono ?_); rintro e w' ⟨rfl, hb⟩; refine ⟨_, rfl, ?_⟩; replace a2 := ak (Kd.S_below (xS a2.out) hb); replace a3 := ak (Kd.Q_below (xQ a3.out) hb); replace a1 := ak (blk_below (g := a6) (o := .cells #[.slice g4 a4.length g0, .slice g5 a5.length g1] 26 (0, 0)) (xb a1.out) hb); replace HB := ak (below_step zk_0 hb); (try clear hb); (try clear hb2); (try clear hk); (try clear hi); have b0 := cz20 a1.out; have b1 := cz21 a1.out; have b2 := blk_frozen a1.out 0; have b3 := blk_frozen a1.out 1) | ((with_reducible refine gate_callee (f := 28) rfl ?_); refine gl_ (some 29) Try.func28 #[.agg #[.slice g4 a4.length g0, .slice g5 a5.length g1], .int .i64 a7, .int .i64 a9] ?_; (with_reducible refine (spec_AndOf.calls k _ _ a4 _ _ a5 a7 a9 f8 _ (y1 a2.out) (y2 a2.out) (y1 a3.out) (y2 a3.out) i0.out).mono ?_); rintro e w' ⟨rfl, hb⟩; refine ⟨_, rfl, ?_⟩; replace a2 := ak (Kd.S_below (xS a2.out) hb); replace a3 := ak (Kd.Q_below (xQ a3.out) hb); replace a1 := ak (blk_below (g := a6) (o := .cells #[.slice g4 a4.length g0, .slice g5 a5.length g1] 26 (0, 0)) (xb a1.out) hb); replace HB := ak (below_step zk_0 hb); (try clear hb); (try clear hb2); (try clear hk); (try clear hi)))
   go_ret
   exact ⟨zk_2, zk_0⟩
  replace H := bd_ H
  obtain ⟨i3, n7, H⟩ := H
  try dsimp only at H
  obtain rfl := Option.some.inj H
  go_enter Try.func11, Try.ntmps11
  go_wp2_with (first | ((with_reducible refine gate_callee (f := 44) rfl ?_); refine gl_ (some 12) Try.func44 #[.slice A0 l0.length c0] ?_; (with_reducible refine (spec_DrawWithOk.calls k _ _ l0 a4 a5 a7 a9 _ (y4 HR0.out) h9.out A3.out).mono ?_); rintro e w' ⟨h0, h2, rfl, ho0, ho1, hb⟩; refine ⟨_, rfl, ?_⟩; have a2 := ak (Kd.S_lower ho0 (below_size zk_1)); have a3 := ak (Kd.Q_lower ho1 (below_size zk_1)); replace HB := ak (below_step zk_1 hb); (try clear hb); (try clear hb2); (try clear hk); (try clear hi); (try clear ho0); (try clear ho1)) | ((with_reducible refine gate_dst (N := 3) rfl ?_); refine bx_ (N := 3) (cs := #[.slice none 0 0, .slice none 0 0]) (t := 26) ?_; intro a6 hg q5 hbox hb; replace a2 := ak (Kd.S_below (xS a2.out) hb); replace a3 := ak (Kd.Q_below (xQ a3.out) hb); have a1 := ak (hbox); have f6 := ak ((by rw [hg]; exact (below_size zk_1) : w.heap.size ≤ a6)); have f3 := ak ((by rw [hg]; exact (below_size zk_1) : w.heap.size ≤ a6)); replace HB := ak (below_step zk_1 hb); clear hb hbox hg; obtain ⟨g6, g2, m0⟩ := Kd.S_slice a2.out; subst m0; have b0 := cz20 a1.out; have b1 := cz21 a1.out; have b2 := blk_frozen a1.out 0; have b3 := blk_frozen a1.out 1; obtain ⟨g7, g3, m1, _⟩ := Kd.Q_slice a3.out; subst m1) | ((with_reducible refine gate_callee (f := 45) rfl ?_); refine gl_ (some 19) Try.func45 #[.agg #[.slice g6 a4.length g2, .slice g7 a5.length g3], .int .i64 a7, .int .i64 a9] ?_; (with_reducible refine (impl_WithOk.calls _ _ a4 _ _ a5 a7 a9 false _ (by refine (Kd.S_reads' (e := 24) (base := w.heap.size) (ok := fun k_ => some k_ ≠ (.slice g7 a5.length g3 : Value).ownBlock) (n := a4.length) (c := g2) ?_).2.2; exact zk_17) (y2 a2.out) (by refine (Kd.Q_reads' (e := 3) (base := w.heap.size) (ok := fun k_ => True) (n := a5.length) (c := g3) ?_).2.2; exact zk_21) (y2 a3.out) A4.out).mono ?_); rintro e w' ⟨rfl, hb⟩; refine ⟨_, rfl, ?_⟩; replace a2 := ak (Kd.S_below zk_17 hb); replace a3 := ak (Kd.Q_below zk_21 hb); replace a1 := ak (blk_below (g := a6) (o := .cells #[.slice g6 a4.length g2, .slice g7 a5.length g3] 26 (0, 0)) (by (with_reducible repeat (first | refine blk_drewN ?_ _ | refine blk_drew ?_ | refine blk_alloc ?_ _)); refine blk_put (cs := #[.slice g6 a4.length g2, .slice none 0 0]) ?_ 1 _ rfl; (with_reducible repeat (first | refine blk_drewN ?_ _ | refine blk_drew ?_ | refine blk_alloc ?_ _)); refine blk_put (cs := #[.slice none 0 0, .slice none 0 0]) ?_ 0 _ rfl; (with_reducible repeat (first | refine blk_drewN ?_ _ | refine blk_drew ?_ | refine blk_alloc ?_ _)); exact a1.out) hb); replace HB := ak (below_step zk_0 hb); (try clear hb); (try clear hb2); (try clear hk); (try clear hi); have b0 := cz20 a1.out; have b1 := cz21 a1.out; have b2 := blk_frozen a1.out 0; have b3 := blk_frozen a1.out 1) | ((with_reducible refine gate_callee (f := 46) rfl ?_); refine gl_ (some 24) Try.func46 #[.agg #[.slice g6 a4.length g2, .slice g7 a5.length g3], .int .i64 a7, .int .i64 a9] ?_; (with_reducible refine (spec_WithOk.calls k _ _ a4 _ _ a5 a7 a9 e9 _ (y1 a2.out) (y2 a2.out) (y1 a3.out) (y2 a3.out) A5.out).mono ?_); rintro e w' ⟨rfl, hb⟩; refine ⟨_, rfl, ?_⟩; replace a2 := ak (Kd.S_below (xS a2.out) hb); replace a3 := ak (Kd.Q_below (xQ a3.out) hb); replace a1 := ak (blk_below (g := a6) (o := .cells #[.slice g6 a4.length g2, .slice g7 a5.length g3] 26 (0, 0)) (xb a1.out) hb); replace HB := ak (below_step zk_0 hb); (try clear hb); (try clear hb2); (try clear hk); (try clear hi); have b0 := cz20 a1.out; have b1 := cz21 a1.out; have b2 := blk_frozen a1.out 0; have b3 := blk_frozen a1.out 1) | ((first | ((with_reducible refine gate_callee (f := 28) rfl ?_); refine gl_ (some 29) Try.func28 #[.agg #[.slice g6 a4.length g2, .slice g7 a5.length g3], .int .i64 a7, .int .i64 a9] ?_; (with_reducible refine (spec_AndOf.calls k _ _ a4 _ _ a5 a7 a9 f8 _ (y1 a2.out) (y2 a2.out) (y1 a3.out) (y2 a3.out) i0.out).mono ?_); rintro e w' ⟨rfl, hb⟩; refine ⟨_, rfl, ?_⟩) | (go_at_call 17; (with_reducible refine (laws_alive.calls k  i3 _ n7.out).mono ?_); rintro e w' ⟨rfl, hb⟩)); replace a2 := ak (Kd.S_below (xS a2.out) hb); replace a3 := ak (Kd.Q_below (xQ a3.out) hb); replace a1 := ak (blk_below (g := a6) (o := .cells #[.slice g6 a4.length g2, .slice g7 a5.length g3] 26 (0, 0)) (xb a1.out) hb); replace HB := ak (below_step zk_0 hb); (try clear hb); (try clear hb2); (try clear hk); (try clear hi)))
  go_ret
  exact ⟨zk_2, zk_0⟩
 replace H := bd_ H
 obtain ⟨i9, i6, H⟩ := H
 try dsimp only at H
 replace H := ox_ H
 rcases H with ⟨rfl, H⟩ | ⟨rfl, H⟩
 ·
  replace H := bd_ H
  obtain ⟨e7, i7, H⟩ := H
  replace H := bd_ H
  obtain ⟨j0, i8, H⟩ := H
  try dsimp only at H
  replace H := ox_ H
  rcases H with ⟨rfl, H⟩ | ⟨rfl, H⟩
  ·
   replace H := bd_ H
   obtain ⟨f2, j4, H⟩ := H
   replace H := bd_ H
   obtain ⟨j1, j5, H⟩ := H
   try dsimp only at H
   replace H := ox_ H
   rcases H with ⟨rfl, H⟩ | ⟨rfl, H⟩
   ·
    replace H := bd_ H
    obtain ⟨f5, k9, H⟩ := H
    replace H := bd_ H
    obtain ⟨j2, l1, H⟩ := H
    try dsimp only at H
    replace H := ox_ H
    rcases H with ⟨rfl, H⟩ | ⟨rfl, H⟩
    ·
     replace H := od4 H
     obtain ⟨n1, n2, n3, n4, H⟩ := H
     replace H := oe2 H
     rcases H with ⟨⟨-, j6, j7⟩, H⟩ | ⟨⟨q6, j6, j7⟩, H⟩
     ·
      replace H := bd_ H
      obtain ⟨h6, n8, H⟩ := H
      replace H := bd_ H
      obtain ⟨i4, n9, H⟩ := H
      try dsimp only at H
      obtain rfl := Option.some.inj H
      go_enter Try.func11, Try.ntmps11
      try go_wp2_with (first | ((with_reducible refine gate_callee (f := 44) rfl ?_); refine gl_ (some 12) Try.func44 #[.slice A0 l0.length c0] ?_; (with_reducible refine (spec_DrawWithOk.calls k _ _ l0 a4 a5 a7 a9 _ (y4 HR0.out) h9.out A3.out).mono ?_); rintro e w' ⟨h0, h2, rfl, ho0, ho1, hb⟩; refine ⟨_, rfl, ?_⟩; have a2 := ak (Kd.S_lower ho0 (below_size zk_1)); have a3 := ak (Kd.Q_lower ho1 (below_size zk_1)); replace HB := ak (below_step zk_1 hb); (try clear hb); (try clear hb2); (try clear hk); (try clear hi); (try clear ho0); (try clear ho1)) | ((with_reducible refine gate_dst (N := 3) rfl ?_); refine bx_ (N := 3) (cs := #[.slice none 0 0, .slice none 0 0]) (t := 26) ?_; intro a6 hg q7 hbox hb; replace a2 := ak (Kd.S_below (xS a2.out) hb); replace a3 := ak (Kd.Q_below (xQ a3.out) hb); have a1 := ak (hbox); have f6 := ak ((by rw [hg]; exact (below_size zk_1) : w.heap.size ≤ a6)); have f3 := ak ((by rw [hg]; exact (below_size zk_1) : w.heap.size ≤ a6)); replace HB := ak (below_step zk_1 hb); clear hb hbox hg; obtain ⟨g8, d5, m2⟩ := Kd.S_slice a2.out; subst m2; have b0 := cz20 a1.out; have b1 := cz21 a1.out; have b2 := blk_frozen a1.out 0; have b3 := blk_frozen a1.out 1; obtain ⟨d9, d6, m3, _⟩ := Kd.Q_slice a3.out; subst m3) | ((with_reducible refine gate_callee (f := 45) rfl ?_); refine gl_ (some 19) Try.func45 #[.agg #[.slice g8 a4.length d5, .slice d9 a5.length d6], .int .i64 a7, .int .i64 a9] ?_; (with_reducible refine (impl_WithOk.calls _ _ a4 _ _ a5 a7 a9 e8 _ (by refine (Kd.S_reads' (e := 24) (base := w.heap.size) (ok := fun k_ => some k_ ≠ (.slice d9 a5.length d6 : Value).ownBlock) (n := a4.length) (c := d5) ?_).2.2; exact zk_16) (y2 a2.out) (by refine (Kd.Q_reads' (e := 3) (base := w.heap.size) (ok := fun k_ => True) (n := a5.length) (c := d6) ?_).2.2; exact zk_20) (y2 a3.out) A4.out).mono ?_); rintro e w' ⟨rfl, hb⟩; refine ⟨_, rfl, ?_⟩; replace a2 := ak (Kd.S_below zk_16 hb); replace a3 := ak (Kd.Q_below zk_20 hb); replace a1 := ak (blk_below (g := a6) (o := .cells #[.slice g8 a4.length d5, .slice d9 a5.length d6] 26 (0, 0)) (by (with_reducible repeat (first | refine blk_drewN ?_ _ | refine blk_drew ?_ | refine blk_alloc ?_ _)); refine blk_put (cs := #[.slice g8 a4.length d5, .slice none 0 0]) ?_ 1 _ rfl; (with_reducible repeat (first | refine blk_drewN ?_ _ | refine blk_drew ?_ | refine blk_alloc ?_ _)); refine blk_put (cs := #[.slice none 0 0, .slice none 0 0]) ?_ 0 _ rfl; (with_reducible repeat (first | refine blk_drewN ?_ _ | refine blk_drew ?_ | refine blk_alloc ?_ _)); exact a1.out) hb); replace HB := ak (below_step zk_0 hb); (try clear hb); (try clear hb2); (try clear hk); (try clear hi); have b0 := cz20 a1.out; have b1 := cz21 a1.out; have b2 := blk_frozen a1.out 0; have b3 := blk_frozen a1.out 1) | ((with_reducible refine gate_callee (f := 46) rfl ?_); refine gl_ (some 24) Try.func46 #[.agg #[.slice g8 a4.length d5, .slice d9 a5.length d6], .int .i64 a7, .int .i64 a9] ?_; (with_reducible refine (spec_WithOk.calls k _ _ a4 _ _ a5 a7 a9 e9 _ (y1 a2.out) (y2 a2.out) (y1 a3.out) (y2 a3.out) A5.out).mono ?_); rintro e w' ⟨rfl, hb⟩; refine ⟨_, rfl, ?_⟩; replace a2 := ak (Kd.S_below (xS a2.out) hb); replace a3 := ak (Kd.Q_below (xQ a3.out) hb); replace a1 := ak (blk_below (g := a6) (o := .cells #[.slice g8 a4.length d5, .slice d9 a5.length d6] 26 (0, 0)) (xb a1.out) hb); replace HB := ak (below_step zk_0 hb); (try clear hb); (try clear hb2); (try clear hk); (try clear hi); have b0 := cz20 a1.out; have b1 := cz21 a1.out; have b2 := blk_frozen a1.out 0; have b3 := blk_frozen a1.out 1) | ((with_reducible refine gate_callee (f := 28) rfl ?_); refine gl_ (some 29) Try.func28 #[.agg #[.slice g8 a4.length d5, .slice d9 a5.length d6], .int .i64 a7, .int .i64 a9] ?_; (with_reducible refine (spec_AndOf.calls k _ _ a4 _ _ a5 a7 a9 f8 _ (y1 a2.out) (y2 a2.out) (y1 a3.out) (y2 a3.out) i0.out).mono ?_); rintro e o0 ⟨rfl, hb⟩; refine ⟨_, rfl, ?_⟩; replace a2 := ak (Kd.S_below (xS a2.out) hb); replace a3 := ak (Kd.Q_below (xQ a3.out) hb); replace a1 := ak (blk_below (g := a6) (o := .cells #[.slice g8 a4.length d5, .slice d9 a5.length d6] 26 (0, 0)) (xb a1.out) hb); replace HB := ak (below_step zk_0 hb); (try clear hb); (try clear hb2); (try clear hk); (try clear hi)))
      replace a2 := ak (Kd.S_drew a2.out)
      replace a3 := ak (Kd.Q_drew a3.out)
      replace a1 := ak (blk_drew a1.out)
      replace HB := ak (below_drew1 HB.out)
      have f7 : 0 ≤ (a7 : Int) := oa_
      have q864 : a7 < (a4.length : Int) := oa_
      obtain ⟨ad864, h8, f9, e864, hx864_0, hl864_0, hi864_0⟩ := at_L1 (Kd.S_reads' a2.out).2.2 a7 f7 q864
      cases e864
      obtain ⟨ce864, hce864, hMe864, hcc864⟩ := Kd.S_get a2.out [] a7 f7 zk_26
      obtain ⟨ve864_0, rfl, ge864_0⟩ := hMe864
      have hv864_0 := hcc864 0 _ rfl
      rw [Nat.add_zero, show ((Kd.slice 3 (Kd.int .i64))).sz = 1 from rfl, Nat.mul_one] at hv864_0
      replace hv864_0 := Option.some.inj (hv864_0.symm.trans hx864_0)
      rw [hv864_0] at ge864_0
      have HL864_0 := ak (show Kd.R (Kd.int .i64) 3 _ _ _ _ (rd_L1 a4 a7) from ge864_0)
      clear hv864_0 ge864_0 hcc864 hce864
      have HR864_0 := ak hi864_0
      have h5 := ak hl864_0
      clear hi864_0 hl864_0
      replace f7 := eq_true f7
      replace q864 := eq_true q864
      obtain ⟨ad865, e865, hx865_0, j8, q865⟩ := ai_ zk_4 a9
      cases e865
      refine start_ (n := 51) (S := fun w' => w'.cell? ⟨a6, 0, none⟩ = some (.slice (some ad864) a4.length d5) ∧ w'.cell? ⟨a6, 1, none⟩ = some (.slice d9 a5.length d6) ∧ w'.cell? (ad864.add (a7).toNat) = some (.slice (some ad865) (rd_L1 a4 a7).length f9) ∧ w'.cell? (ad865.add (a9).toNat) = some (.int .i64 (rd (rd_L1 a4 a7) a9))) (ds := []) (bA 51 0) zk_3 rfl rfl ⟨(blk_cell a1.out 0).trans rfl, (blk_cell a1.out 1).trans rfl, hx864_0, hx865_0⟩ (fun hHeld => ?_); refine with_tabW laws_FnWithOk.tab9 laws_FnWithOk.bits9 (fun HT_ HW_ => ?_)
      generalize o0.drew = q8 at a2 a3 a1 HB HL864_0 HR864_0 hx864_0 hHeld ⊢
      refine pu_ (i := 1) (N := some 37) (bA 51 2) ?_
      refine pu_ (i := 2) (N := some 38) (bA 51 6) ?_
      refine tk_ (i := 0) (N := some 36) (bA 51 7) ?_
      refine one_ (i := 3) (N := some 39) (bA 51 15) rfl rfl (one_of HT_.out zk_3) zk_25 (fun K hK => ?_)
      refine ge_ Try.func45 #[.agg #[.slice (some ad864) a4.length d5, .slice d9 a5.length d6], .int .i64 a7, .int .i64 a7] ?_
      with_reducible refine (impl_WithOk.calls _ _ a4 _ _ a5 a7 a7 true _ ?side1 ?side2 ?side3 ?side4 i6.out).mono ?_
      (case side1 => repeat (first | exact (Kd.S_reads' a2.out).2.2 | (with_reducible refine Kd.C_alloc ?_ _) | (with_reducible refine Kd.C_drewN ?_ _) | (with_reducible refine Kd.C_drew ?_)))
      (case side2 => exact (Kd.S_reads' a2.out).2.1)
      (case side3 => repeat (first | exact (Kd.Q_reads' a3.out).2.2 | (with_reducible refine Kd.C_alloc ?_ _) | (with_reducible refine Kd.C_drewN ?_ _) | (with_reducible refine Kd.C_drew ?_)))
      (case side4 => exact (Kd.Q_reads' a3.out).2.1)
      rintro e w' ⟨rfl, hb⟩
      have HS2_ := (hb.cell (World.block_lt_of_cell? _ _ (hHeld.2.2.1))).trans (hHeld.2.2.1)
      have HS3_ := (hb.cell (World.block_lt_of_cell? _ _ (hHeld.2.2.2))).trans (hHeld.2.2.2)
      refine ⟨_, rfl, ?_⟩
      replace a2 := ak (Kd.S_below (xS a2.out) hb)
      replace a3 := ak (Kd.Q_below (xQ a3.out) hb)
      replace a1 := ak (blk_below (g := a6) (o := .cells #[.slice (some ad864) a4.length d5, .slice d9 a5.length d6] 26 (0, 0)) (xb a1.out) hb)
      replace HB := ak (below_step zk_0 hb)
      (try clear hb)
      (try clear hb2)
      (try clear hk)
      (try clear hi)
      refine hK.out _ _ ⟨(blk_cell a1.out 0).trans rfl, (blk_cell a1.out 1).trans rfl, HS2_, HS3_⟩ (fun hHeld => ?_)
      clear hK K
      refine no_ (N := some 39) ?_
      refine pu_ (i := 4) (N := some 40) (bA 51 31) ?_
      refine pu_ (i := 6) (N := some 42) (bA 51 95) ?_
      refine pu_ (i := 8) (N := some 44) (bA 51 351) ?_
      refine tk_ (i := 5) (N := some 41) (bA 51 383) ?_
      refine tk_ (i := 7) (N := some 43) (bA 51 511) ?_
      refine one_ (i := 9) (N := some 45) (bA 51 1023) rfl rfl (one_of HT_.out zk_3) zk_25 (fun K hK => ?_)
      refine ge_ Try.func29 #[.agg #[.slice (some ad864) a4.length d5, .slice d9 a5.length d6], .int .i64 a7] ?_
      with_reducible refine (impl_NotOf.calls _ _ a4 _ _ a5 a7 e7 _ ?side1 ?side2 ?side3 ?side4 i7.out).mono ?_
      (case side1 => repeat (first | exact (Kd.S_reads' a2.out).2.2 | (with_reducible refine Kd.C_alloc ?_ _) | (with_reducible refine Kd.C_drewN ?_ _) | (with_reducible refine Kd.C_drew ?_)))
      (case side2 => exact (Kd.S_reads' a2.out).2.1)
      (case side3 => repeat (first | exact (Kd.Q_reads' a3.out).2.2 | (with_reducible refine Kd.C_alloc ?_ _) | (with_reducible refine Kd.C_drewN ?_ _) | (with_reducible refine Kd.C_drew ?_)))
      (case side4 => exact (Kd.Q_reads' a3.out).2.1)
      rintro e w' ⟨rfl, hb⟩
      have HS2_ := (hb.cell (World.block_lt_of_cell? _ _ (hHeld.2.2.1))).trans (hHeld.2.2.1)
      have HS3_ := (hb.cell (World.block_lt_of_cell? _ _ (hHeld.2.2.2))).trans (hHeld.2.2.2)
      refine ⟨_, rfl, ?_⟩
      replace a2 := ak (Kd.S_below (xS a2.out) hb)
      replace a3 := ak (Kd.Q_below (xQ a3.out) hb)
      replace a1 := ak (blk_below (g := a6) (o := .cells #[.slice (some ad864) a4.length d5, .slice d9 a5.length d6] 26 (0, 0)) (xb a1.out) hb)
      replace HB := ak (below_step zk_0 hb)
      (try clear hb)
      (try clear hb2)
      (try clear hk)
      (try clear hi)
      refine hK.out _ _ ⟨(blk_cell a1.out 0).trans rfl, (blk_cell a1.out 1).trans rfl, HS2_, HS3_⟩ (fun hHeld => ?_)
      clear hK K
      refine no_ (N := some 45) ?_
      refine one_ (i := 10) (N := some 46) (bA 51 2047) rfl rfl (one_of HT_.out zk_3) zk_25 (fun K hK => ?_)
      refine ge_ Try.func45 #[.agg #[.slice (some ad864) a4.length d5, .slice d9 a5.length d6], .int .i64 a7, .int .i64 e7] ?_
      with_reducible refine (impl_WithOk.calls _ _ a4 _ _ a5 a7 e7 true _ ?side1 ?side2 ?side3 ?side4 i8.out).mono ?_
      (case side1 => repeat (first | exact (Kd.S_reads' a2.out).2.2 | (with_reducible refine Kd.C_alloc ?_ _) | (with_reducible refine Kd.C_drewN ?_ _) | (with_reducible refine Kd.C_drew ?_)))
      (case side2 => exact (Kd.S_reads' a2.out).2.1)
      (case side3 => repeat (first | exact (Kd.Q_reads' a3.out).2.2 | (with_reducible refine Kd.C_alloc ?_ _) | (with_reducible refine Kd.C_drewN ?_ _) | (with_reducible refine Kd.C_drew ?_)))
      (case side4 => exact (Kd.Q_reads' a3.out).2.1)
      rintro e w' ⟨rfl, hb⟩
      have HS2_ := (hb.cell (World.block_lt_of_cell? _ _ (hHeld.2.2.1))).trans (hHeld.2.2.1)
      have HS3_ := (hb.cell (World.block_lt_of_cell? _ _ (hHeld.2.2.2))).trans (hHeld.2.2.2)
      refine ⟨_, rfl, ?_⟩
      replace a2 := ak (Kd.S_below (xS a2.out) hb)
      replace a3 := ak (Kd.Q_below (xQ a3.out) hb)
      replace a1 := ak (blk_below (g := a6) (o := .cells #[.slice (some ad864) a4.length d5, .slice d9 a5.length d6] 26 (0, 0)) (xb a1.out) hb)
      replace HB := ak (below_step zk_0 hb)
      (try clear hb)
      (try clear hb2)
      (try clear hk)
      (try clear hi)
      refine hK.out _ _ ⟨(blk_cell a1.out 0).trans rfl, (blk_cell a1.out 1).trans rfl, HS2_, HS3_⟩ (fun hHeld => ?_)
      clear hK K
      refine no_ (N := some 46) ?_
      refine pu_ (i := 11) (N := some 47) (bA 51 4095) ?_
      refine pu_ (i := 12) (N := some 48) (bA 51 8191) ?_
      refine pu_ (i := 14) (N := some 50) (bA 51 24575) ?_
      refine tk_ (i := 13) (N := some 49) (bA 51 32767) ?_
      refine tk_ (i := 15) (N := some 51) (bA 51 65535) ?_
      refine one_ (i := 16) (N := some 52) (bA 51 131071) rfl rfl (one_of HT_.out zk_3) zk_25 (fun K hK => ?_)
      refine ge_ Try.func19 #[.agg #[.slice (some ad864) a4.length d5, .slice d9 a5.length d6]] ?_
      with_reducible refine (impl_NoOf.calls _ _ a4 _ _ a5 f2 _ ?side1 ?side2 ?side3 ?side4 j4.out).mono ?_
      (case side1 => repeat (first | exact (Kd.S_reads' a2.out).2.2 | (with_reducible refine Kd.C_alloc ?_ _) | (with_reducible refine Kd.C_drewN ?_ _) | (with_reducible refine Kd.C_drew ?_)))
      (case side2 => exact (Kd.S_reads' a2.out).2.1)
      (case side3 => repeat (first | exact (Kd.Q_reads' a3.out).2.2 | (with_reducible refine Kd.C_alloc ?_ _) | (with_reducible refine Kd.C_drewN ?_ _) | (with_reducible refine Kd.C_drew ?_)))
      (case side4 => exact (Kd.Q_reads' a3.out).2.1)
      rintro e w' ⟨rfl, hb⟩
      have HS2_ := (hb.cell (World.block_lt_of_cell? _ _ (hHeld.2.2.1))).trans (hHeld.2.2.1)
      have HS3_ := (hb.cell (World.block_lt_of_cell? _ _ (hHeld.2.2.2))).trans (hHeld.2.2.2)
      refine ⟨_, rfl, ?_⟩
      replace a2 := ak (Kd.S_below (xS a2.out) hb)
      replace a3 := ak (Kd.Q_below (xQ a3.out) hb)
      replace a1 := ak (blk_below (g := a6) (o := .cells #[.slice (some ad864) a4.length d5, .slice d9 a5.length d6] 26 (0, 0)) (xb a1.out) hb)
      replace HB := ak (below_step zk_0 hb)
      (try clear hb)
      (try clear hb2)
      (try clear hk)
      (try clear hi)
      refine hK.out _ _ ⟨(blk_cell a1.out 0).trans rfl, (blk_cell a1.out 1).trans rfl, HS2_, HS3_⟩ (fun hHeld => ?_)
      clear hK K
      refine no_ (N := some 52) ?_
      refine one_ (i := 17) (N := some 53) (bA 51 262143) rfl rfl (one_of HT_.out zk_3) zk_25 (fun K hK => ?_)
      refine ge_ Try.func45 #[.agg #[.slice (some ad864) a4.length d5, .slice d9 a5.length d6], .int .i64 a7, .int .i64 f2] ?_
      with_reducible refine (impl_WithOk.calls _ _ a4 _ _ a5 a7 f2 true _ ?side1 ?side2 ?side3 ?side4 j5.out).mono ?_
      (case side1 => repeat (first | exact (Kd.S_reads' a2.out).2.2 | (with_reducible refine Kd.C_alloc ?_ _) | (with_reducible refine Kd.C_drewN ?_ _) | (with_reducible refine Kd.C_drew ?_)))
      (case side2 => exact (Kd.S_reads' a2.out).2.1)
      (case side3 => repeat (first | exact (Kd.Q_reads' a3.out).2.2 | (with_reducible refine Kd.C_alloc ?_ _) | (with_reducible refine Kd.C_drewN ?_ _) | (with_reducible refine Kd.C_drew ?_)))
      (case side4 => exact (Kd.Q_reads' a3.out).2.1)
      rintro e w' ⟨rfl, hb⟩
      have HS2_ := (hb.cell (World.block_lt_of_cell? _ _ (hHeld.2.2.1))).trans (hHeld.2.2.1)
      have HS3_ := (hb.cell (World.block_lt_of_cell? _ _ (hHeld.2.2.2))).trans (hHeld.2.2.2)
      refine ⟨_, rfl, ?_⟩
      replace a2 := ak (Kd.S_below (xS a2.out) hb)
      replace a3 := ak (Kd.Q_below (xQ a3.out) hb)
      replace a1 := ak (blk_below (g := a6) (o := .cells #[.slice (some ad864) a4.length d5, .slice d9 a5.length d6] 26 (0, 0)) (xb a1.out) hb)
      replace HB := ak (below_step zk_0 hb)
      (try clear hb)
      (try clear hb2)
      (try clear hk)
      (try clear hi)
      refine hK.out _ _ ⟨(blk_cell a1.out 0).trans rfl, (blk_cell a1.out 1).trans rfl, HS2_, HS3_⟩ (fun hHeld => ?_)
      clear hK K
      refine no_ (N := some 53) ?_
      refine pu_ (i := 18) (N := some 54) (bA 51 524287) ?_
      refine pu_ (i := 19) (N := some 55) (bA 51 1048575) ?_
      refine pu_ (i := 21) (N := some 57) (bA 51 3145727) ?_
      refine tk_ (i := 20) (N := some 56) (bA 51 4194303) ?_
      refine tk_ (i := 22) (N := some 58) (bA 51 8388607) ?_
      refine one_ (i := 23) (N := some 59) (bA 51 16777215) rfl rfl (one_of HT_.out zk_3) zk_25 (fun K hK => ?_)
      refine ge_ Try.func23 #[.agg #[.slice (some ad864) a4.length d5, .slice d9 a5.length d6]] ?_
      with_reducible refine (impl_YesOf.calls _ _ a4 _ _ a5 f5 _ ?side1 ?side2 ?side3 ?side4 k9.out).mono ?_
      (case side1 => repeat (first | exact (Kd.S_reads' a2.out).2.2 | (with_reducible refine Kd.C_alloc ?_ _) | (with_reducible refine Kd.C_drewN ?_ _) | (with_reducible refine Kd.C_drew ?_)))
      (case side2 => exact (Kd.S_reads' a2.out).2.1)
      (case side3 => repeat (first | exact (Kd.Q_reads' a3.out).2.2 | (with_reducible refine Kd.C_alloc ?_ _) | (with_reducible refine Kd.C_drewN ?_ _) | (with_reducible refine Kd.C_drew ?_)))
      (case side4 => exact (Kd.Q_reads' a3.out).2.1)
      rintro e w' ⟨rfl, hb⟩
      have HS2_ := (hb.cell (World.block_lt_of_cell? _ _ (hHeld.2.2.1))).trans (hHeld.2.2.1)
      have HS3_ := (hb.cell (World.block_lt_of_cell? _ _ (hHeld.2.2.2))).trans (hHeld.2.2.2)
      refine ⟨_, rfl, ?_⟩
      replace a2 := ak (Kd.S_below (xS a2.out) hb)
      replace a3 := ak (Kd.Q_below (xQ a3.out) hb)
      replace a1 := ak (blk_below (g := a6) (o := .cells #[.slice (some ad864) a4.length d5, .slice d9 a5.length d6] 26 (0, 0)) (xb a1.out) hb)
      replace HB := ak (below_step zk_0 hb)
      (try clear hb)
      (try clear hb2)
      (try clear hk)
      (try clear hi)
      refine hK.out _ _ ⟨(blk_cell a1.out 0).trans rfl, (blk_cell a1.out 1).trans rfl, HS2_, HS3_⟩ (fun hHeld => ?_)
      clear hK K
      refine no_ (N := some 59) ?_
      refine one_ (i := 24) (N := some 60) (bA 51 33554431) rfl rfl (one_of HT_.out zk_3) zk_25 (fun K hK => ?_)
      refine ge_ Try.func45 #[.agg #[.slice (some ad864) a4.length d5, .slice d9 a5.length d6], .int .i64 a7, .int .i64 f5] ?_
      with_reducible refine (impl_WithOk.calls _ _ a4 _ _ a5 a7 f5 true _ ?side1 ?side2 ?side3 ?side4 l1.out).mono ?_
      (case side1 => repeat (first | exact (Kd.S_reads' a2.out).2.2 | (with_reducible refine Kd.C_alloc ?_ _) | (with_reducible refine Kd.C_drewN ?_ _) | (with_reducible refine Kd.C_drew ?_)))
      (case side2 => exact (Kd.S_reads' a2.out).2.1)
      (case side3 => repeat (first | exact (Kd.Q_reads' a3.out).2.2 | (with_reducible refine Kd.C_alloc ?_ _) | (with_reducible refine Kd.C_drewN ?_ _) | (with_reducible refine Kd.C_drew ?_)))
      (case side4 => exact (Kd.Q_reads' a3.out).2.1)
      rintro e w' ⟨rfl, hb⟩
      have HS2_ := (hb.cell (World.block_lt_of_cell? _ _ (hHeld.2.2.1))).trans (hHeld.2.2.1)
      have HS3_ := (hb.cell (World.block_lt_of_cell? _ _ (hHeld.2.2.2))).trans (hHeld.2.2.2)
      refine ⟨_, rfl, ?_⟩
      replace a2 := ak (Kd.S_below (xS a2.out) hb)
      replace a3 := ak (Kd.Q_below (xQ a3.out) hb)
      replace a1 := ak (blk_below (g := a6) (o := .cells #[.slice (some ad864) a4.length d5, .slice d9 a5.length d6] 26 (0, 0)) (xb a1.out) hb)
      replace HB := ak (below_step zk_0 hb)
      (try clear hb)
      (try clear hb2)
      (try clear hk)
      (try clear hi)
      refine hK.out _ _ ⟨(blk_cell a1.out 0).trans rfl, (blk_cell a1.out 1).trans rfl, HS2_, HS3_⟩ (fun hHeld => ?_)
      clear hK K
      refine no_ (N := some 60) ?_
      refine pu_ (i := 25) (N := some 61) (bA 51 67108863) ?_
      refine pu_ (i := 26) (N := some 62) (bA 51 134217727) ?_
      refine pu_ (i := 27) (N := some 63) (bA 51 268435455) ?_
      refine pu_ (i := 29) (N := some 65) (bA 51 805306367) ?_
      refine pu_ (i := 32) (N := some 68) (bA 51 5100273663) ?_
      refine tk_ (i := 28) (N := some 64) (bA 51 5368709119) ?_
      refine pu_ (i := 30) (N := some 66) (bA 51 6442450943) ?_
      refine tk_ (i := 31) (N := some 67) (bA 51 8589934591) ?_
      refine pu_ (i := 33) (N := some 69) (bA 51 17179869183) ?_
      refine tk_ (i := 34) (N := some 70) (bA 51 34359738367) ?_
      refine pu_ (i := 35) (N := some 71) (bA 51 68719476735) ?_
      refine pu_ (i := 36) (N := some 72) (bA 51 137438953471) ?_
      refine of_ (i := 37) (N := some 73) (bA 51 274877906943) ?_
      refine pu_ (i := 38) (N := some 74) (bA 51 549755813887) ?_
      refine pu_ (i := 39) (N := some 75) (bA 51 1099511627775) ?_
      refine pu_ (i := 40) (N := some 76) (bA 51 2199023255551) ?_
      refine pu_ (i := 42) (N := some 78) (bA 51 6597069766655) ?_
      refine pu_ (i := 44) (N := some 80) (bA 51 24189255811071) ?_
      refine pu_ (i := 47) (N := some 83) (bA 51 164926744166399) ?_
      refine tk_ (i := 41) (N := some 77) (bA 51 167125767421951) ?_
      refine tk_ (i := 43) (N := some 79) (bA 51 175921860444159) ?_
      refine one_ (i := 45) (N := some 81) (bA 51 211106232532991) rfl rfl (one_of HT_.out zk_3) zk_25 (fun K hK => ?_)
      refine ge_ Try.func29 #[.agg #[.slice (some ad864) a4.length d5, .slice d9 a5.length d6], .int .i64 a9] ?_
      with_reducible refine (impl_NotOf.calls _ _ a4 _ _ a5 a9 h6 _ ?side1 ?side2 ?side3 ?side4 n8.out).mono ?_
      (case side1 => repeat (first | exact (Kd.S_reads' a2.out).2.2 | (with_reducible refine Kd.C_alloc ?_ _) | (with_reducible refine Kd.C_drewN ?_ _) | (with_reducible refine Kd.C_drew ?_)))
      (case side2 => exact (Kd.S_reads' a2.out).2.1)
      (case side3 => repeat (first | exact (Kd.Q_reads' a3.out).2.2 | (with_reducible refine Kd.C_alloc ?_ _) | (with_reducible refine Kd.C_drewN ?_ _) | (with_reducible refine Kd.C_drew ?_)))
      (case side4 => exact (Kd.Q_reads' a3.out).2.1)
      rintro e w' ⟨rfl, hb⟩
      have HS2_ := (hb.cell (World.block_lt_of_cell? _ _ (hHeld.2.2.1))).trans (hHeld.2.2.1)
      have HS3_ := (hb.cell (World.block_lt_of_cell? _ _ (hHeld.2.2.2))).trans (hHeld.2.2.2)
      refine ⟨_, rfl, ?_⟩
      replace a2 := ak (Kd.S_below (xS a2.out) hb)
      replace a3 := ak (Kd.Q_below (xQ a3.out) hb)
      replace a1 := ak (blk_below (g := a6) (o := .cells #[.slice (some ad864) a4.length d5, .slice d9 a5.length d6] 26 (0, 0)) (xb a1.out) hb)
      replace HB := ak (below_step zk_0 hb)
      (try clear hb)
      (try clear hb2)
      (try clear hk)
      (try clear hi)
      refine hK.out _ _ ⟨(blk_cell a1.out 0).trans rfl, (blk_cell a1.out 1).trans rfl, HS2_, HS3_⟩ (fun hHeld => ?_)
      clear hK K
      refine no_ (N := some 81) ?_
      refine one_ (i := 46) (N := some 82) (bA 51 281474976710655) rfl rfl (one_of HT_.out zk_3) zk_25 (fun K hK => ?_)
      refine ge_ Try.func45 #[.agg #[.slice (some ad864) a4.length d5, .slice d9 a5.length d6], .int .i64 a7, .int .i64 h6] ?_
      with_reducible refine (impl_WithOk.calls _ _ a4 _ _ a5 a7 h6 i4 _ ?side1 ?side2 ?side3 ?side4 n9.out).mono ?_
      (case side1 => repeat (first | exact (Kd.S_reads' a2.out).2.2 | (with_reducible refine Kd.C_alloc ?_ _) | (with_reducible refine Kd.C_drewN ?_ _) | (with_reducible refine Kd.C_drew ?_)))
      (case side2 => exact (Kd.S_reads' a2.out).2.1)
      (case side3 => repeat (first | exact (Kd.Q_reads' a3.out).2.2 | (with_reducible refine Kd.C_alloc ?_ _) | (with_reducible refine Kd.C_drewN ?_ _) | (with_reducible refine Kd.C_drew ?_)))
      (case side4 => exact (Kd.Q_reads' a3.out).2.1)
      rintro e w' ⟨rfl, hb⟩
      have HS2_ := (hb.cell (World.block_lt_of_cell? _ _ (hHeld.2.2.1))).trans (hHeld.2.2.1)
      have HS3_ := (hb.cell (World.block_lt_of_cell? _ _ (hHeld.2.2.2))).trans (hHeld.2.2.2)
      refine ⟨_, rfl, ?_⟩
      replace a2 := ak (Kd.S_below (xS a2.out) hb)
      replace a3 := ak (Kd.Q_below (xQ a3.out) hb)
      replace a1 := ak (blk_below (g := a6) (o := .cells #[.slice (some ad864) a4.length d5, .slice d9 a5.length d6] 26 (0, 0)) (xb a1.out) hb)
      replace HB := ak (below_step zk_0 hb)
      (try clear hb)
      (try clear hb2)
      (try clear hk)
      (try clear hi)
      refine hK.out _ _ ⟨(blk_cell a1.out 0).trans rfl, (blk_cell a1.out 1).trans rfl, HS2_, HS3_⟩ (fun hHeld => ?_)
      clear hK K
      refine no_ (N := some 82) ?_
      refine pu_ (i := 48) (N := some 84) (bA 51 562949953421311) ?_
      refine pu_ (i := 49) (N := some 85) (bA 51 1125899906842623) ?_
      refine pu_ (i := 50) (N := some 2) (bA 51 2251799813685247) ?_
      refine done_ (done_of HT_.out zk_3) ?_
      try go_wp2
      go_ret
      exact ⟨zk_2, zk_0⟩
     replace H := ox_ H
     rcases H with ⟨rfl, H⟩ | ⟨rfl, H⟩
     ·
      replace H := bd_ H
      obtain ⟨h7, o1, H⟩ := H
      replace H := bd_ H
      obtain ⟨i5, o2, H⟩ := H
      try dsimp only at H
      obtain rfl := Option.some.inj H
      go_enter Try.func11, Try.ntmps11
      try go_wp2_with (first | ((with_reducible refine gate_callee (f := 44) rfl ?_); refine gl_ (some 12) Try.func44 #[.slice A0 l0.length c0] ?_; (with_reducible refine (spec_DrawWithOk.calls k _ _ l0 a4 a5 a7 a9 _ (y4 HR0.out) h9.out A3.out).mono ?_); rintro e w' ⟨h0, h2, rfl, ho0, ho1, hb⟩; refine ⟨_, rfl, ?_⟩; have a2 := ak (Kd.S_lower ho0 (below_size zk_1)); have a3 := ak (Kd.Q_lower ho1 (below_size zk_1)); replace HB := ak (below_step zk_1 hb); (try clear hb); (try clear hb2); (try clear hk); (try clear hi); (try clear ho0); (try clear ho1)) | ((with_reducible refine gate_dst (N := 3) rfl ?_); refine bx_ (N := 3) (cs := #[.slice none 0 0, .slice none 0 0]) (t := 26) ?_; intro a6 hg q9 hbox hb; replace a2 := ak (Kd.S_below (xS a2.out) hb); replace a3 := ak (Kd.Q_below (xQ a3.out) hb); have a1 := ak (hbox); have f6 := ak ((by rw [hg]; exact (below_size zk_1) : w.heap.size ≤ a6)); have f3 := ak ((by rw [hg]; exact (below_size zk_1) : w.heap.size ≤ a6)); replace HB := ak (below_step zk_1 hb); clear hb hbox hg; obtain ⟨g9, d7, m4⟩ := Kd.S_slice a2.out; subst m4; have b0 := cz20 a1.out; have b1 := cz21 a1.out; have b2 := blk_frozen a1.out 0; have b3 := blk_frozen a1.out 1; obtain ⟨e0, d8, m5, _⟩ := Kd.Q_slice a3.out; subst m5) | ((with_reducible refine gate_callee (f := 45) rfl ?_); refine gl_ (some 19) Try.func45 #[.agg #[.slice g9 a4.length d7, .slice e0 a5.length d8], .int .i64 a7, .int .i64 a9] ?_; (with_reducible refine (impl_WithOk.calls _ _ a4 _ _ a5 a7 a9 true _ (by refine (Kd.S_reads' (e := 24) (base := w.heap.size) (ok := fun k_ => some k_ ≠ (.slice e0 a5.length d8 : Value).ownBlock) (n := a4.length) (c := d7) ?_).2.2; exact zk_15) (y2 a2.out) (by refine (Kd.Q_reads' (e := 3) (base := w.heap.size) (ok := fun k_ => True) (n := a5.length) (c := d8) ?_).2.2; exact zk_19) (y2 a3.out) A4.out).mono ?_); rintro e w' ⟨rfl, hb⟩; refine ⟨_, rfl, ?_⟩; replace a2 := ak (Kd.S_below zk_15 hb); replace a3 := ak (Kd.Q_below zk_19 hb); replace a1 := ak (blk_below (g := a6) (o := .cells #[.slice g9 a4.length d7, .slice e0 a5.length d8] 26 (0, 0)) (by (with_reducible repeat (first | refine blk_drewN ?_ _ | refine blk_drew ?_ | refine blk_alloc ?_ _)); refine blk_put (cs := #[.slice g9 a4.length d7, .slice none 0 0]) ?_ 1 _ rfl; (with_reducible repeat (first | refine blk_drewN ?_ _ | refine blk_drew ?_ | refine blk_alloc ?_ _)); refine blk_put (cs := #[.slice none 0 0, .slice none 0 0]) ?_ 0 _ rfl; (with_reducible repeat (first | refine blk_drewN ?_ _ | refine blk_drew ?_ | refine blk_alloc ?_ _)); exact a1.out) hb); replace HB := ak (below_step zk_0 hb); (try clear hb); (try clear hb2); (try clear hk); (try clear hi); have b0 := cz20 a1.out; have b1 := cz21 a1.out; have b2 := blk_frozen a1.out 0; have b3 := blk_frozen a1.out 1) | ((with_reducible refine gate_callee (f := 46) rfl ?_); refine gl_ (some 24) Try.func46 #[.agg #[.slice g9 a4.length d7, .slice e0 a5.length d8], .int .i64 a7, .int .i64 a9] ?_; (with_reducible refine (spec_WithOk.calls k _ _ a4 _ _ a5 a7 a9 e9 _ (y1 a2.out) (y2 a2.out) (y1 a3.out) (y2 a3.out) A5.out).mono ?_); rintro e w' ⟨rfl, hb⟩; refine ⟨_, rfl, ?_⟩; replace a2 := ak (Kd.S_below (xS a2.out) hb); replace a3 := ak (Kd.Q_below (xQ a3.out) hb); replace a1 := ak (blk_below (g := a6) (o := .cells #[.slice g9 a4.length d7, .slice e0 a5.length d8] 26 (0, 0)) (xb a1.out) hb); replace HB := ak (below_step zk_0 hb); (try clear hb); (try clear hb2); (try clear hk); (try clear hi); have b0 := cz20 a1.out; have b1 := cz21 a1.out; have b2 := blk_frozen a1.out 0; have b3 := blk_frozen a1.out 1) | ((with_reducible refine gate_callee (f := 28) rfl ?_); refine gl_ (some 29) Try.func28 #[.agg #[.slice g9 a4.length d7, .slice e0 a5.length d8], .int .i64 a7, .int .i64 a9] ?_; (with_reducible refine (spec_AndOf.calls k _ _ a4 _ _ a5 a7 a9 f8 _ (y1 a2.out) (y2 a2.out) (y1 a3.out) (y2 a3.out) i0.out).mono ?_); rintro e o3 ⟨rfl, hb⟩; refine ⟨_, rfl, ?_⟩; replace a2 := ak (Kd.S_below (xS a2.out) hb); replace a3 := ak (Kd.Q_below (xQ a3.out) hb); replace a1 := ak (blk_below (g := a6) (o := .cells #[.slice g9 a4.length d7, .slice e0 a5.length d8] 26 (0, 0)) (xb a1.out) hb); replace HB := ak (below_step zk_0 hb); (try clear hb); (try clear hb2); (try clear hk); (try clear hi)))
      replace a2 := ak (Kd.S_drew a2.out)
      replace a3 := ak (Kd.Q_drew a3.out)
      replace a1 := ak (blk_drew a1.out)
      replace HB := ak (below_drew1 HB.out)
      have f7 : 0 ≤ (a7 : Int) := oa_
      have q864 : a7 < (a4.length : Int) := oa_
      obtain ⟨ad864, h8, f9, e864, hx864_0, hl864_0, hi864_0⟩ := at_L1 (Kd.S_reads' a2.out).2.2 a7 f7 q864
      cases e864
      obtain ⟨ce864, hce864, hMe864, hcc864⟩ := Kd.S_get a2.out [] a7 f7 zk_26
      obtain ⟨ve864_0, rfl, ge864_0⟩ := hMe864
      have hv864_0 := hcc864 0 _ rfl
      rw [Nat.add_zero, show ((Kd.slice 3 (Kd.int .i64))).sz = 1 from rfl, Nat.mul_one] at hv864_0
      replace hv864_0 := Option.some.inj (hv864_0.symm.trans hx864_0)
      rw [hv864_0] at ge864_0
      have HL864_0 := ak (show Kd.R (Kd.int .i64) 3 _ _ _ _ (rd_L1 a4 a7) from ge864_0)
      clear hv864_0 ge864_0 hcc864 hce864
      have HR864_0 := ak hi864_0
      have h5 := ak hl864_0
      clear hi864_0 hl864_0
      replace f7 := eq_true f7
      replace q864 := eq_true q864
      obtain ⟨ad865, e865, hx865_0, j8, q865⟩ := ai_ zk_4 a9
      cases e865
      refine start_ (n := 51) (S := fun w' => w'.cell? ⟨a6, 0, none⟩ = some (.slice (some ad864) a4.length d7) ∧ w'.cell? ⟨a6, 1, none⟩ = some (.slice e0 a5.length d8) ∧ w'.cell? (ad864.add (a7).toNat) = some (.slice (some ad865) (rd_L1 a4 a7).length f9) ∧ w'.cell? (ad865.add (a9).toNat) = some (.int .i64 (rd (rd_L1 a4 a7) a9))) (ds := []) (bA 51 0) zk_3 rfl rfl ⟨(blk_cell a1.out 0).trans rfl, (blk_cell a1.out 1).trans rfl, hx864_0, hx865_0⟩ (fun hHeld => ?_); refine with_tabW laws_FnWithOk.tab9 laws_FnWithOk.bits9 (fun HT_ HW_ => ?_)
      generalize o3.drew = s0 at a2 a3 a1 HB HL864_0 HR864_0 hx864_0 hHeld ⊢
      refine pu_ (i := 1) (N := some 37) (bA 51 2) ?_
      refine pu_ (i := 2) (N := some 38) (bA 51 6) ?_
      refine tk_ (i := 0) (N := some 36) (bA 51 7) ?_
      refine one_ (i := 3) (N := some 39) (bA 51 15) rfl rfl (one_of HT_.out zk_3) zk_25 (fun K hK => ?_)
      refine ge_ Try.func45 #[.agg #[.slice (some ad864) a4.length d7, .slice e0 a5.length d8], .int .i64 a7, .int .i64 a7] ?_
      with_reducible refine (impl_WithOk.calls _ _ a4 _ _ a5 a7 a7 true _ ?side1 ?side2 ?side3 ?side4 i6.out).mono ?_
      (case side1 => repeat (first | exact (Kd.S_reads' a2.out).2.2 | (with_reducible refine Kd.C_alloc ?_ _) | (with_reducible refine Kd.C_drewN ?_ _) | (with_reducible refine Kd.C_drew ?_)))
      (case side2 => exact (Kd.S_reads' a2.out).2.1)
      (case side3 => repeat (first | exact (Kd.Q_reads' a3.out).2.2 | (with_reducible refine Kd.C_alloc ?_ _) | (with_reducible refine Kd.C_drewN ?_ _) | (with_reducible refine Kd.C_drew ?_)))
      (case side4 => exact (Kd.Q_reads' a3.out).2.1)
      rintro e w' ⟨rfl, hb⟩
      have HS2_ := (hb.cell (World.block_lt_of_cell? _ _ (hHeld.2.2.1))).trans (hHeld.2.2.1)
      have HS3_ := (hb.cell (World.block_lt_of_cell? _ _ (hHeld.2.2.2))).trans (hHeld.2.2.2)
      refine ⟨_, rfl, ?_⟩
      replace a2 := ak (Kd.S_below (xS a2.out) hb)
      replace a3 := ak (Kd.Q_below (xQ a3.out) hb)
      replace a1 := ak (blk_below (g := a6) (o := .cells #[.slice (some ad864) a4.length d7, .slice e0 a5.length d8] 26 (0, 0)) (xb a1.out) hb)
      replace HB := ak (below_step zk_0 hb)
      (try clear hb)
      (try clear hb2)
      (try clear hk)
      (try clear hi)
      refine hK.out _ _ ⟨(blk_cell a1.out 0).trans rfl, (blk_cell a1.out 1).trans rfl, HS2_, HS3_⟩ (fun hHeld => ?_)
      clear hK K
      refine no_ (N := some 39) ?_
      refine pu_ (i := 4) (N := some 40) (bA 51 31) ?_
      refine pu_ (i := 6) (N := some 42) (bA 51 95) ?_
      refine pu_ (i := 8) (N := some 44) (bA 51 351) ?_
      refine tk_ (i := 5) (N := some 41) (bA 51 383) ?_
      refine tk_ (i := 7) (N := some 43) (bA 51 511) ?_
      refine one_ (i := 9) (N := some 45) (bA 51 1023) rfl rfl (one_of HT_.out zk_3) zk_25 (fun K hK => ?_)
      refine ge_ Try.func29 #[.agg #[.slice (some ad864) a4.length d7, .slice e0 a5.length d8], .int .i64 a7] ?_
      with_reducible refine (impl_NotOf.calls _ _ a4 _ _ a5 a7 e7 _ ?side1 ?side2 ?side3 ?side4 i7.out).mono ?_
      (case side1 => repeat (first | exact (Kd.S_reads' a2.out).2.2 | (with_reducible refine Kd.C_alloc ?_ _) | (with_reducible refine Kd.C_drewN ?_ _) | (with_reducible refine Kd.C_drew ?_)))
      (case side2 => exact (Kd.S_reads' a2.out).2.1)
      (case side3 => repeat (first | exact (Kd.Q_reads' a3.out).2.2 | (with_reducible refine Kd.C_alloc ?_ _) | (with_reducible refine Kd.C_drewN ?_ _) | (with_reducible refine Kd.C_drew ?_)))
      (case side4 => exact (Kd.Q_reads' a3.out).2.1)
      rintro e w' ⟨rfl, hb⟩
      have HS2_ := (hb.cell (World.block_lt_of_cell? _ _ (hHeld.2.2.1))).trans (hHeld.2.2.1)
      have HS3_ := (hb.cell (World.block_lt_of_cell? _ _ (hHeld.2.2.2))).trans (hHeld.2.2.2)
      refine ⟨_, rfl, ?_⟩
      replace a2 := ak (Kd.S_below (xS a2.out) hb)
      replace a3 := ak (Kd.Q_below (xQ a3.out) hb)
      replace a1 := ak (blk_below (g := a6) (o := .cells #[.slice (some ad864) a4.length d7, .slice e0 a5.length d8] 26 (0, 0)) (xb a1.out) hb)
      replace HB := ak (below_step zk_0 hb)
      (try clear hb)
      (try clear hb2)
      (try clear hk)
      (try clear hi)
      refine hK.out _ _ ⟨(blk_cell a1.out 0).trans rfl, (blk_cell a1.out 1).trans rfl, HS2_, HS3_⟩ (fun hHeld => ?_)
      clear hK K
      refine no_ (N := some 45) ?_
      refine one_ (i := 10) (N := some 46) (bA 51 2047) rfl rfl (one_of HT_.out zk_3) zk_25 (fun K hK => ?_)
      refine ge_ Try.func45 #[.agg #[.slice (some ad864) a4.length d7, .slice e0 a5.length d8], .int .i64 a7, .int .i64 e7] ?_
      with_reducible refine (impl_WithOk.calls _ _ a4 _ _ a5 a7 e7 true _ ?side1 ?side2 ?side3 ?side4 i8.out).mono ?_
      (case side1 => repeat (first | exact (Kd.S_reads' a2.out).2.2 | (with_reducible refine Kd.C_alloc ?_ _) | (with_reducible refine Kd.C_drewN ?_ _) | (with_reducible refine Kd.C_drew ?_)))
      (case side2 => exact (Kd.S_reads' a2.out).2.1)
      (case side3 => repeat (first | exact (Kd.Q_reads' a3.out).2.2 | (with_reducible refine Kd.C_alloc ?_ _) | (with_reducible refine Kd.C_drewN ?_ _) | (with_reducible refine Kd.C_drew ?_)))
      (case side4 => exact (Kd.Q_reads' a3.out).2.1)
      rintro e w' ⟨rfl, hb⟩
      have HS2_ := (hb.cell (World.block_lt_of_cell? _ _ (hHeld.2.2.1))).trans (hHeld.2.2.1)
      have HS3_ := (hb.cell (World.block_lt_of_cell? _ _ (hHeld.2.2.2))).trans (hHeld.2.2.2)
      refine ⟨_, rfl, ?_⟩
      replace a2 := ak (Kd.S_below (xS a2.out) hb)
      replace a3 := ak (Kd.Q_below (xQ a3.out) hb)
      replace a1 := ak (blk_below (g := a6) (o := .cells #[.slice (some ad864) a4.length d7, .slice e0 a5.length d8] 26 (0, 0)) (xb a1.out) hb)
      replace HB := ak (below_step zk_0 hb)
      (try clear hb)
      (try clear hb2)
      (try clear hk)
      (try clear hi)
      refine hK.out _ _ ⟨(blk_cell a1.out 0).trans rfl, (blk_cell a1.out 1).trans rfl, HS2_, HS3_⟩ (fun hHeld => ?_)
      clear hK K
      refine no_ (N := some 46) ?_
      refine pu_ (i := 11) (N := some 47) (bA 51 4095) ?_
      refine pu_ (i := 12) (N := some 48) (bA 51 8191) ?_
      refine pu_ (i := 14) (N := some 50) (bA 51 24575) ?_
      refine tk_ (i := 13) (N := some 49) (bA 51 32767) ?_
      refine tk_ (i := 15) (N := some 51) (bA 51 65535) ?_
      refine one_ (i := 16) (N := some 52) (bA 51 131071) rfl rfl (one_of HT_.out zk_3) zk_25 (fun K hK => ?_)
      refine ge_ Try.func19 #[.agg #[.slice (some ad864) a4.length d7, .slice e0 a5.length d8]] ?_
      with_reducible refine (impl_NoOf.calls _ _ a4 _ _ a5 f2 _ ?side1 ?side2 ?side3 ?side4 j4.out).mono ?_
      (case side1 => repeat (first | exact (Kd.S_reads' a2.out).2.2 | (with_reducible refine Kd.C_alloc ?_ _) | (with_reducible refine Kd.C_drewN ?_ _) | (with_reducible refine Kd.C_drew ?_)))
      (case side2 => exact (Kd.S_reads' a2.out).2.1)
      (case side3 => repeat (first | exact (Kd.Q_reads' a3.out).2.2 | (with_reducible refine Kd.C_alloc ?_ _) | (with_reducible refine Kd.C_drewN ?_ _) | (with_reducible refine Kd.C_drew ?_)))
      (case side4 => exact (Kd.Q_reads' a3.out).2.1)
      rintro e w' ⟨rfl, hb⟩
      have HS2_ := (hb.cell (World.block_lt_of_cell? _ _ (hHeld.2.2.1))).trans (hHeld.2.2.1)
      have HS3_ := (hb.cell (World.block_lt_of_cell? _ _ (hHeld.2.2.2))).trans (hHeld.2.2.2)
      refine ⟨_, rfl, ?_⟩
      replace a2 := ak (Kd.S_below (xS a2.out) hb)
      replace a3 := ak (Kd.Q_below (xQ a3.out) hb)
      replace a1 := ak (blk_below (g := a6) (o := .cells #[.slice (some ad864) a4.length d7, .slice e0 a5.length d8] 26 (0, 0)) (xb a1.out) hb)
      replace HB := ak (below_step zk_0 hb)
      (try clear hb)
      (try clear hb2)
      (try clear hk)
      (try clear hi)
      refine hK.out _ _ ⟨(blk_cell a1.out 0).trans rfl, (blk_cell a1.out 1).trans rfl, HS2_, HS3_⟩ (fun hHeld => ?_)
      clear hK K
      refine no_ (N := some 52) ?_
      refine one_ (i := 17) (N := some 53) (bA 51 262143) rfl rfl (one_of HT_.out zk_3) zk_25 (fun K hK => ?_)
      refine ge_ Try.func45 #[.agg #[.slice (some ad864) a4.length d7, .slice e0 a5.length d8], .int .i64 a7, .int .i64 f2] ?_
      with_reducible refine (impl_WithOk.calls _ _ a4 _ _ a5 a7 f2 true _ ?side1 ?side2 ?side3 ?side4 j5.out).mono ?_
      (case side1 => repeat (first | exact (Kd.S_reads' a2.out).2.2 | (with_reducible refine Kd.C_alloc ?_ _) | (with_reducible refine Kd.C_drewN ?_ _) | (with_reducible refine Kd.C_drew ?_)))
      (case side2 => exact (Kd.S_reads' a2.out).2.1)
      (case side3 => repeat (first | exact (Kd.Q_reads' a3.out).2.2 | (with_reducible refine Kd.C_alloc ?_ _) | (with_reducible refine Kd.C_drewN ?_ _) | (with_reducible refine Kd.C_drew ?_)))
      (case side4 => exact (Kd.Q_reads' a3.out).2.1)
      rintro e w' ⟨rfl, hb⟩
      have HS2_ := (hb.cell (World.block_lt_of_cell? _ _ (hHeld.2.2.1))).trans (hHeld.2.2.1)
      have HS3_ := (hb.cell (World.block_lt_of_cell? _ _ (hHeld.2.2.2))).trans (hHeld.2.2.2)
      refine ⟨_, rfl, ?_⟩
      replace a2 := ak (Kd.S_below (xS a2.out) hb)
      replace a3 := ak (Kd.Q_below (xQ a3.out) hb)
      replace a1 := ak (blk_below (g := a6) (o := .cells #[.slice (some ad864) a4.length d7, .slice e0 a5.length d8] 26 (0, 0)) (xb a1.out) hb)
      replace HB := ak (below_step zk_0 hb)
      (try clear hb)
      (try clear hb2)
      (try clear hk)
      (try clear hi)
      refine hK.out _ _ ⟨(blk_cell a1.out 0).trans rfl, (blk_cell a1.out 1).trans rfl, HS2_, HS3_⟩ (fun hHeld => ?_)
      clear hK K
      refine no_ (N := some 53) ?_
      refine pu_ (i := 18) (N := some 54) (bA 51 524287) ?_
      refine pu_ (i := 19) (N := some 55) (bA 51 1048575) ?_
      refine pu_ (i := 21) (N := some 57) (bA 51 3145727) ?_
      refine tk_ (i := 20) (N := some 56) (bA 51 4194303) ?_
      refine tk_ (i := 22) (N := some 58) (bA 51 8388607) ?_
      refine one_ (i := 23) (N := some 59) (bA 51 16777215) rfl rfl (one_of HT_.out zk_3) zk_25 (fun K hK => ?_)
      refine ge_ Try.func23 #[.agg #[.slice (some ad864) a4.length d7, .slice e0 a5.length d8]] ?_
      with_reducible refine (impl_YesOf.calls _ _ a4 _ _ a5 f5 _ ?side1 ?side2 ?side3 ?side4 k9.out).mono ?_
      (case side1 => repeat (first | exact (Kd.S_reads' a2.out).2.2 | (with_reducible refine Kd.C_alloc ?_ _) | (with_reducible refine Kd.C_drewN ?_ _) | (with_reducible refine Kd.C_drew ?_)))
      (case side2 => exact (Kd.S_reads' a2.out).2.1)
      (case side3 => repeat (first | exact (Kd.Q_reads' a3.out).2.2 | (with_reducible refine Kd.C_alloc ?_ _) | (with_reducible refine Kd.C_drewN ?_ _) | (with_reducible refine Kd.C_drew ?_)))
      (case side4 => exact (Kd.Q_reads' a3.out).2.1)
      rintro e w' ⟨rfl, hb⟩
      have HS2_ := (hb.cell (World.block_lt_of_cell? _ _ (hHeld.2.2.1))).trans (hHeld.2.2.1)
      have HS3_ := (hb.cell (World.block_lt_of_cell? _ _ (hHeld.2.2.2))).trans (hHeld.2.2.2)
      refine ⟨_, rfl, ?_⟩
      replace a2 := ak (Kd.S_below (xS a2.out) hb)
      replace a3 := ak (Kd.Q_below (xQ a3.out) hb)
      replace a1 := ak (blk_below (g := a6) (o := .cells #[.slice (some ad864) a4.length d7, .slice e0 a5.length d8] 26 (0, 0)) (xb a1.out) hb)
      replace HB := ak (below_step zk_0 hb)
      (try clear hb)
      (try clear hb2)
      (try clear hk)
      (try clear hi)
      refine hK.out _ _ ⟨(blk_cell a1.out 0).trans rfl, (blk_cell a1.out 1).trans rfl, HS2_, HS3_⟩ (fun hHeld => ?_)
      clear hK K
      refine no_ (N := some 59) ?_
      refine one_ (i := 24) (N := some 60) (bA 51 33554431) rfl rfl (one_of HT_.out zk_3) zk_25 (fun K hK => ?_)
      refine ge_ Try.func45 #[.agg #[.slice (some ad864) a4.length d7, .slice e0 a5.length d8], .int .i64 a7, .int .i64 f5] ?_
      with_reducible refine (impl_WithOk.calls _ _ a4 _ _ a5 a7 f5 true _ ?side1 ?side2 ?side3 ?side4 l1.out).mono ?_
      (case side1 => repeat (first | exact (Kd.S_reads' a2.out).2.2 | (with_reducible refine Kd.C_alloc ?_ _) | (with_reducible refine Kd.C_drewN ?_ _) | (with_reducible refine Kd.C_drew ?_)))
      (case side2 => exact (Kd.S_reads' a2.out).2.1)
      (case side3 => repeat (first | exact (Kd.Q_reads' a3.out).2.2 | (with_reducible refine Kd.C_alloc ?_ _) | (with_reducible refine Kd.C_drewN ?_ _) | (with_reducible refine Kd.C_drew ?_)))
      (case side4 => exact (Kd.Q_reads' a3.out).2.1)
      rintro e w' ⟨rfl, hb⟩
      have HS2_ := (hb.cell (World.block_lt_of_cell? _ _ (hHeld.2.2.1))).trans (hHeld.2.2.1)
      have HS3_ := (hb.cell (World.block_lt_of_cell? _ _ (hHeld.2.2.2))).trans (hHeld.2.2.2)
      refine ⟨_, rfl, ?_⟩
      replace a2 := ak (Kd.S_below (xS a2.out) hb)
      replace a3 := ak (Kd.Q_below (xQ a3.out) hb)
      replace a1 := ak (blk_below (g := a6) (o := .cells #[.slice (some ad864) a4.length d7, .slice e0 a5.length d8] 26 (0, 0)) (xb a1.out) hb)
      replace HB := ak (below_step zk_0 hb)
      (try clear hb)
      (try clear hb2)
      (try clear hk)
      (try clear hi)
      refine hK.out _ _ ⟨(blk_cell a1.out 0).trans rfl, (blk_cell a1.out 1).trans rfl, HS2_, HS3_⟩ (fun hHeld => ?_)
      clear hK K
      refine no_ (N := some 60) ?_
      refine pu_ (i := 25) (N := some 61) (bA 51 67108863) ?_
      refine pu_ (i := 26) (N := some 62) (bA 51 134217727) ?_
      refine pu_ (i := 27) (N := some 63) (bA 51 268435455) ?_
      refine pu_ (i := 29) (N := some 65) (bA 51 805306367) ?_
      refine pu_ (i := 32) (N := some 68) (bA 51 5100273663) ?_
      refine tk_ (i := 28) (N := some 64) (bA 51 5368709119) ?_
      refine pu_ (i := 30) (N := some 66) (bA 51 6442450943) ?_
      refine tk_ (i := 31) (N := some 67) (bA 51 8589934591) ?_
      refine pu_ (i := 33) (N := some 69) (bA 51 17179869183) ?_
      refine tk_ (i := 34) (N := some 70) (bA 51 34359738367) ?_
      refine pu_ (i := 35) (N := some 71) (bA 51 68719476735) ?_
      refine pu_ (i := 36) (N := some 72) (bA 51 137438953471) ?_
      refine pu_ (i := 37) (N := some 73) (bA 51 274877906943) ?_
      refine pu_ (i := 38) (N := some 74) (bA 51 549755813887) ?_
      refine pu_ (i := 39) (N := some 75) (bA 51 1099511627775) ?_
      refine pu_ (i := 40) (N := some 76) (bA 51 2199023255551) ?_
      refine pu_ (i := 42) (N := some 78) (bA 51 6597069766655) ?_
      refine pu_ (i := 44) (N := some 80) (bA 51 24189255811071) ?_
      refine pu_ (i := 47) (N := some 83) (bA 51 164926744166399) ?_
      refine tk_ (i := 41) (N := some 77) (bA 51 167125767421951) ?_
      refine tk_ (i := 43) (N := some 79) (bA 51 175921860444159) ?_
      refine one_ (i := 45) (N := some 81) (bA 51 211106232532991) rfl rfl (one_of HT_.out zk_3) zk_25 (fun K hK => ?_)
      refine ge_ Try.func29 #[.agg #[.slice (some ad864) a4.length d7, .slice e0 a5.length d8], .int .i64 a9] ?_
      with_reducible refine (impl_NotOf.calls _ _ a4 _ _ a5 a9 h7 _ ?side1 ?side2 ?side3 ?side4 o1.out).mono ?_
      (case side1 => repeat (first | exact (Kd.S_reads' a2.out).2.2 | (with_reducible refine Kd.C_alloc ?_ _) | (with_reducible refine Kd.C_drewN ?_ _) | (with_reducible refine Kd.C_drew ?_)))
      (case side2 => exact (Kd.S_reads' a2.out).2.1)
      (case side3 => repeat (first | exact (Kd.Q_reads' a3.out).2.2 | (with_reducible refine Kd.C_alloc ?_ _) | (with_reducible refine Kd.C_drewN ?_ _) | (with_reducible refine Kd.C_drew ?_)))
      (case side4 => exact (Kd.Q_reads' a3.out).2.1)
      rintro e w' ⟨rfl, hb⟩
      have HS2_ := (hb.cell (World.block_lt_of_cell? _ _ (hHeld.2.2.1))).trans (hHeld.2.2.1)
      have HS3_ := (hb.cell (World.block_lt_of_cell? _ _ (hHeld.2.2.2))).trans (hHeld.2.2.2)
      refine ⟨_, rfl, ?_⟩
      replace a2 := ak (Kd.S_below (xS a2.out) hb)
      replace a3 := ak (Kd.Q_below (xQ a3.out) hb)
      replace a1 := ak (blk_below (g := a6) (o := .cells #[.slice (some ad864) a4.length d7, .slice e0 a5.length d8] 26 (0, 0)) (xb a1.out) hb)
      replace HB := ak (below_step zk_0 hb)
      (try clear hb)
      (try clear hb2)
      (try clear hk)
      (try clear hi)
      refine hK.out _ _ ⟨(blk_cell a1.out 0).trans rfl, (blk_cell a1.out 1).trans rfl, HS2_, HS3_⟩ (fun hHeld => ?_)
      clear hK K
      refine no_ (N := some 81) ?_
      refine one_ (i := 46) (N := some 82) (bA 51 281474976710655) rfl rfl (one_of HT_.out zk_3) zk_25 (fun K hK => ?_)
      refine ge_ Try.func45 #[.agg #[.slice (some ad864) a4.length d7, .slice e0 a5.length d8], .int .i64 a7, .int .i64 h7] ?_
      with_reducible refine (impl_WithOk.calls _ _ a4 _ _ a5 a7 h7 i5 _ ?side1 ?side2 ?side3 ?side4 o2.out).mono ?_
      (case side1 => repeat (first | exact (Kd.S_reads' a2.out).2.2 | (with_reducible refine Kd.C_alloc ?_ _) | (with_reducible refine Kd.C_drewN ?_ _) | (with_reducible refine Kd.C_drew ?_)))
      (case side2 => exact (Kd.S_reads' a2.out).2.1)
      (case side3 => repeat (first | exact (Kd.Q_reads' a3.out).2.2 | (with_reducible refine Kd.C_alloc ?_ _) | (with_reducible refine Kd.C_drewN ?_ _) | (with_reducible refine Kd.C_drew ?_)))
      (case side4 => exact (Kd.Q_reads' a3.out).2.1)
      rintro e w' ⟨rfl, hb⟩
      have HS2_ := (hb.cell (World.block_lt_of_cell? _ _ (hHeld.2.2.1))).trans (hHeld.2.2.1)
      have HS3_ := (hb.cell (World.block_lt_of_cell? _ _ (hHeld.2.2.2))).trans (hHeld.2.2.2)
      refine ⟨_, rfl, ?_⟩
      replace a2 := ak (Kd.S_below (xS a2.out) hb)
      replace a3 := ak (Kd.Q_below (xQ a3.out) hb)
      replace a1 := ak (blk_below (g := a6) (o := .cells #[.slice (some ad864) a4.length d7, .slice e0 a5.length d8] 26 (0, 0)) (xb a1.out) hb)
      replace HB := ak (below_step zk_0 hb)
      (try clear hb)
      (try clear hb2)
      (try clear hk)
      (try clear hi)
      refine hK.out _ _ ⟨(blk_cell a1.out 0).trans rfl, (blk_cell a1.out 1).trans rfl, HS2_, HS3_⟩ (fun hHeld => ?_)
      clear hK K
      refine no_ (N := some 82) ?_
      refine pu_ (i := 48) (N := some 84) (bA 51 562949953421311) ?_
      refine pu_ (i := 49) (N := some 85) (bA 51 1125899906842623) ?_
      refine pu_ (i := 50) (N := some 2) (bA 51 2251799813685247) ?_
      refine done_ (done_of HT_.out zk_3) ?_
      try go_wp2
      go_ret
      exact ⟨zk_2, zk_0⟩
     obtain rfl := Option.some.inj H
     go_enter Try.func11, Try.ntmps11
     try go_wp2_with (first | ((with_reducible refine gate_callee (f := 44) rfl ?_); refine gl_ (some 12) Try.func44 #[.slice A0 l0.length c0] ?_; (with_reducible refine (spec_DrawWithOk.calls k _ _ l0 a4 a5 a7 a9 _ (y4 HR0.out) h9.out A3.out).mono ?_); rintro e w' ⟨h0, h2, rfl, ho0, ho1, hb⟩; refine ⟨_, rfl, ?_⟩; have a2 := ak (Kd.S_lower ho0 (below_size zk_1)); have a3 := ak (Kd.Q_lower ho1 (below_size zk_1)); replace HB := ak (below_step zk_1 hb); (try clear hb); (try clear hb2); (try clear hk); (try clear hi); (try clear ho0); (try clear ho1)) | ((with_reducible refine gate_dst (N := 3) rfl ?_); refine bx_ (N := 3) (cs := #[.slice none 0 0, .slice none 0 0]) (t := 26) ?_; intro a6 hg o4 hbox hb; replace a2 := ak (Kd.S_below (xS a2.out) hb); replace a3 := ak (Kd.Q_below (xQ a3.out) hb); have a1 := ak (hbox); have f6 := ak ((by rw [hg]; exact (below_size zk_1) : w.heap.size ≤ a6)); have f3 := ak ((by rw [hg]; exact (below_size zk_1) : w.heap.size ≤ a6)); replace HB := ak (below_step zk_1 hb); clear hb hbox hg; obtain ⟨f4, b4, j9⟩ := Kd.S_slice a2.out; subst j9; have b0 := cz20 a1.out; have b1 := cz21 a1.out; have b2 := blk_frozen a1.out 0; have b3 := blk_frozen a1.out 1; obtain ⟨b8, b5, k0, _⟩ := Kd.Q_slice a3.out; subst k0) | ((with_reducible refine gate_callee (f := 45) rfl ?_); refine gl_ (some 19) Try.func45 #[.agg #[.slice f4 a4.length b4, .slice b8 a5.length b5], .int .i64 a7, .int .i64 a9] ?_; (with_reducible refine (impl_WithOk.calls _ _ a4 _ _ a5 a7 a9 false _ (by refine (Kd.S_reads' (e := 24) (base := w.heap.size) (ok := fun k_ => some k_ ≠ (.slice b8 a5.length b5 : Value).ownBlock) (n := a4.length) (c := b4) ?_).2.2; exact zk_9) (y2 a2.out) (by refine (Kd.Q_reads' (e := 3) (base := w.heap.size) (ok := fun k_ => True) (n := a5.length) (c := b5) ?_).2.2; exact zk_14) (y2 a3.out) A4.out).mono ?_); rintro e w' ⟨rfl, hb⟩; refine ⟨_, rfl, ?_⟩; replace a2 := ak (Kd.S_below zk_9 hb); replace a3 := ak (Kd.Q_below zk_14 hb); replace a1 := ak (blk_below (g := a6) (o := .cells #[.slice f4 a4.length b4, .slice b8 a5.length b5] 26 (0, 0)) (by (with_reducible repeat (first | refine blk_drewN ?_ _ | refine blk_drew ?_ | refine blk_alloc ?_ _)); refine blk_put (cs := #[.slice f4 a4.length b4, .slice none 0 0]) ?_ 1 _ rfl; (with_reducible repeat (first | refine blk_drewN ?_ _ | refine blk_drew ?_ | refine blk_alloc ?_ _)); refine blk_put (cs := #[.slice none 0 0, .slice none 0 0]) ?_ 0 _ rfl; (with_reducible repeat (first | refine blk_drewN ?_ _ | refine blk_drew ?_ | refine blk_alloc ?_ _)); exact a1.out) hb); replace HB := ak (below_step zk_0 hb); (try clear hb); (try clear hb2); (try clear hk); (try clear hi); have b0 := cz20 a1.out; have b1 := cz21 a1.out; have b2 := blk_frozen a1.out 0; have b3 := blk_frozen a1.out 1) | ((with_reducible refine gate_callee (f := 46) rfl ?_); refine gl_ (some 24) Try.func46 #[.agg #[.slice f4 a4.length b4, .slice b8 a5.length b5], .int .i64 a7, .int .i64 a9] ?_; (with_reducible refine (spec_WithOk.calls k _ _ a4 _ _ a5 a7 a9 e9 _ (y1 a2.out) (y2 a2.out) (y1 a3.out) (y2 a3.out) A5.out).mono ?_); rintro e w' ⟨rfl, hb⟩; refine ⟨_, rfl, ?_⟩; replace a2 := ak (Kd.S_below (xS a2.out) hb); replace a3 := ak (Kd.Q_below (xQ a3.out) hb); replace a1 := ak (blk_below (g := a6) (o := .cells #[.slice f4 a4.length b4, .slice b8 a5.length b5] 26 (0, 0)) (xb a1.out) hb); replace HB := ak (below_step zk_0 hb); (try clear hb); (try clear hb2); (try clear hk); (try clear hi); have b0 := cz20 a1.out; have b1 := cz21 a1.out; have b2 := blk_frozen a1.out 0; have b3 := blk_frozen a1.out 1) | ((with_reducible refine gate_callee (f := 28) rfl ?_); refine gl_ (some 29) Try.func28 #[.agg #[.slice f4 a4.length b4, .slice b8 a5.length b5], .int .i64 a7, .int .i64 a9] ?_; (with_reducible refine (spec_AndOf.calls k _ _ a4 _ _ a5 a7 a9 f8 _ (y1 a2.out) (y2 a2.out) (y1 a3.out) (y2 a3.out) i0.out).mono ?_); rintro e m6 ⟨rfl, hb⟩; refine ⟨_, rfl, ?_⟩; replace a2 := ak (Kd.S_below (xS a2.out) hb); replace a3 := ak (Kd.Q_below (xQ a3.out) hb); replace a1 := ak (blk_below (g := a6) (o := .cells #[.slice f4 a4.length b4, .slice b8 a5.length b5] 26 (0, 0)) (xb a1.out) hb); replace HB := ak (below_step zk_0 hb); (try clear hb); (try clear hb2); (try clear hk); (try clear hi)))
     replace a2 := ak (Kd.S_drew a2.out)
     replace a3 := ak (Kd.Q_drew a3.out)
     replace a1 := ak (blk_drew a1.out)
     replace HB := ak (below_drew1 HB.out)
     have f7 : 0 ≤ (a7 : Int) := oa_
     have q864 : a7 < (a4.length : Int) := oa_
     obtain ⟨ad864, h8, f9, e864, hx864_0, hl864_0, hi864_0⟩ := at_L1 (Kd.S_reads' a2.out).2.2 a7 f7 q864
     cases e864
     obtain ⟨ce864, hce864, hMe864, hcc864⟩ := Kd.S_get a2.out [] a7 f7 zk_26
     obtain ⟨ve864_0, rfl, ge864_0⟩ := hMe864
     have hv864_0 := hcc864 0 _ rfl
     rw [Nat.add_zero, show ((Kd.slice 3 (Kd.int .i64))).sz = 1 from rfl, Nat.mul_one] at hv864_0
     replace hv864_0 := Option.some.inj (hv864_0.symm.trans hx864_0)
     rw [hv864_0] at ge864_0
     have HL864_0 := ak (show Kd.R (Kd.int .i64) 3 _ _ _ _ (rd_L1 a4 a7) from ge864_0)
     clear hv864_0 ge864_0 hcc864 hce864
     have HR864_0 := ak hi864_0
     have h5 := ak hl864_0
     clear hi864_0 hl864_0
     replace f7 := eq_true f7
     replace q864 := eq_true q864
     obtain ⟨ad865, e865, hx865_0, j8, q865⟩ := ai_ zk_4 a9
     cases e865
     refine start_ (n := 51) (S := fun w' => w'.cell? ⟨a6, 0, none⟩ = some (.slice (some ad864) a4.length b4) ∧ w'.cell? ⟨a6, 1, none⟩ = some (.slice b8 a5.length b5) ∧ w'.cell? (ad864.add (a7).toNat) = some (.slice (some ad865) (rd_L1 a4 a7).length f9) ∧ w'.cell? (ad865.add (a9).toNat) = some (.int .i64 (rd (rd_L1 a4 a7) a9))) (ds := []) (bA 51 0) zk_3 rfl rfl ⟨(blk_cell a1.out 0).trans rfl, (blk_cell a1.out 1).trans rfl, hx864_0, hx865_0⟩ (fun hHeld => ?_); refine with_tabW laws_FnWithOk.tab9 laws_FnWithOk.bits9 (fun HT_ HW_ => ?_)
     generalize m6.drew = o5 at a2 a3 a1 HB HL864_0 HR864_0 hx864_0 hHeld ⊢
     refine pu_ (i := 1) (N := some 37) (bA 51 2) ?_
     refine pu_ (i := 2) (N := some 38) (bA 51 6) ?_
     refine tk_ (i := 0) (N := some 36) (bA 51 7) ?_
     refine one_ (i := 3) (N := some 39) (bA 51 15) rfl rfl (one_of HT_.out zk_3) zk_25 (fun K hK => ?_)
     refine ge_ Try.func45 #[.agg #[.slice (some ad864) a4.length b4, .slice b8 a5.length b5], .int .i64 a7, .int .i64 a7] ?_
     with_reducible refine (impl_WithOk.calls _ _ a4 _ _ a5 a7 a7 true _ ?side1 ?side2 ?side3 ?side4 i6.out).mono ?_
     (case side1 => repeat (first | exact (Kd.S_reads' a2.out).2.2 | (with_reducible refine Kd.C_alloc ?_ _) | (with_reducible refine Kd.C_drewN ?_ _) | (with_reducible refine Kd.C_drew ?_)))
     (case side2 => exact (Kd.S_reads' a2.out).2.1)
     (case side3 => repeat (first | exact (Kd.Q_reads' a3.out).2.2 | (with_reducible refine Kd.C_alloc ?_ _) | (with_reducible refine Kd.C_drewN ?_ _) | (with_reducible refine Kd.C_drew ?_)))
     (case side4 => exact (Kd.Q_reads' a3.out).2.1)
     rintro e w' ⟨rfl, hb⟩
     have HS2_ := (hb.cell (World.block_lt_of_cell? _ _ (hHeld.2.2.1))).trans (hHeld.2.2.1)
     have HS3_ := (hb.cell (World.block_lt_of_cell? _ _ (hHeld.2.2.2))).trans (hHeld.2.2.2)
     refine ⟨_, rfl, ?_⟩
     replace a2 := ak (Kd.S_below (xS a2.out) hb)
     replace a3 := ak (Kd.Q_below (xQ a3.out) hb)
     replace a1 := ak (blk_below (g := a6) (o := .cells #[.slice (some ad864) a4.length b4, .slice b8 a5.length b5] 26 (0, 0)) (xb a1.out) hb)
     replace HB := ak (below_step zk_0 hb)
     (try clear hb)
     (try clear hb2)
     (try clear hk)
     (try clear hi)
     refine hK.out _ _ ⟨(blk_cell a1.out 0).trans rfl, (blk_cell a1.out 1).trans rfl, HS2_, HS3_⟩ (fun hHeld => ?_)
     clear hK K
     refine no_ (N := some 39) ?_
     refine pu_ (i := 4) (N := some 40) (bA 51 31) ?_
     refine pu_ (i := 6) (N := some 42) (bA 51 95) ?_
     refine pu_ (i := 8) (N := some 44) (bA 51 351) ?_
     refine tk_ (i := 5) (N := some 41) (bA 51 383) ?_
     refine tk_ (i := 7) (N := some 43) (bA 51 511) ?_
     refine one_ (i := 9) (N := some 45) (bA 51 1023) rfl rfl (one_of HT_.out zk_3) zk_25 (fun K hK => ?_)
     refine ge_ Try.func29 #[.agg #[.slice (some ad864) a4.length b4, .slice b8 a5.length b5], .int .i64 a7] ?_
     with_reducible refine (impl_NotOf.calls _ _ a4 _ _ a5 a7 e7 _ ?side1 ?side2 ?side3 ?side4 i7.out).mono ?_
     (case side1 => repeat (first | exact (Kd.S_reads' a2.out).2.2 | (with_reducible refine Kd.C_alloc ?_ _) | (with_reducible refine Kd.C_drewN ?_ _) | (with_reducible refine Kd.C_drew ?_)))
     (case side2 => exact (Kd.S_reads' a2.out).2.1)
     (case side3 => repeat (first | exact (Kd.Q_reads' a3.out).2.2 | (with_reducible refine Kd.C_alloc ?_ _) | (with_reducible refine Kd.C_drewN ?_ _) | (with_reducible refine Kd.C_drew ?_)))
     (case side4 => exact (Kd.Q_reads' a3.out).2.1)
     rintro e w' ⟨rfl, hb⟩
     have HS2_ := (hb.cell (World.block_lt_of_cell? _ _ (hHeld.2.2.1))).trans (hHeld.2.2.1)
     have HS3_ := (hb.cell (World.block_lt_of_cell? _ _ (hHeld.2.2.2))).trans (hHeld.2.2.2)
     refine ⟨_, rfl, ?_⟩
     replace a2 := ak (Kd.S_below (xS a2.out) hb)
     replace a3 := ak (Kd.Q_below (xQ a3.out) hb)
     replace a1 := ak (blk_below (g := a6) (o := .cells #[.slice (some ad864) a4.length b4, .slice b8 a5.length b5] 26 (0, 0)) (xb a1.out) hb)
     replace HB := ak (below_step zk_0 hb)
     (try clear hb)
     (try clear hb2)
     (try clear hk)
     (try clear hi)
     refine hK.out _ _ ⟨(blk_cell a1.out 0).trans rfl, (blk_cell a1.out 1).trans rfl, HS2_, HS3_⟩ (fun hHeld => ?_)
     clear hK K
     refine no_ (N := some 45) ?_
     refine one_ (i := 10) (N := some 46) (bA 51 2047) rfl rfl (one_of HT_.out zk_3) zk_25 (fun K hK => ?_)
     refine ge_ Try.func45 #[.agg #[.slice (some ad864) a4.length b4, .slice b8 a5.length b5], .int .i64 a7, .int .i64 e7] ?_
     with_reducible refine (impl_WithOk.calls _ _ a4 _ _ a5 a7 e7 true _ ?side1 ?side2 ?side3 ?side4 i8.out).mono ?_
     (case side1 => repeat (first | exact (Kd.S_reads' a2.out).2.2 | (with_reducible refine Kd.C_alloc ?_ _) | (with_reducible refine Kd.C_drewN ?_ _) | (with_reducible refine Kd.C_drew ?_)))
     (case side2 => exact (Kd.S_reads' a2.out).2.1)
     (case side3 => repeat (first | exact (Kd.Q_reads' a3.out).2.2 | (with_reducible refine Kd.C_alloc ?_ _) | (with_reducible refine Kd.C_drewN ?_ _) | (with_reducible refine Kd.C_drew ?_)))
     (case side4 => exact (Kd.Q_reads' a3.out).2.1)
     rintro e w' ⟨rfl, hb⟩
     have HS2_ := (hb.cell (World.block_lt_of_cell? _ _ (hHeld.2.2.1))).trans (hHeld.2.2.1)
     have HS3_ := (hb.cell (World.block_lt_of_cell? _ _ (hHeld.2.2.2))).trans (hHeld.2.2.2)
     refine ⟨_, rfl, ?_⟩
     replace a2 := ak (Kd.S_below (xS a2.out) hb)
     replace a3 := ak (Kd.Q_below (xQ a3.out) hb)
     replace a1 := ak (blk_below (g := a6) (o := .cells #[.slice (some ad864) a4.length b4, .slice b8 a5.length b5] 26 (0, 0)) (xb a1.out) hb)
     replace HB := ak (below_step zk_0 hb)
     (try clear hb)
     (try clear hb2)
     (try clear hk)
     (try clear hi)
     refine hK.out _ _ ⟨(blk_cell a1.out 0).trans rfl, (blk_cell a1.out 1).trans rfl, HS2_, HS3_⟩ (fun hHeld => ?_)
     clear hK K
     refine no_ (N := some 46) ?_
     refine pu_ (i := 11) (N := some 47) (bA 51 4095) ?_
     refine pu_ (i := 12) (N := some 48) (bA 51 8191) ?_
     refine pu_ (i := 14) (N := some 50) (bA 51 24575) ?_
     refine tk_ (i := 13) (N := some 49) (bA 51 32767) ?_
     refine tk_ (i := 15) (N := some 51) (bA 51 65535) ?_
     refine one_ (i := 16) (N := some 52) (bA 51 131071) rfl rfl (one_of HT_.out zk_3) zk_25 (fun K hK => ?_)
     refine ge_ Try.func19 #[.agg #[.slice (some ad864) a4.length b4, .slice b8 a5.length b5]] ?_
     with_reducible refine (impl_NoOf.calls _ _ a4 _ _ a5 f2 _ ?side1 ?side2 ?side3 ?side4 j4.out).mono ?_
     (case side1 => repeat (first | exact (Kd.S_reads' a2.out).2.2 | (with_reducible refine Kd.C_alloc ?_ _) | (with_reducible refine Kd.C_drewN ?_ _) | (with_reducible refine Kd.C_drew ?_)))
     (case side2 => exact (Kd.S_reads' a2.out).2.1)
     (case side3 => repeat (first | exact (Kd.Q_reads' a3.out).2.2 | (with_reducible refine Kd.C_alloc ?_ _) | (with_reducible refine Kd.C_drewN ?_ _) | (with_reducible refine Kd.C_drew ?_)))
     (case side4 => exact (Kd.Q_reads' a3.out).2.1)
     rintro e w' ⟨rfl, hb⟩
     have HS2_ := (hb.cell (World.block_lt_of_cell? _ _ (hHeld.2.2.1))).trans (hHeld.2.2.1)
     have HS3_ := (hb.cell (World.block_lt_of_cell? _ _ (hHeld.2.2.2))).trans (hHeld.2.2.2)
     refine ⟨_, rfl, ?_⟩
     replace a2 := ak (Kd.S_below (xS a2.out) hb)
     replace a3 := ak (Kd.Q_below (xQ a3.out) hb)
     replace a1 := ak (blk_below (g := a6) (o := .cells #[.slice (some ad864) a4.length b4, .slice b8 a5.length b5] 26 (0, 0)) (xb a1.out) hb)
     replace HB := ak (below_step zk_0 hb)
     (try clear hb)
     (try clear hb2)
     (try clear hk)
     (try clear hi)
     refine hK.out _ _ ⟨(blk_cell a1.out 0).trans rfl, (blk_cell a1.out 1).trans rfl, HS2_, HS3_⟩ (fun hHeld => ?_)
     clear hK K
     refine no_ (N := some 52) ?_
     refine one_ (i := 17) (N := some 53) (bA 51 262143) rfl rfl (one_of HT_.out zk_3) zk_25 (fun K hK => ?_)
     refine ge_ Try.func45 #[.agg #[.slice (some ad864) a4.length b4, .slice b8 a5.length b5], .int .i64 a7, .int .i64 f2] ?_
     with_reducible refine (impl_WithOk.calls _ _ a4 _ _ a5 a7 f2 true _ ?side1 ?side2 ?side3 ?side4 j5.out).mono ?_
     (case side1 => repeat (first | exact (Kd.S_reads' a2.out).2.2 | (with_reducible refine Kd.C_alloc ?_ _) | (with_reducible refine Kd.C_drewN ?_ _) | (with_reducible refine Kd.C_drew ?_)))
     (case side2 => exact (Kd.S_reads' a2.out).2.1)
     (case side3 => repeat (first | exact (Kd.Q_reads' a3.out).2.2 | (with_reducible refine Kd.C_alloc ?_ _) | (with_reducible refine Kd.C_drewN ?_ _) | (with_reducible refine Kd.C_drew ?_)))
     (case side4 => exact (Kd.Q_reads' a3.out).2.1)
     rintro e w' ⟨rfl, hb⟩
     have HS2_ := (hb.cell (World.block_lt_of_cell? _ _ (hHeld.2.2.1))).trans (hHeld.2.2.1)
     have HS3_ := (hb.cell (World.block_lt_of_cell? _ _ (hHeld.2.2.2))).trans (hHeld.2.2.2)
     refine ⟨_, rfl, ?_⟩
     replace a2 := ak (Kd.S_below (xS a2.out) hb)
     replace a3 := ak (Kd.Q_below (xQ a3.out) hb)
     replace a1 := ak (blk_below (g := a6) (o := .cells #[.slice (some ad864) a4.length b4, .slice b8 a5.length b5] 26 (0, 0)) (xb a1.out) hb)
     replace HB := ak (below_step zk_0 hb)
     (try clear hb)
     (try clear hb2)
     (try clear hk)
     (try clear hi)
     refine hK.out _ _ ⟨(blk_cell a1.out 0).trans rfl, (blk_cell a1.out 1).trans rfl, HS2_, HS3_⟩ (fun hHeld => ?_)
     clear hK K
     refine no_ (N := some 53) ?_
     refine pu_ (i := 18) (N := some 54) (bA 51 524287) ?_
     refine pu_ (i := 19) (N := some 55) (bA 51 1048575) ?_
     refine pu_ (i := 21) (N := some 57) (bA 51 3145727) ?_
     refine tk_ (i := 20) (N := some 56) (bA 51 4194303) ?_
     refine tk_ (i := 22) (N := some 58) (bA 51 8388607) ?_
     refine one_ (i := 23) (N := some 59) (bA 51 16777215) rfl rfl (one_of HT_.out zk_3) zk_25 (fun K hK => ?_)
     refine ge_ Try.func23 #[.agg #[.slice (some ad864) a4.length b4, .slice b8 a5.length b5]] ?_
     with_reducible refine (impl_YesOf.calls _ _ a4 _ _ a5 f5 _ ?side1 ?side2 ?side3 ?side4 k9.out).mono ?_
     (case side1 => repeat (first | exact (Kd.S_reads' a2.out).2.2 | (with_reducible refine Kd.C_alloc ?_ _) | (with_reducible refine Kd.C_drewN ?_ _) | (with_reducible refine Kd.C_drew ?_)))
     (case side2 => exact (Kd.S_reads' a2.out).2.1)
     (case side3 => repeat (first | exact (Kd.Q_reads' a3.out).2.2 | (with_reducible refine Kd.C_alloc ?_ _) | (with_reducible refine Kd.C_drewN ?_ _) | (with_reducible refine Kd.C_drew ?_)))
     (case side4 => exact (Kd.Q_reads' a3.out).2.1)
     rintro e w' ⟨rfl, hb⟩
     have HS2_ := (hb.cell (World.block_lt_of_cell? _ _ (hHeld.2.2.1))).trans (hHeld.2.2.1)
     have HS3_ := (hb.cell (World.block_lt_of_cell? _ _ (hHeld.2.2.2))).trans (hHeld.2.2.2)
     refine ⟨_, rfl, ?_⟩
     replace a2 := ak (Kd.S_below (xS a2.out) hb)
     replace a3 := ak (Kd.Q_below (xQ a3.out) hb)
     replace a1 := ak (blk_below (g := a6) (o := .cells #[.slice (some ad864) a4.length b4, .slice b8 a5.length b5] 26 (0, 0)) (xb a1.out) hb)
     replace HB := ak (below_step zk_0 hb)
     (try clear hb)
     (try clear hb2)
     (try clear hk)
     (try clear hi)
     refine hK.out _ _ ⟨(blk_cell a1.out 0).trans rfl, (blk_cell a1.out 1).trans rfl, HS2_, HS3_⟩ (fun hHeld => ?_)
     clear hK K
     refine no_ (N := some 59) ?_
     refine one_ (i := 24) (N := some 60) (bA 51 33554431) rfl rfl (one_of HT_.out zk_3) zk_25 (fun K hK => ?_)
     refine ge_ Try.func45 #[.agg #[.slice (some ad864) a4.length b4, .slice b8 a5.length b5], .int .i64 a7, .int .i64 f5] ?_
     with_reducible refine (impl_WithOk.calls _ _ a4 _ _ a5 a7 f5 true _ ?side1 ?side2 ?side3 ?side4 l1.out).mono ?_
     (case side1 => repeat (first | exact (Kd.S_reads' a2.out).2.2 | (with_reducible refine Kd.C_alloc ?_ _) | (with_reducible refine Kd.C_drewN ?_ _) | (with_reducible refine Kd.C_drew ?_)))
     (case side2 => exact (Kd.S_reads' a2.out).2.1)
     (case side3 => repeat (first | exact (Kd.Q_reads' a3.out).2.2 | (with_reducible refine Kd.C_alloc ?_ _) | (with_reducible refine Kd.C_drewN ?_ _) | (with_reducible refine Kd.C_drew ?_)))
     (case side4 => exact (Kd.Q_reads' a3.out).2.1)
     rintro e w' ⟨rfl, hb⟩
     have HS2_ := (hb.cell (World.block_lt_of_cell? _ _ (hHeld.2.2.1))).trans (hHeld.2.2.1)
     have HS3_ := (hb.cell (World.block_lt_of_cell? _ _ (hHeld.2.2.2))).trans (hHeld.2.2.2)
     refine ⟨_, rfl, ?_⟩
     replace a2 := ak (Kd.S_below (xS a2.out) hb)
     replace a3 := ak (Kd.Q_below (xQ a3.out) hb)
     replace a1 := ak (blk_below (g := a6) (o := .cells #[.slice (some ad864) a4.length b4, .slice b8 a5.length b5] 26 (0, 0)) (xb a1.out) hb)
     replace HB := ak (below_step zk_0 hb)
     (try clear hb)
     (try clear hb2)
     (try clear hk)
     (try clear hi)
     refine hK.out _ _ ⟨(blk_cell a1.out 0).trans rfl, (blk_cell a1.out 1).trans rfl, HS2_, HS3_⟩ (fun hHeld => ?_)
     clear hK K
     refine no_ (N := some 60) ?_
     refine pu_ (i := 25) (N := some 61) (bA 51 67108863) ?_
     refine pu_ (i := 26) (N := some 62) (bA 51 134217727) ?_
     refine pu_ (i := 27) (N := some 63) (bA 51 268435455) ?_
     refine pu_ (i := 29) (N := some 65) (bA 51 805306367) ?_
     refine pu_ (i := 32) (N := some 68) (bA 51 5100273663) ?_
     refine tk_ (i := 28) (N := some 64) (bA 51 5368709119) ?_
     refine pu_ (i := 30) (N := some 66) (bA 51 6442450943) ?_
     refine tk_ (i := 31) (N := some 67) (bA 51 8589934591) ?_
     refine pu_ (i := 33) (N := some 69) (bA 51 17179869183) ?_
     refine tk_ (i := 34) (N := some 70) (bA 51 34359738367) ?_
     refine pu_ (i := 35) (N := some 71) (bA 51 68719476735) ?_
     refine pu_ (i := 36) (N := some 72) (bA 51 137438953471) ?_
     refine pu_ (i := 37) (N := some 73) (bA 51 274877906943) ?_
     refine pu_ (i := 38) (N := some 74) (bA 51 549755813887) ?_
     refine pu_ (i := 39) (N := some 75) (bA 51 1099511627775) ?_
     refine pu_ (i := 40) (N := some 76) (bA 51 2199023255551) ?_
     refine of_ (i := 41) (N := some 77) (bA 51 4398046511103) ?_
     refine of_ (i := 42) (N := some 78) (bA 51 8796093022207) ?_
     refine of_ (i := 43) (N := some 79) (bA 51 17592186044415) ?_
     refine of_ (i := 44) (N := some 80) (bA 51 35184372088831) ?_
     refine of_ (i := 45) (N := some 81) (bA 51 70368744177663) ?_
     refine of_ (i := 46) (N := some 82) (bA 51 140737488355327) ?_
     refine of_ (i := 47) (N := some 83) (bA 51 281474976710655) ?_
     refine of_ (i := 48) (N := some 84) (bA 51 562949953421311) ?_
     refine pu_ (i := 49) (N := some 85) (bA 51 1125899906842623) ?_
     refine pu_ (i := 50) (N := some 2) (bA 51 2251799813685247) ?_
     refine done_ (done_of HT_.out zk_3) ?_
     try go_wp2
     go_ret
     exact ⟨zk_2, zk_0⟩
    obtain rfl := Option.some.inj H
    go_enter Try.func11, Try.ntmps11
    try go_wp2_with (first | ((with_reducible refine gate_callee (f := 44) rfl ?_); refine gl_ (some 12) Try.func44 #[.slice A0 l0.length c0] ?_; (with_reducible refine (spec_DrawWithOk.calls k _ _ l0 a4 a5 a7 a9 _ (y4 HR0.out) h9.out A3.out).mono ?_); rintro e w' ⟨h0, h2, rfl, ho0, ho1, hb⟩; refine ⟨_, rfl, ?_⟩; have a2 := ak (Kd.S_lower ho0 (below_size zk_1)); have a3 := ak (Kd.Q_lower ho1 (below_size zk_1)); replace HB := ak (below_step zk_1 hb); (try clear hb); (try clear hb2); (try clear hk); (try clear hi); (try clear ho0); (try clear ho1)) | ((with_reducible refine gate_dst (N := 3) rfl ?_); refine bx_ (N := 3) (cs := #[.slice none 0 0, .slice none 0 0]) (t := 26) ?_; intro a6 hg o6 hbox hb; replace a2 := ak (Kd.S_below (xS a2.out) hb); replace a3 := ak (Kd.Q_below (xQ a3.out) hb); have a1 := ak (hbox); have f6 := ak ((by rw [hg]; exact (below_size zk_1) : w.heap.size ≤ a6)); have f3 := ak ((by rw [hg]; exact (below_size zk_1) : w.heap.size ≤ a6)); replace HB := ak (below_step zk_1 hb); clear hb hbox hg; obtain ⟨b9, b6, k1⟩ := Kd.S_slice a2.out; subst k1; have b0 := cz20 a1.out; have b1 := cz21 a1.out; have b2 := blk_frozen a1.out 0; have b3 := blk_frozen a1.out 1; obtain ⟨d0, b7, k2, _⟩ := Kd.Q_slice a3.out; subst k2) | ((with_reducible refine gate_callee (f := 45) rfl ?_); refine gl_ (some 19) Try.func45 #[.agg #[.slice b9 a4.length b6, .slice d0 a5.length b7], .int .i64 a7, .int .i64 a9] ?_; (with_reducible refine (impl_WithOk.calls _ _ a4 _ _ a5 a7 a9 e8 _ (by refine (Kd.S_reads' (e := 24) (base := w.heap.size) (ok := fun k_ => some k_ ≠ (.slice d0 a5.length b7 : Value).ownBlock) (n := a4.length) (c := b6) ?_).2.2; exact zk_8) (y2 a2.out) (by refine (Kd.Q_reads' (e := 3) (base := w.heap.size) (ok := fun k_ => True) (n := a5.length) (c := b7) ?_).2.2; exact zk_13) (y2 a3.out) A4.out).mono ?_); rintro e w' ⟨rfl, hb⟩; refine ⟨_, rfl, ?_⟩; replace a2 := ak (Kd.S_below zk_8 hb); replace a3 := ak (Kd.Q_below zk_13 hb); replace a1 := ak (blk_below (g := a6) (o := .cells #[.slice b9 a4.length b6, .slice d0 a5.length b7] 26 (0, 0)) (by (with_reducible repeat (first | refine blk_drewN ?_ _ | refine blk_drew ?_ | refine blk_alloc ?_ _)); refine blk_put (cs := #[.slice b9 a4.length b6, .slice none 0 0]) ?_ 1 _ rfl; (with_reducible repeat (first | refine blk_drewN ?_ _ | refine blk_drew ?_ | refine blk_alloc ?_ _)); refine blk_put (cs := #[.slice none 0 0, .slice none 0 0]) ?_ 0 _ rfl; (with_reducible repeat (first | refine blk_drewN ?_ _ | refine blk_drew ?_ | refine blk_alloc ?_ _)); exact a1.out) hb); replace HB := ak (below_step zk_0 hb); (try clear hb); (try clear hb2); (try clear hk); (try clear hi); have b0 := cz20 a1.out; have b1 := cz21 a1.out; have b2 := blk_frozen a1.out 0; have b3 := blk_frozen a1.out 1) | ((with_reducible refine gate_callee (f := 46) rfl ?_); refine gl_ (some 24) Try.func46 #[.agg #[.slice b9 a4.length b6, .slice d0 a5.length b7], .int .i64 a7, .int .i64 a9] ?_; (with_reducible refine (spec_WithOk.calls k _ _ a4 _ _ a5 a7 a9 e9 _ (y1 a2.out) (y2 a2.out) (y1 a3.out) (y2 a3.out) A5.out).mono ?_); rintro e w' ⟨rfl, hb⟩; refine ⟨_, rfl, ?_⟩; replace a2 := ak (Kd.S_below (xS a2.out) hb); replace a3 := ak (Kd.Q_below (xQ a3.out) hb); replace a1 := ak (blk_below (g := a6) (o := .cells #[.slice b9 a4.length b6, .slice d0 a5.length b7] 26 (0, 0)) (xb a1.out) hb); replace HB := ak (below_step zk_0 hb); (try clear hb); (try clear hb2); (try clear hk); (try clear hi); have b0 := cz20 a1.out; have b1 := cz21 a1.out; have b2 := blk_frozen a1.out 0; have b3 := blk_frozen a1.out 1) | ((with_reducible refine gate_callee (f := 28) rfl ?_); refine gl_ (some 29) Try.func28 #[.agg #[.slice b9 a4.length b6, .slice d0 a5.length b7], .int .i64 a7, .int .i64 a9] ?_; (with_reducible refine (spec_AndOf.calls k _ _ a4 _ _ a5 a7 a9 f8 _ (y1 a2.out) (y2 a2.out) (y1 a3.out) (y2 a3.out) i0.out).mono ?_); rintro e m7 ⟨rfl, hb⟩; refine ⟨_, rfl, ?_⟩; replace a2 := ak (Kd.S_below (xS a2.out) hb); replace a3 := ak (Kd.Q_below (xQ a3.out) hb); replace a1 := ak (blk_below (g := a6) (o := .cells #[.slice b9 a4.length b6, .slice d0 a5.length b7] 26 (0, 0)) (xb a1.out) hb); replace HB := ak (below_step zk_0 hb); (try clear hb); (try clear hb2); (try clear hk); (try clear hi)))
    replace a2 := ak (Kd.S_drew a2.out)
    replace a3 := ak (Kd.Q_drew a3.out)
    replace a1 := ak (blk_drew a1.out)
    replace HB := ak (below_drew1 HB.out)
    refine start_ (n := 51) (S := fun w' => w'.cell? ⟨a6, 0, none⟩ = some (.slice b9 a4.length b6) ∧ w'.cell? ⟨a6, 1, none⟩ = some (.slice d0 a5.length b7)) (ds := []) (bA 51 0) zk_3 rfl rfl ⟨(blk_cell a1.out 0).trans rfl, (blk_cell a1.out 1).trans rfl⟩ (fun hHeld => ?_); refine with_tabW laws_FnWithOk.tab9 laws_FnWithOk.bits9 (fun HT_ HW_ => ?_)
    generalize m7.drew = o7 at a2 a3 a1 HB hHeld ⊢
    refine pu_ (i := 1) (N := some 37) (bA 51 2) ?_
    refine pu_ (i := 2) (N := some 38) (bA 51 6) ?_
    refine tk_ (i := 0) (N := some 36) (bA 51 7) ?_
    refine one_ (i := 3) (N := some 39) (bA 51 15) rfl rfl (one_of HT_.out zk_3) zk_25 (fun K hK => ?_)
    refine ge_ Try.func45 #[.agg #[.slice b9 a4.length b6, .slice d0 a5.length b7], .int .i64 a7, .int .i64 a7] ?_
    with_reducible refine (impl_WithOk.calls _ _ a4 _ _ a5 a7 a7 true _ ?side1 ?side2 ?side3 ?side4 i6.out).mono ?_
    (case side1 => repeat (first | exact (Kd.S_reads' a2.out).2.2 | (with_reducible refine Kd.C_alloc ?_ _) | (with_reducible refine Kd.C_drewN ?_ _) | (with_reducible refine Kd.C_drew ?_)))
    (case side2 => exact (Kd.S_reads' a2.out).2.1)
    (case side3 => repeat (first | exact (Kd.Q_reads' a3.out).2.2 | (with_reducible refine Kd.C_alloc ?_ _) | (with_reducible refine Kd.C_drewN ?_ _) | (with_reducible refine Kd.C_drew ?_)))
    (case side4 => exact (Kd.Q_reads' a3.out).2.1)
    rintro e w' ⟨rfl, hb⟩
    refine ⟨_, rfl, ?_⟩
    replace a2 := ak (Kd.S_below (xS a2.out) hb)
    replace a3 := ak (Kd.Q_below (xQ a3.out) hb)
    replace a1 := ak (blk_below (g := a6) (o := .cells #[.slice b9 a4.length b6, .slice d0 a5.length b7] 26 (0, 0)) (xb a1.out) hb)
    replace HB := ak (below_step zk_0 hb)
    (try clear hb)
    (try clear hb2)
    (try clear hk)
    (try clear hi)
    refine hK.out _ _ ⟨(blk_cell a1.out 0).trans rfl, (blk_cell a1.out 1).trans rfl⟩ (fun hHeld => ?_)
    clear hK K
    refine no_ (N := some 39) ?_
    refine pu_ (i := 4) (N := some 40) (bA 51 31) ?_
    refine pu_ (i := 6) (N := some 42) (bA 51 95) ?_
    refine pu_ (i := 8) (N := some 44) (bA 51 351) ?_
    refine tk_ (i := 5) (N := some 41) (bA 51 383) ?_
    refine tk_ (i := 7) (N := some 43) (bA 51 511) ?_
    refine one_ (i := 9) (N := some 45) (bA 51 1023) rfl rfl (one_of HT_.out zk_3) zk_25 (fun K hK => ?_)
    refine ge_ Try.func29 #[.agg #[.slice b9 a4.length b6, .slice d0 a5.length b7], .int .i64 a7] ?_
    with_reducible refine (impl_NotOf.calls _ _ a4 _ _ a5 a7 e7 _ ?side1 ?side2 ?side3 ?side4 i7.out).mono ?_
    (case side1 => repeat (first | exact (Kd.S_reads' a2.out).2.2 | (with_reducible refine Kd.C_alloc ?_ _) | (with_reducible refine Kd.C_drewN ?_ _) | (with_reducible refine Kd.C_drew ?_)))
    (case side2 => exact (Kd.S_reads' a2.out).2.1)
    (case side3 => repeat (first | exact (Kd.Q_reads' a3.out).2.2 | (with_reducible refine Kd.C_alloc ?_ _) | (with_reducible refine Kd.C_drewN ?_ _) | (with_reducible refine Kd.C_drew ?_)))
    (case side4 => exact (Kd.Q_reads' a3.out).2.1)
    rintro e w' ⟨rfl, hb⟩
    refine ⟨_, rfl, ?_⟩
    replace a2 := ak (Kd.S_below (xS a2.out) hb)
    replace a3 := ak (Kd.Q_below (xQ a3.out) hb)
    replace a1 := ak (blk_below (g := a6) (o := .cells #[.slice b9 a4.length b6, .slice d0 a5.length b7] 26 (0, 0)) (xb a1.out) hb)
    replace HB := ak (below_step zk_0 hb)
    (try clear hb)
    (try clear hb2)
    (try clear hk)
    (try clear hi)
    refine hK.out _ _ ⟨(blk_cell a1.out 0).trans rfl, (blk_cell a1.out 1).trans rfl⟩ (fun hHeld => ?_)
    clear hK K
    refine no_ (N := some 45) ?_
    refine one_ (i := 10) (N := some 46) (bA 51 2047) rfl rfl (one_of HT_.out zk_3) zk_25 (fun K hK => ?_)
    refine ge_ Try.func45 #[.agg #[.slice b9 a4.length b6, .slice d0 a5.length b7], .int .i64 a7, .int .i64 e7] ?_
    with_reducible refine (impl_WithOk.calls _ _ a4 _ _ a5 a7 e7 true _ ?side1 ?side2 ?side3 ?side4 i8.out).mono ?_
    (case side1 => repeat (first | exact (Kd.S_reads' a2.out).2.2 | (with_reducible refine Kd.C_alloc ?_ _) | (with_reducible refine Kd.C_drewN ?_ _) | (with_reducible refine Kd.C_drew ?_)))
    (case side2 => exact (Kd.S_reads' a2.out).2.1)
    (case side3 => repeat (first | exact (Kd.Q_reads' a3.out).2.2 | (with_reducible refine Kd.C_alloc ?_ _) | (with_reducible refine Kd.C_drewN ?_ _) | (with_reducible refine Kd.C_drew ?_)))
    (case side4 => exact (Kd.Q_reads' a3.out).2.1)
    rintro e w' ⟨rfl, hb⟩
    refine ⟨_, rfl, ?_⟩
    replace a2 := ak (Kd.S_below (xS a2.out) hb)
    replace a3 := ak (Kd.Q_below (xQ a3.out) hb)
    replace a1 := ak (blk_below (g := a6) (o := .cells #[.slice b9 a4.length b6, .slice d0 a5.length b7] 26 (0, 0)) (xb a1.out) hb)
    replace HB := ak (below_step zk_0 hb)
    (try clear hb)
    (try clear hb2)
    (try clear hk)
    (try clear hi)
    refine hK.out _ _ ⟨(blk_cell a1.out 0).trans rfl, (blk_cell a1.out 1).trans rfl⟩ (fun hHeld => ?_)
    clear hK K
    refine no_ (N := some 46) ?_
    refine pu_ (i := 11) (N := some 47) (bA 51 4095) ?_
    refine pu_ (i := 12) (N := some 48) (bA 51 8191) ?_
    refine pu_ (i := 14) (N := some 50) (bA 51 24575) ?_
    refine tk_ (i := 13) (N := some 49) (bA 51 32767) ?_
    refine tk_ (i := 15) (N := some 51) (bA 51 65535) ?_
    refine one_ (i := 16) (N := some 52) (bA 51 131071) rfl rfl (one_of HT_.out zk_3) zk_25 (fun K hK => ?_)
    refine ge_ Try.func19 #[.agg #[.slice b9 a4.length b6, .slice d0 a5.length b7]] ?_
    with_reducible refine (impl_NoOf.calls _ _ a4 _ _ a5 f2 _ ?side1 ?side2 ?side3 ?side4 j4.out).mono ?_
    (case side1 => repeat (first | exact (Kd.S_reads' a2.out).2.2 | (with_reducible refine Kd.C_alloc ?_ _) | (with_reducible refine Kd.C_drewN ?_ _) | (with_reducible refine Kd.C_drew ?_)))
    (case side2 => exact (Kd.S_reads' a2.out).2.1)
    (case side3 => repeat (first | exact (Kd.Q_reads' a3.out).2.2 | (with_reducible refine Kd.C_alloc ?_ _) | (with_reducible refine Kd.C_drewN ?_ _) | (with_reducible refine Kd.C_drew ?_)))
    (case side4 => exact (Kd.Q_reads' a3.out).2.1)
    rintro e w' ⟨rfl, hb⟩
    refine ⟨_, rfl, ?_⟩
    replace a2 := ak (Kd.S_below (xS a2.out) hb)
    replace a3 := ak (Kd.Q_below (xQ a3.out) hb)
    replace a1 := ak (blk_below (g := a6) (o := .cells #[.slice b9 a4.length b6, .slice d0 a5.length b7] 26 (0, 0)) (xb a1.out) hb)
    replace HB := ak (below_step zk_0 hb)
    (try clear hb)
    (try clear hb2)
    (try clear hk)
    (try clear hi)
    refine hK.out _ _ ⟨(blk_cell a1.out 0).trans rfl, (blk_cell a1.out 1).trans rfl⟩ (fun hHeld => ?_)
    clear hK K
    refine no_ (N := some 52) ?_
    refine one_ (i := 17) (N := some 53) (bA 51 262143) rfl rfl (one_of HT_.out zk_3) zk_25 (fun K hK => ?_)
    refine ge_ Try.func45 #[.agg #[.slice b9 a4.length b6, .slice d0 a5.length b7], .int .i64 a7, .int .i64 f2] ?_
    with_reducible refine (impl_WithOk.calls _ _ a4 _ _ a5 a7 f2 true _ ?side1 ?side2 ?side3 ?side4 j5.out).mono ?_
    (case side1 => repeat (first | exact (Kd.S_reads' a2.out).2.2 | (with_reducible refine Kd.C_alloc ?_ _) | (with_reducible refine Kd.C_drewN ?_ _) | (with_reducible refine Kd.C_drew ?_)))
    (case side2 => exact (Kd.S_reads' a2.out).2.1)
    (case side3 => repeat (first | exact (Kd.Q_reads' a3.out).2.2 | (with_reducible refine Kd.C_alloc ?_ _) | (with_reducible refine Kd.C_drewN ?_ _) | (with_reducible refine Kd.C_drew ?_)))
    (case side4 => exact (Kd.Q_reads' a3.out).2.1)
    rintro e w' ⟨rfl, hb⟩
    refine ⟨_, rfl, ?_⟩
    replace a2 := ak (Kd.S_below (xS a2.out) hb)
    replace a3 := ak (Kd.Q_below (xQ a3.out) hb)
    replace a1 := ak (blk_below (g := a6) (o := .cells #[.slice b9 a4.length b6, .slice d0 a5.length b7] 26 (0, 0)) (xb a1.out) hb)
    replace HB := ak (below_step zk_0 hb)
    (try clear hb)
    (try clear hb2)
    (try clear hk)
    (try clear hi)
    refine hK.out _ _ ⟨(blk_cell a1.out 0).trans rfl, (blk_cell a1.out 1).trans rfl⟩ (fun hHeld => ?_)
    clear hK K
    refine no_ (N := some 53) ?_
    refine pu_ (i := 18) (N := some 54) (bA 51 524287) ?_
    refine pu_ (i := 19) (N := some 55) (bA 51 1048575) ?_
    refine pu_ (i := 21) (N := some 57) (bA 51 3145727) ?_
    refine tk_ (i := 20) (N := some 56) (bA 51 4194303) ?_
    refine tk_ (i := 22) (N := some 58) (bA 51 8388607) ?_
    refine one_ (i := 23) (N := some 59) (bA 51 16777215) rfl rfl (one_of HT_.out zk_3) zk_25 (fun K hK => ?_)
    refine ge_ Try.func23 #[.agg #[.slice b9 a4.length b6, .slice d0 a5.length b7]] ?_
    with_reducible refine (impl_YesOf.calls _ _ a4 _ _ a5 f5 _ ?side1 ?side2 ?side3 ?side4 k9.out).mono ?_
    (case side1 => repeat (first | exact (Kd.S_reads' a2.out).2.2 | (with_reducible refine Kd.C_alloc ?_ _) | (with_reducible refine Kd.C_drewN ?_ _) | (with_reducible refine Kd.C_drew ?_)))
    (case side2 => exact (Kd.S_reads' a2.out).2.1)
    (case side3 => repeat (first | exact (Kd.Q_reads' a3.out).2.2 | (with_reducible refine Kd.C_alloc ?_ _) | (with_reducible refine Kd.C_drewN ?_ _) | (with_reducible refine Kd.C_drew ?_)))
    (case side4 => exact (Kd.Q_reads' a3.out).2.1)
    rintro e w' ⟨rfl, hb⟩
    refine ⟨_, rfl, ?_⟩
    replace a2 := ak (Kd.S_below (xS a2.out) hb)
    replace a3 := ak (Kd.Q_below (xQ a3.out) hb)
    replace a1 := ak (blk_below (g := a6) (o := .cells #[.slice b9 a4.length b6, .slice d0 a5.length b7] 26 (0, 0)) (xb a1.out) hb)
    replace HB := ak (below_step zk_0 hb)
    (try clear hb)
    (try clear hb2)
    (try clear hk)
    (try clear hi)
    refine hK.out _ _ ⟨(blk_cell a1.out 0).trans rfl, (blk_cell a1.out 1).trans rfl⟩ (fun hHeld => ?_)
    clear hK K
    refine no_ (N := some 59) ?_
    refine one_ (i := 24) (N := some 60) (bA 51 33554431) rfl rfl (one_of HT_.out zk_3) zk_25 (fun K hK => ?_)
    refine ge_ Try.func45 #[.agg #[.slice b9 a4.length b6, .slice d0 a5.length b7], .int .i64 a7, .int .i64 f5] ?_
    with_reducible refine (impl_WithOk.calls _ _ a4 _ _ a5 a7 f5 false _ ?side1 ?side2 ?side3 ?side4 l1.out).mono ?_
    (case side1 => repeat (first | exact (Kd.S_reads' a2.out).2.2 | (with_reducible refine Kd.C_alloc ?_ _) | (with_reducible refine Kd.C_drewN ?_ _) | (with_reducible refine Kd.C_drew ?_)))
    (case side2 => exact (Kd.S_reads' a2.out).2.1)
    (case side3 => repeat (first | exact (Kd.Q_reads' a3.out).2.2 | (with_reducible refine Kd.C_alloc ?_ _) | (with_reducible refine Kd.C_drewN ?_ _) | (with_reducible refine Kd.C_drew ?_)))
    (case side4 => exact (Kd.Q_reads' a3.out).2.1)
    rintro e w' ⟨rfl, hb⟩
    refine ⟨_, rfl, ?_⟩
    replace a2 := ak (Kd.S_below (xS a2.out) hb)
    replace a3 := ak (Kd.Q_below (xQ a3.out) hb)
    replace a1 := ak (blk_below (g := a6) (o := .cells #[.slice b9 a4.length b6, .slice d0 a5.length b7] 26 (0, 0)) (xb a1.out) hb)
    replace HB := ak (below_step zk_0 hb)
    (try clear hb)
    (try clear hb2)
    (try clear hk)
    (try clear hi)
    refine hK.out _ _ ⟨(blk_cell a1.out 0).trans rfl, (blk_cell a1.out 1).trans rfl⟩ (fun hHeld => ?_)
    clear hK K
    refine no_ (N := some 60) ?_
    refine pu_ (i := 25) (N := some 61) (bA 51 67108863) ?_
    refine pu_ (i := 26) (N := some 62) (bA 51 134217727) ?_
    refine of_ (i := 27) (N := some 63) (bA 51 268435455) ?_
    refine of_ (i := 28) (N := some 64) (bA 51 536870911) ?_
    refine of_ (i := 29) (N := some 65) (bA 51 1073741823) ?_
    refine of_ (i := 30) (N := some 66) (bA 51 2147483647) ?_
    refine of_ (i := 31) (N := some 67) (bA 51 4294967295) ?_
    refine of_ (i := 32) (N := some 68) (bA 51 8589934591) ?_
    refine of_ (i := 33) (N := some 69) (bA 51 17179869183) ?_
    refine of_ (i := 34) (N := some 70) (bA 51 34359738367) ?_
    refine of_ (i := 35) (N := some 71) (bA 51 68719476735) ?_
    refine of_ (i := 36) (N := some 72) (bA 51 137438953471) ?_
    refine of_ (i := 37) (N := some 73) (bA 51 274877906943) ?_
    refine of_ (i := 38) (N := some 74) (bA 51 549755813887) ?_
    refine pu_ (i := 39) (N := some 75) (bA 51 1099511627775) ?_
    refine pu_ (i := 40) (N := some 76) (bA 51 2199023255551) ?_
    refine of_ (i := 41) (N := some 77) (bA 51 4398046511103) ?_
    refine of_ (i := 42) (N := some 78) (bA 51 8796093022207) ?_
    refine of_ (i := 43) (N := some 79) (bA 51 17592186044415) ?_
    refine of_ (i := 44) (N := some 80) (bA 51 35184372088831) ?_
    refine of_ (i := 45) (N := some 81) (bA 51 70368744177663) ?_
    refine of_ (i := 46) (N := some 82) (bA 51 140737488355327) ?_
    refine of_ (i := 47) (N := some 83) (bA 51 281474976710655) ?_
    refine of_ (i := 48) (N := some 84) (bA 51 562949953421311) ?_
    refine pu_ (i := 49) (N := some 85) (bA 51 1125899906842623) ?_
    refine pu_ (i := 50) (N := some 2) (bA 51 2251799813685247) ?_
    refine done_ (done_of HT_.out zk_3) ?_
    try go_wp2
    go_ret
    exact ⟨zk_2, zk_0⟩
   obtain rfl := Option.some.inj H
   go_enter Try.func11, Try.ntmps11
   try go_wp2_with (first | ((with_reducible refine gate_callee (f := 44) rfl ?_); refine gl_ (some 12) Try.func44 #[.slice A0 l0.length c0] ?_; (with_reducible refine (spec_DrawWithOk.calls k _ _ l0 a4 a5 a7 a9 _ (y4 HR0.out) h9.out A3.out).mono ?_); rintro e w' ⟨h0, h2, rfl, ho0, ho1, hb⟩; refine ⟨_, rfl, ?_⟩; have a2 := ak (Kd.S_lower ho0 (below_size zk_1)); have a3 := ak (Kd.Q_lower ho1 (below_size zk_1)); replace HB := ak (below_step zk_1 hb); (try clear hb); (try clear hb2); (try clear hk); (try clear hi); (try clear ho0); (try clear ho1)) | ((with_reducible refine gate_dst (N := 3) rfl ?_); refine bx_ (N := 3) (cs := #[.slice none 0 0, .slice none 0 0]) (t := 26) ?_; intro a6 hg o8 hbox hb; replace a2 := ak (Kd.S_below (xS a2.out) hb); replace a3 := ak (Kd.Q_below (xQ a3.out) hb); have a1 := ak (hbox); have f6 := ak ((by rw [hg]; exact (below_size zk_1) : w.heap.size ≤ a6)); have f3 := ak ((by rw [hg]; exact (below_size zk_1) : w.heap.size ≤ a6)); replace HB := ak (below_step zk_1 hb); clear hb hbox hg; obtain ⟨d3, d1, k3⟩ := Kd.S_slice a2.out; subst k3; have b0 := cz20 a1.out; have b1 := cz21 a1.out; have b2 := blk_frozen a1.out 0; have b3 := blk_frozen a1.out 1; obtain ⟨d4, d2, k4, _⟩ := Kd.Q_slice a3.out; subst k4) | ((with_reducible refine gate_callee (f := 45) rfl ?_); refine gl_ (some 19) Try.func45 #[.agg #[.slice d3 a4.length d1, .slice d4 a5.length d2], .int .i64 a7, .int .i64 a9] ?_; (with_reducible refine (impl_WithOk.calls _ _ a4 _ _ a5 a7 a9 e8 _ (by refine (Kd.S_reads' (e := 24) (base := w.heap.size) (ok := fun k_ => some k_ ≠ (.slice d4 a5.length d2 : Value).ownBlock) (n := a4.length) (c := d1) ?_).2.2; exact zk_7) (y2 a2.out) (by refine (Kd.Q_reads' (e := 3) (base := w.heap.size) (ok := fun k_ => True) (n := a5.length) (c := d2) ?_).2.2; exact zk_12) (y2 a3.out) A4.out).mono ?_); rintro e w' ⟨rfl, hb⟩; refine ⟨_, rfl, ?_⟩; replace a2 := ak (Kd.S_below zk_7 hb); replace a3 := ak (Kd.Q_below zk_12 hb); replace a1 := ak (blk_below (g := a6) (o := .cells #[.slice d3 a4.length d1, .slice d4 a5.length d2] 26 (0, 0)) (by (with_reducible repeat (first | refine blk_drewN ?_ _ | refine blk_drew ?_ | refine blk_alloc ?_ _)); refine blk_put (cs := #[.slice d3 a4.length d1, .slice none 0 0]) ?_ 1 _ rfl; (with_reducible repeat (first | refine blk_drewN ?_ _ | refine blk_drew ?_ | refine blk_alloc ?_ _)); refine blk_put (cs := #[.slice none 0 0, .slice none 0 0]) ?_ 0 _ rfl; (with_reducible repeat (first | refine blk_drewN ?_ _ | refine blk_drew ?_ | refine blk_alloc ?_ _)); exact a1.out) hb); replace HB := ak (below_step zk_0 hb); (try clear hb); (try clear hb2); (try clear hk); (try clear hi); have b0 := cz20 a1.out; have b1 := cz21 a1.out; have b2 := blk_frozen a1.out 0; have b3 := blk_frozen a1.out 1) | ((with_reducible refine gate_callee (f := 46) rfl ?_); refine gl_ (some 24) Try.func46 #[.agg #[.slice d3 a4.length d1, .slice d4 a5.length d2], .int .i64 a7, .int .i64 a9] ?_; (with_reducible refine (spec_WithOk.calls k _ _ a4 _ _ a5 a7 a9 e9 _ (y1 a2.out) (y2 a2.out) (y1 a3.out) (y2 a3.out) A5.out).mono ?_); rintro e w' ⟨rfl, hb⟩; refine ⟨_, rfl, ?_⟩; replace a2 := ak (Kd.S_below (xS a2.out) hb); replace a3 := ak (Kd.Q_below (xQ a3.out) hb); replace a1 := ak (blk_below (g := a6) (o := .cells #[.slice d3 a4.length d1, .slice d4 a5.length d2] 26 (0, 0)) (xb a1.out) hb); replace HB := ak (below_step zk_0 hb); (try clear hb); (try clear hb2); (try clear hk); (try clear hi); have b0 := cz20 a1.out; have b1 := cz21 a1.out; have b2 := blk_frozen a1.out 0; have b3 := blk_frozen a1.out 1) | ((with_reducible refine gate_callee (f := 28) rfl ?_); refine gl_ (some 29) Try.func28 #[.agg #[.slice d3 a4.length d1, .slice d4 a5.length d2], .int .i64 a7, .int .i64 a9] ?_; (with_reducible refine (spec_AndOf.calls k _ _ a4 _ _ a5 a7 a9 f8 _ (y1 a2.out) (y2 a2.out) (y1 a3.out) (y2 a3.out) i0.out).mono ?_); rintro e m8 ⟨rfl, hb⟩; refine ⟨_, rfl, ?_⟩; replace a2 := ak (Kd.S_below (xS a2.out) hb); replace a3 := ak (Kd.Q_below (xQ a3.out) hb); replace a1 := ak (blk_below (g := a6) (o := .cells #[.slice d3 a4.length d1, .slice d4 a5.length d2] 26 (0, 0)) (xb a1.out) hb); replace HB := ak (below_step zk_0 hb); (try clear hb); (try clear hb2); (try clear hk); (try clear hi)))
   replace a2 := ak (Kd.S_drew a2.out)
   replace a3 := ak (Kd.Q_drew a3.out)
   replace a1 := ak (blk_drew a1.out)
   replace HB := ak (below_drew1 HB.out)
   refine start_ (n := 51) (S := fun w' => w'.cell? ⟨a6, 0, none⟩ = some (.slice d3 a4.length d1) ∧ w'.cell? ⟨a6, 1, none⟩ = some (.slice d4 a5.length d2)) (ds := []) (bA 51 0) zk_3 rfl rfl ⟨(blk_cell a1.out 0).trans rfl, (blk_cell a1.out 1).trans rfl⟩ (fun hHeld => ?_); refine with_tabW laws_FnWithOk.tab9 laws_FnWithOk.bits9 (fun HT_ HW_ => ?_)
   generalize m8.drew = o9 at a2 a3 a1 HB hHeld ⊢
   refine pu_ (i := 1) (N := some 37) (bA 51 2) ?_
   refine pu_ (i := 2) (N := some 38) (bA 51 6) ?_
   refine tk_ (i := 0) (N := some 36) (bA 51 7) ?_
   refine one_ (i := 3) (N := some 39) (bA 51 15) rfl rfl (one_of HT_.out zk_3) zk_25 (fun K hK => ?_)
   refine ge_ Try.func45 #[.agg #[.slice d3 a4.length d1, .slice d4 a5.length d2], .int .i64 a7, .int .i64 a7] ?_
   with_reducible refine (impl_WithOk.calls _ _ a4 _ _ a5 a7 a7 true _ ?side1 ?side2 ?side3 ?side4 i6.out).mono ?_
   (case side1 => repeat (first | exact (Kd.S_reads' a2.out).2.2 | (with_reducible refine Kd.C_alloc ?_ _) | (with_reducible refine Kd.C_drewN ?_ _) | (with_reducible refine Kd.C_drew ?_)))
   (case side2 => exact (Kd.S_reads' a2.out).2.1)
   (case side3 => repeat (first | exact (Kd.Q_reads' a3.out).2.2 | (with_reducible refine Kd.C_alloc ?_ _) | (with_reducible refine Kd.C_drewN ?_ _) | (with_reducible refine Kd.C_drew ?_)))
   (case side4 => exact (Kd.Q_reads' a3.out).2.1)
   rintro e w' ⟨rfl, hb⟩
   refine ⟨_, rfl, ?_⟩
   replace a2 := ak (Kd.S_below (xS a2.out) hb)
   replace a3 := ak (Kd.Q_below (xQ a3.out) hb)
   replace a1 := ak (blk_below (g := a6) (o := .cells #[.slice d3 a4.length d1, .slice d4 a5.length d2] 26 (0, 0)) (xb a1.out) hb)
   replace HB := ak (below_step zk_0 hb)
   (try clear hb)
   (try clear hb2)
   (try clear hk)
   (try clear hi)
   refine hK.out _ _ ⟨(blk_cell a1.out 0).trans rfl, (blk_cell a1.out 1).trans rfl⟩ (fun hHeld => ?_)
   clear hK K
   refine no_ (N := some 39) ?_
   refine pu_ (i := 4) (N := some 40) (bA 51 31) ?_
   refine pu_ (i := 6) (N := some 42) (bA 51 95) ?_
   refine pu_ (i := 8) (N := some 44) (bA 51 351) ?_
   refine tk_ (i := 5) (N := some 41) (bA 51 383) ?_
   refine tk_ (i := 7) (N := some 43) (bA 51 511) ?_
   refine one_ (i := 9) (N := some 45) (bA 51 1023) rfl rfl (one_of HT_.out zk_3) zk_25 (fun K hK => ?_)
   refine ge_ Try.func29 #[.agg #[.slice d3 a4.length d1, .slice d4 a5.length d2], .int .i64 a7] ?_
   with_reducible refine (impl_NotOf.calls _ _ a4 _ _ a5 a7 e7 _ ?side1 ?side2 ?side3 ?side4 i7.out).mono ?_
   (case side1 => repeat (first | exact (Kd.S_reads' a2.out).2.2 | (with_reducible refine Kd.C_alloc ?_ _) | (with_reducible refine Kd.C_drewN ?_ _) | (with_reducible refine Kd.C_drew ?_)))
   (case side2 => exact (Kd.S_reads' a2.out).2.1)
   (case side3 => repeat (first | exact (Kd.Q_reads' a3.out).2.2 | (with_reducible refine Kd.C_alloc ?_ _) | (with_reducible refine Kd.C_drewN ?_ _) | (with_reducible refine Kd.C_drew ?_)))
   (case side4 => exact (Kd.Q_reads' a3.out).2.1)
   rintro e w' ⟨rfl, hb⟩
   refine ⟨_, rfl, ?_⟩
   replace a2 := ak (Kd.S_below (xS a2.out) hb)
   replace a3 := ak (Kd.Q_below (xQ a3.out) hb)
   replace a1 := ak (blk_below (g := a6) (o := .cells #[.slice d3 a4.length d1, .slice d4 a5.length d2] 26 (0, 0)) (xb a1.out) hb)
   replace HB := ak (below_step zk_0 hb)
   (try clear hb)
   (try clear hb2)
   (try clear hk)
   (try clear hi)
   refine hK.out _ _ ⟨(blk_cell a1.out 0).trans rfl, (blk_cell a1.out 1).trans rfl⟩ (fun hHeld => ?_)
   clear hK K
   refine no_ (N := some 45) ?_
   refine one_ (i := 10) (N := some 46) (bA 51 2047) rfl rfl (one_of HT_.out zk_3) zk_25 (fun K hK => ?_)
   refine ge_ Try.func45 #[.agg #[.slice d3 a4.length d1, .slice d4 a5.length d2], .int .i64 a7, .int .i64 e7] ?_
   with_reducible refine (impl_WithOk.calls _ _ a4 _ _ a5 a7 e7 true _ ?side1 ?side2 ?side3 ?side4 i8.out).mono ?_
   (case side1 => repeat (first | exact (Kd.S_reads' a2.out).2.2 | (with_reducible refine Kd.C_alloc ?_ _) | (with_reducible refine Kd.C_drewN ?_ _) | (with_reducible refine Kd.C_drew ?_)))
   (case side2 => exact (Kd.S_reads' a2.out).2.1)
   (case side3 => repeat (first | exact (Kd.Q_reads' a3.out).2.2 | (with_reducible refine Kd.C_alloc ?_ _) | (with_reducible refine Kd.C_drewN ?_ _) | (with_reducible refine Kd.C_drew ?_)))
   (case side4 => exact (Kd.Q_reads' a3.out).2.1)
   rintro e w' ⟨rfl, hb⟩
   refine ⟨_, rfl, ?_⟩
   replace a2 := ak (Kd.S_below (xS a2.out) hb)
   replace a3 := ak (Kd.Q_below (xQ a3.out) hb)
   replace a1 := ak (blk_below (g := a6) (o := .cells #[.slice d3 a4.length d1, .slice d4 a5.length d2] 26 (0, 0)) (xb a1.out) hb)
   replace HB := ak (below_step zk_0 hb)
   (try clear hb)
   (try clear hb2)
   (try clear hk)
   (try clear hi)
   refine hK.out _ _ ⟨(blk_cell a1.out 0).trans rfl, (blk_cell a1.out 1).trans rfl⟩ (fun hHeld => ?_)
   clear hK K
   refine no_ (N := some 46) ?_
   refine pu_ (i := 11) (N := some 47) (bA 51 4095) ?_
   refine pu_ (i := 12) (N := some 48) (bA 51 8191) ?_
   refine pu_ (i := 14) (N := some 50) (bA 51 24575) ?_
   refine tk_ (i := 13) (N := some 49) (bA 51 32767) ?_
   refine tk_ (i := 15) (N := some 51) (bA 51 65535) ?_
   refine one_ (i := 16) (N := some 52) (bA 51 131071) rfl rfl (one_of HT_.out zk_3) zk_25 (fun K hK => ?_)
   refine ge_ Try.func19 #[.agg #[.slice d3 a4.length d1, .slice d4 a5.length d2]] ?_
   with_reducible refine (impl_NoOf.calls _ _ a4 _ _ a5 f2 _ ?side1 ?side2 ?side3 ?side4 j4.out).mono ?_
   (case side1 => repeat (first | exact (Kd.S_reads' a2.out).2.2 | (with_reducible refine Kd.C_alloc ?_ _) | (with_reducible refine Kd.C_drewN ?_ _) | (with_reducible refine Kd.C_drew ?_)))
   (case side2 => exact (Kd.S_reads' a2.out).2.1)
   (case side3 => repeat (first | exact (Kd.Q_reads' a3.out).2.2 | (with_reducible refine Kd.C_alloc ?_ _) | (with_reducible refine Kd.C_drewN ?_ _) | (with_reducible refine Kd.C_drew ?_)))
   (case side4 => exact (Kd.Q_reads' a3.out).2.1)
   rintro e w' ⟨rfl, hb⟩
   refine ⟨_, rfl, ?_⟩
   replace a2 := ak (Kd.S_below (xS a2.out) hb)
   replace a3 := ak (Kd.Q_below (xQ a3.out) hb)
   replace a1 := ak (blk_below (g := a6) (o := .cells #[.slice d3 a4.length d1, .slice d4 a5.length d2] 26 (0, 0)) (xb a1.out) hb)
   replace HB := ak (below_step zk_0 hb)
   (try clear hb)
   (try clear hb2)
   (try clear hk)
   (try clear hi)
   refine hK.out _ _ ⟨(blk_cell a1.out 0).trans rfl, (blk_cell a1.out 1).trans rfl⟩ (fun hHeld => ?_)
   clear hK K
   refine no_ (N := some 52) ?_
   refine one_ (i := 17) (N := some 53) (bA 51 262143) rfl rfl (one_of HT_.out zk_3) zk_25 (fun K hK => ?_)
   refine ge_ Try.func45 #[.agg #[.slice d3 a4.length d1, .slice d4 a5.length d2], .int .i64 a7, .int .i64 f2] ?_
   with_reducible refine (impl_WithOk.calls _ _ a4 _ _ a5 a7 f2 false _ ?side1 ?side2 ?side3 ?side4 j5.out).mono ?_
   (case side1 => repeat (first | exact (Kd.S_reads' a2.out).2.2 | (with_reducible refine Kd.C_alloc ?_ _) | (with_reducible refine Kd.C_drewN ?_ _) | (with_reducible refine Kd.C_drew ?_)))
   (case side2 => exact (Kd.S_reads' a2.out).2.1)
   (case side3 => repeat (first | exact (Kd.Q_reads' a3.out).2.2 | (with_reducible refine Kd.C_alloc ?_ _) | (with_reducible refine Kd.C_drewN ?_ _) | (with_reducible refine Kd.C_drew ?_)))
   (case side4 => exact (Kd.Q_reads' a3.out).2.1)
   rintro e w' ⟨rfl, hb⟩
   refine ⟨_, rfl, ?_⟩
   replace a2 := ak (Kd.S_below (xS a2.out) hb)
   replace a3 := ak (Kd.Q_below (xQ a3.out) hb)
   replace a1 := ak (blk_below (g := a6) (o := .cells #[.slice d3 a4.length d1, .slice d4 a5.length d2] 26 (0, 0)) (xb a1.out) hb)
   replace HB := ak (below_step zk_0 hb)
   (try clear hb)
   (try clear hb2)
   (try clear hk)
   (try clear hi)
   refine hK.out _ _ ⟨(blk_cell a1.out 0).trans rfl, (blk_cell a1.out 1).trans rfl⟩ (fun hHeld => ?_)
   clear hK K
   refine no_ (N := some 53) ?_
   refine pu_ (i := 18) (N := some 54) (bA 51 524287) ?_
   refine pu_ (i := 19) (N := some 55) (bA 51 1048575) ?_
   refine of_ (i := 20) (N := some 56) (bA 51 2097151) ?_
   refine of_ (i := 21) (N := some 57) (bA 51 4194303) ?_
   refine of_ (i := 22) (N := some 58) (bA 51 8388607) ?_
   refine of_ (i := 23) (N := some 59) (bA 51 16777215) ?_
   refine of_ (i := 24) (N := some 60) (bA 51 33554431) ?_
   refine pu_ (i := 25) (N := some 61) (bA 51 67108863) ?_
   refine pu_ (i := 26) (N := some 62) (bA 51 134217727) ?_
   refine of_ (i := 27) (N := some 63) (bA 51 268435455) ?_
   refine of_ (i := 28) (N := some 64) (bA 51 536870911) ?_
   refine of_ (i := 29) (N := some 65) (bA 51 1073741823) ?_
   refine of_ (i := 30) (N := some 66) (bA 51 2147483647) ?_
   refine of_ (i := 31) (N := some 67) (bA 51 4294967295) ?_
   refine of_ (i := 32) (N := some 68) (bA 51 8589934591) ?_
   refine of_ (i := 33) (N := some 69) (bA 51 17179869183) ?_
   refine of_ (i := 34) (N := some 70) (bA 51 34359738367) ?_
   refine of_ (i := 35) (N := some 71) (bA 51 68719476735) ?_
   refine of_ (i := 36) (N := some 72) (bA 51 137438953471) ?_
   refine of_ (i := 37) (N := some 73) (bA 51 274877906943) ?_
   refine of_ (i := 38) (N := some 74) (bA 51 549755813887) ?_
   refine pu_ (i := 39) (N := some 75) (bA 51 1099511627775) ?_
   refine pu_ (i := 40) (N := some 76) (bA 51 2199023255551) ?_
   refine of_ (i := 41) (N := some 77) (bA 51 4398046511103) ?_
   refine of_ (i := 42) (N := some 78) (bA 51 8796093022207) ?_
   refine of_ (i := 43) (N := some 79) (bA 51 17592186044415) ?_
   refine of_ (i := 44) (N := some 80) (bA 51 35184372088831) ?_
   refine of_ (i := 45) (N := some 81) (bA 51 70368744177663) ?_
   refine of_ (i := 46) (N := some 82) (bA 51 140737488355327) ?_
   refine of_ (i := 47) (N := some 83) (bA 51 281474976710655) ?_
   refine of_ (i := 48) (N := some 84) (bA 51 562949953421311) ?_
   refine pu_ (i := 49) (N := some 85) (bA 51 1125899906842623) ?_
   refine pu_ (i := 50) (N := some 2) (bA 51 2251799813685247) ?_
   refine done_ (done_of HT_.out zk_3) ?_
   try go_wp2
   go_ret
   exact ⟨zk_2, zk_0⟩
  obtain rfl := Option.some.inj H
  go_enter Try.func11, Try.ntmps11
  try go_wp2_with (first | ((with_reducible refine gate_callee (f := 44) rfl ?_); refine gl_ (some 12) Try.func44 #[.slice A0 l0.length c0] ?_; (with_reducible refine (spec_DrawWithOk.calls k _ _ l0 a4 a5 a7 a9 _ (y4 HR0.out) h9.out A3.out).mono ?_); rintro e w' ⟨h0, h2, rfl, ho0, ho1, hb⟩; refine ⟨_, rfl, ?_⟩; have a2 := ak (Kd.S_lower ho0 (below_size zk_1)); have a3 := ak (Kd.Q_lower ho1 (below_size zk_1)); replace HB := ak (below_step zk_1 hb); (try clear hb); (try clear hb2); (try clear hk); (try clear hi); (try clear ho0); (try clear ho1)) | ((with_reducible refine gate_dst (N := 3) rfl ?_); refine bx_ (N := 3) (cs := #[.slice none 0 0, .slice none 0 0]) (t := 26) ?_; intro a6 hg q0 hbox hb; replace a2 := ak (Kd.S_below (xS a2.out) hb); replace a3 := ak (Kd.Q_below (xQ a3.out) hb); have a1 := ak (hbox); have f6 := ak ((by rw [hg]; exact (below_size zk_1) : w.heap.size ≤ a6)); have f3 := ak ((by rw [hg]; exact (below_size zk_1) : w.heap.size ≤ a6)); replace HB := ak (below_step zk_1 hb); clear hb hbox hg; obtain ⟨e3, e1, k5⟩ := Kd.S_slice a2.out; subst k5; have b0 := cz20 a1.out; have b1 := cz21 a1.out; have b2 := blk_frozen a1.out 0; have b3 := blk_frozen a1.out 1; obtain ⟨e4, e2, k6, _⟩ := Kd.Q_slice a3.out; subst k6) | ((with_reducible refine gate_callee (f := 45) rfl ?_); refine gl_ (some 19) Try.func45 #[.agg #[.slice e3 a4.length e1, .slice e4 a5.length e2], .int .i64 a7, .int .i64 a9] ?_; (with_reducible refine (impl_WithOk.calls _ _ a4 _ _ a5 a7 a9 e8 _ (by refine (Kd.S_reads' (e := 24) (base := w.heap.size) (ok := fun k_ => some k_ ≠ (.slice e4 a5.length e2 : Value).ownBlock) (n := a4.length) (c := e1) ?_).2.2; exact zk_6) (y2 a2.out) (by refine (Kd.Q_reads' (e := 3) (base := w.heap.size) (ok := fun k_ => True) (n := a5.length) (c := e2) ?_).2.2; exact zk_11) (y2 a3.out) A4.out).mono ?_); rintro e w' ⟨rfl, hb⟩; refine ⟨_, rfl, ?_⟩; replace a2 := ak (Kd.S_below zk_6 hb); replace a3 := ak (Kd.Q_below zk_11 hb); replace a1 := ak (blk_below (g := a6) (o := .cells #[.slice e3 a4.length e1, .slice e4 a5.length e2] 26 (0, 0)) (by (with_reducible repeat (first | refine blk_drewN ?_ _ | refine blk_drew ?_ | refine blk_alloc ?_ _)); refine blk_put (cs := #[.slice e3 a4.length e1, .slice none 0 0]) ?_ 1 _ rfl; (with_reducible repeat (first | refine blk_drewN ?_ _ | refine blk_drew ?_ | refine blk_alloc ?_ _)); refine blk_put (cs := #[.slice none 0 0, .slice none 0 0]) ?_ 0 _ rfl; (with_reducible repeat (first | refine blk_drewN ?_ _ | refine blk_drew ?_ | refine blk_alloc ?_ _)); exact a1.out) hb); replace HB := ak (below_step zk_0 hb); (try clear hb); (try clear hb2); (try clear hk); (try clear hi); have b0 := cz20 a1.out; have b1 := cz21 a1.out; have b2 := blk_frozen a1.out 0; have b3 := blk_frozen a1.out 1) | ((with_reducible refine gate_callee (f := 46) rfl ?_); refine gl_ (some 24) Try.func46 #[.agg #[.slice e3 a4.length e1, .slice e4 a5.length e2], .int .i64 a7, .int .i64 a9] ?_; (with_reducible refine (spec_WithOk.calls k _ _ a4 _ _ a5 a7 a9 e9 _ (y1 a2.out) (y2 a2.out) (y1 a3.out) (y2 a3.out) A5.out).mono ?_); rintro e w' ⟨rfl, hb⟩; refine ⟨_, rfl, ?_⟩; replace a2 := ak (Kd.S_below (xS a2.out) hb); replace a3 := ak (Kd.Q_below (xQ a3.out) hb); replace a1 := ak (blk_below (g := a6) (o := .cells #[.slice e3 a4.length e1, .slice e4 a5.length e2] 26 (0, 0)) (xb a1.out) hb); replace HB := ak (below_step zk_0 hb); (try clear hb); (try clear hb2); (try clear hk); (try clear hi); have b0 := cz20 a1.out; have b1 := cz21 a1.out; have b2 := blk_frozen a1.out 0; have b3 := blk_frozen a1.out 1) | ((with_reducible refine gate_callee (f := 28) rfl ?_); refine gl_ (some 29) Try.func28 #[.agg #[.slice e3 a4.length e1, .slice e4 a5.length e2], .int .i64 a7, .int .i64 a9] ?_; (with_reducible refine (spec_AndOf.calls k _ _ a4 _ _ a5 a7 a9 f8 _ (y1 a2.out) (y2 a2.out) (y1 a3.out) (y2 a3.out) i0.out).mono ?_); rintro e m9 ⟨rfl, hb⟩; refine ⟨_, rfl, ?_⟩; replace a2 := ak (Kd.S_below (xS a2.out) hb); replace a3 := ak (Kd.Q_below (xQ a3.out) hb); replace a1 := ak (blk_below (g := a6) (o := .cells #[.slice e3 a4.length e1, .slice e4 a5.length e2] 26 (0, 0)) (xb a1.out) hb); replace HB := ak (below_step zk_0 hb); (try clear hb); (try clear hb2); (try clear hk); (try clear hi)))
  replace a2 := ak (Kd.S_drew a2.out)
  replace a3 := ak (Kd.Q_drew a3.out)
  replace a1 := ak (blk_drew a1.out)
  replace HB := ak (below_drew1 HB.out)
  refine start_ (n := 51) (S := fun w' => w'.cell? ⟨a6, 0, none⟩ = some (.slice e3 a4.length e1) ∧ w'.cell? ⟨a6, 1, none⟩ = some (.slice e4 a5.length e2)) (ds := []) (bA 51 0) zk_3 rfl rfl ⟨(blk_cell a1.out 0).trans rfl, (blk_cell a1.out 1).trans rfl⟩ (fun hHeld => ?_); refine with_tabW laws_FnWithOk.tab9 laws_FnWithOk.bits9 (fun HT_ HW_ => ?_)
  generalize m9.drew = q1 at a2 a3 a1 HB hHeld ⊢
  refine pu_ (i := 1) (N := some 37) (bA 51 2) ?_
  refine pu_ (i := 2) (N := some 38) (bA 51 6) ?_
  refine tk_ (i := 0) (N := some 36) (bA 51 7) ?_
  refine one_ (i := 3) (N := some 39) (bA 51 15) rfl rfl (one_of HT_.out zk_3) zk_25 (fun K hK => ?_)
  refine ge_ Try.func45 #[.agg #[.slice e3 a4.length e1, .slice e4 a5.length e2], .int .i64 a7, .int .i64 a7] ?_
  with_reducible refine (impl_WithOk.calls _ _ a4 _ _ a5 a7 a7 true _ ?side1 ?side2 ?side3 ?side4 i6.out).mono ?_
  (case side1 => repeat (first | exact (Kd.S_reads' a2.out).2.2 | (with_reducible refine Kd.C_alloc ?_ _) | (with_reducible refine Kd.C_drewN ?_ _) | (with_reducible refine Kd.C_drew ?_)))
  (case side2 => exact (Kd.S_reads' a2.out).2.1)
  (case side3 => repeat (first | exact (Kd.Q_reads' a3.out).2.2 | (with_reducible refine Kd.C_alloc ?_ _) | (with_reducible refine Kd.C_drewN ?_ _) | (with_reducible refine Kd.C_drew ?_)))
  (case side4 => exact (Kd.Q_reads' a3.out).2.1)
  rintro e w' ⟨rfl, hb⟩
  refine ⟨_, rfl, ?_⟩
  replace a2 := ak (Kd.S_below (xS a2.out) hb)
  replace a3 := ak (Kd.Q_below (xQ a3.out) hb)
  replace a1 := ak (blk_below (g := a6) (o := .cells #[.slice e3 a4.length e1, .slice e4 a5.length e2] 26 (0, 0)) (xb a1.out) hb)
  replace HB := ak (below_step zk_0 hb)
  (try clear hb)
  (try clear hb2)
  (try clear hk)
  (try clear hi)
  refine hK.out _ _ ⟨(blk_cell a1.out 0).trans rfl, (blk_cell a1.out 1).trans rfl⟩ (fun hHeld => ?_)
  clear hK K
  refine no_ (N := some 39) ?_
  refine pu_ (i := 4) (N := some 40) (bA 51 31) ?_
  refine pu_ (i := 6) (N := some 42) (bA 51 95) ?_
  refine pu_ (i := 8) (N := some 44) (bA 51 351) ?_
  refine tk_ (i := 5) (N := some 41) (bA 51 383) ?_
  refine tk_ (i := 7) (N := some 43) (bA 51 511) ?_
  refine one_ (i := 9) (N := some 45) (bA 51 1023) rfl rfl (one_of HT_.out zk_3) zk_25 (fun K hK => ?_)
  refine ge_ Try.func29 #[.agg #[.slice e3 a4.length e1, .slice e4 a5.length e2], .int .i64 a7] ?_
  with_reducible refine (impl_NotOf.calls _ _ a4 _ _ a5 a7 e7 _ ?side1 ?side2 ?side3 ?side4 i7.out).mono ?_
  (case side1 => repeat (first | exact (Kd.S_reads' a2.out).2.2 | (with_reducible refine Kd.C_alloc ?_ _) | (with_reducible refine Kd.C_drewN ?_ _) | (with_reducible refine Kd.C_drew ?_)))
  (case side2 => exact (Kd.S_reads' a2.out).2.1)
  (case side3 => repeat (first | exact (Kd.Q_reads' a3.out).2.2 | (with_reducible refine Kd.C_alloc ?_ _) | (with_reducible refine Kd.C_drewN ?_ _) | (with_reducible refine Kd.C_drew ?_)))
  (case side4 => exact (Kd.Q_reads' a3.out).2.1)
  rintro e w' ⟨rfl, hb⟩
  refine ⟨_, rfl, ?_⟩
  replace a2 := ak (Kd.S_below (xS a2.out) hb)
  replace a3 := ak (Kd.Q_below (xQ a3.out) hb)
  replace a1 := ak (blk_below (g := a6) (o := .cells #[.slice e3 a4.length e1, .slice e4 a5.length e2] 26 (0, 0)) (xb a1.out) hb)
  replace HB := ak (below_step zk_0 hb)
  (try clear hb)
  (try clear hb2)
  (try clear hk)
  (try clear hi)
  refine hK.out _ _ ⟨(blk_cell a1.out 0).trans rfl, (blk_cell a1.out 1).trans rfl⟩ (fun hHeld => ?_)
  clear hK K
  refine no_ (N := some 45) ?_
  refine one_ (i := 10) (N := some 46) (bA 51 2047) rfl rfl (one_of HT_.out zk_3) zk_25 (fun K hK => ?_)
  refine ge_ Try.func45 #[.agg #[.slice e3 a4.length e1, .slice e4 a5.length e2], .int .i64 a7, .int .i64 e7] ?_
  with_reducible refine (impl_WithOk.calls _ _ a4 _ _ a5 a7 e7 false _ ?side1 ?side2 ?side3 ?side4 i8.out).mono ?_
  (case side1 => repeat (first | exact (Kd.S_reads' a2.out).2.2 | (with_reducible refine Kd.C_alloc ?_ _) | (with_reducible refine Kd.C_drewN ?_ _) | (with_reducible refine Kd.C_drew ?_)))
  (case side2 => exact (Kd.S_reads' a2.out).2.1)
  (case side3 => repeat (first | exact (Kd.Q_reads' a3.out).2.2 | (with_reducible refine Kd.C_alloc ?_ _) | (with_reducible refine Kd.C_drewN ?_ _) | (with_reducible refine Kd.C_drew ?_)))
  (case side4 => exact (Kd.Q_reads' a3.out).2.1)
  rintro e w' ⟨rfl, hb⟩
  refine ⟨_, rfl, ?_⟩
  replace a2 := ak (Kd.S_below (xS a2.out) hb)
  replace a3 := ak (Kd.Q_below (xQ a3.out) hb)
  replace a1 := ak (blk_below (g := a6) (o := .cells #[.slice e3 a4.length e1, .slice e4 a5.length e2] 26 (0, 0)) (xb a1.out) hb)
  replace HB := ak (below_step zk_0 hb)
  (try clear hb)
  (try clear hb2)
  (try clear hk)
  (try clear hi)
  refine hK.out _ _ ⟨(blk_cell a1.out 0).trans rfl, (blk_cell a1.out 1).trans rfl⟩ (fun hHeld => ?_)
  clear hK K
  refine no_ (N := some 46) ?_
  refine pu_ (i := 11) (N := some 47) (bA 51 4095) ?_
  refine pu_ (i := 12) (N := some 48) (bA 51 8191) ?_
  refine of_ (i := 13) (N := some 49) (bA 51 16383) ?_
  refine of_ (i := 14) (N := some 50) (bA 51 32767) ?_
  refine of_ (i := 15) (N := some 51) (bA 51 65535) ?_
  refine of_ (i := 16) (N := some 52) (bA 51 131071) ?_
  refine of_ (i := 17) (N := some 53) (bA 51 262143) ?_
  refine pu_ (i := 18) (N := some 54) (bA 51 524287) ?_
  refine pu_ (i := 19) (N := some 55) (bA 51 1048575) ?_
  refine of_ (i := 20) (N := some 56) (bA 51 2097151) ?_
  refine of_ (i := 21) (N := some 57) (bA 51 4194303) ?_
  refine of_ (i := 22) (N := some 58) (bA 51 8388607) ?_
  refine of_ (i := 23) (N := some 59) (bA 51 16777215) ?_
  refine of_ (i := 24) (N := some 60) (bA 51 33554431) ?_
  refine pu_ (i := 25) (N := some 61) (bA 51 67108863) ?_
  refine pu_ (i := 26) (N := some 62) (bA 51 134217727) ?_
  refine of_ (i := 27) (N := some 63) (bA 51 268435455) ?_
  refine of_ (i := 28) (N := some 64) (bA 51 536870911) ?_
  refine of_ (i := 29) (N := some 65) (bA 51 1073741823) ?_
  refine of_ (i := 30) (N := some 66) (bA 51 2147483647) ?_
  refine of_ (i := 31) (N := some 67) (bA 51 4294967295) ?_
  refine of_ (i := 32) (N := some 68) (bA 51 8589934591) ?_
  refine of_ (i := 33) (N := some 69) (bA 51 17179869183) ?_
  refine of_ (i := 34) (N := some 70) (bA 51 34359738367) ?_
  refine of_ (i := 35) (N := some 71) (bA 51 68719476735) ?_
  refine of_ (i := 36) (N := some 72) (bA 51 137438953471) ?_
  refine of_ (i := 37) (N := some 73) (bA 51 274877906943) ?_
  refine of_ (i := 38) (N := some 74) (bA 51 549755813887) ?_
  refine pu_ (i := 39) (N := some 75) (bA 51 1099511627775) ?_
  refine pu_ (i := 40) (N := some 76) (bA 51 2199023255551) ?_
  refine of_ (i := 41) (N := some 77) (bA 51 4398046511103) ?_
  refine of_ (i := 42) (N := some 78) (bA 51 8796093022207) ?_
  refine of_ (i := 43) (N := some 79) (bA 51 17592186044415) ?_
  refine of_ (i := 44) (N := some 80) (bA 51 35184372088831) ?_
  refine of_ (i := 45) (N := some 81) (bA 51 70368744177663) ?_
  refine of_ (i := 46) (N := some 82) (bA 51 140737488355327) ?_
  refine of_ (i := 47) (N := some 83) (bA 51 281474976710655) ?_
  refine of_ (i := 48) (N := some 84) (bA 51 562949953421311) ?_
  refine pu_ (i := 49) (N := some 85) (bA 51 1125899906842623) ?_
  refine pu_ (i := 50) (N := some 2) (bA 51 2251799813685247) ?_
  refine done_ (done_of HT_.out zk_3) ?_
  try go_wp2
  go_ret
  exact ⟨zk_2, zk_0⟩
 obtain rfl := Option.some.inj H
 go_enter Try.func11, Try.ntmps11
 try go_wp2_with (first | ((with_reducible refine gate_callee (f := 44) rfl ?_); refine gl_ (some 12) Try.func44 #[.slice A0 l0.length c0] ?_; (with_reducible refine (spec_DrawWithOk.calls k _ _ l0 a4 a5 a7 a9 _ (y4 HR0.out) h9.out A3.out).mono ?_); rintro e w' ⟨h0, h2, rfl, ho0, ho1, hb⟩; refine ⟨_, rfl, ?_⟩; have a2 := ak (Kd.S_lower ho0 (below_size zk_1)); have a3 := ak (Kd.Q_lower ho1 (below_size zk_1)); replace HB := ak (below_step zk_1 hb); (try clear hb); (try clear hb2); (try clear hk); (try clear hi); (try clear ho0); (try clear ho1)) | ((with_reducible refine gate_dst (N := 3) rfl ?_); refine bx_ (N := 3) (cs := #[.slice none 0 0, .slice none 0 0]) (t := 26) ?_; intro a6 hg q2 hbox hb; replace a2 := ak (Kd.S_below (xS a2.out) hb); replace a3 := ak (Kd.Q_below (xQ a3.out) hb); have a1 := ak (hbox); have f6 := ak ((by rw [hg]; exact (below_size zk_1) : w.heap.size ≤ a6)); have f3 := ak ((by rw [hg]; exact (below_size zk_1) : w.heap.size ≤ a6)); replace HB := ak (below_step zk_1 hb); clear hb hbox hg; obtain ⟨f0, e5, k7⟩ := Kd.S_slice a2.out; subst k7; have b0 := cz20 a1.out; have b1 := cz21 a1.out; have b2 := blk_frozen a1.out 0; have b3 := blk_frozen a1.out 1; obtain ⟨f1, e6, k8, _⟩ := Kd.Q_slice a3.out; subst k8) | ((with_reducible refine gate_callee (f := 45) rfl ?_); refine gl_ (some 19) Try.func45 #[.agg #[.slice f0 a4.length e5, .slice f1 a5.length e6], .int .i64 a7, .int .i64 a9] ?_; (with_reducible refine (impl_WithOk.calls _ _ a4 _ _ a5 a7 a9 e8 _ (by refine (Kd.S_reads' (e := 24) (base := w.heap.size) (ok := fun k_ => some k_ ≠ (.slice f1 a5.length e6 : Value).ownBlock) (n := a4.length) (c := e5) ?_).2.2; exact zk_5) (y2 a2.out) (by refine (Kd.Q_reads' (e := 3) (base := w.heap.size) (ok := fun k_ => True) (n := a5.length) (c := e6) ?_).2.2; exact zk_10) (y2 a3.out) A4.out).mono ?_); rintro e w' ⟨rfl, hb⟩; refine ⟨_, rfl, ?_⟩; replace a2 := ak (Kd.S_below zk_5 hb); replace a3 := ak (Kd.Q_below zk_10 hb); replace a1 := ak (blk_below (g := a6) (o := .cells #[.slice f0 a4.length e5, .slice f1 a5.length e6] 26 (0, 0)) (by (with_reducible repeat (first | refine blk_drewN ?_ _ | refine blk_drew ?_ | refine blk_alloc ?_ _)); refine blk_put (cs := #[.slice f0 a4.length e5, .slice none 0 0]) ?_ 1 _ rfl; (with_reducible repeat (first | refine blk_drewN ?_ _ | refine blk_drew ?_ | refine blk_alloc ?_ _)); refine blk_put (cs := #[.slice none 0 0, .slice none 0 0]) ?_ 0 _ rfl; (with_reducible repeat (first | refine blk_drewN ?_ _ | refine blk_drew ?_ | refine blk_alloc ?_ _)); exact a1.out) hb); replace HB := ak (below_step zk_0 hb); (try clear hb); (try clear hb2); (try clear hk); (try clear hi); have b0 := cz20 a1.out; have b1 := cz21 a1.out; have b2 := blk_frozen a1.out 0; have b3 := blk_frozen a1.out 1) | ((with_reducible refine gate_callee (f := 46) rfl ?_); refine gl_ (some 24) Try.func46 #[.agg #[.slice f0 a4.length e5, .slice f1 a5.length e6], .int .i64 a7, .int .i64 a9] ?_; (with_reducible refine (spec_WithOk.calls k _ _ a4 _ _ a5 a7 a9 e9 _ (y1 a2.out) (y2 a2.out) (y1 a3.out) (y2 a3.out) A5.out).mono ?_); rintro e w' ⟨rfl, hb⟩; refine ⟨_, rfl, ?_⟩; replace a2 := ak (Kd.S_below (xS a2.out) hb); replace a3 := ak (Kd.Q_below (xQ a3.out) hb); replace a1 := ak (blk_below (g := a6) (o := .cells #[.slice f0 a4.length e5, .slice f1 a5.length e6] 26 (0, 0)) (xb a1.out) hb); replace HB := ak (below_step zk_0 hb); (try clear hb); (try clear hb2); (try clear hk); (try clear hi); have b0 := cz20 a1.out; have b1 := cz21 a1.out; have b2 := blk_frozen a1.out 0; have b3 := blk_frozen a1.out 1) | ((with_reducible refine gate_callee (f := 28) rfl ?_); refine gl_ (some 29) Try.func28 #[.agg #[.slice f0 a4.length e5, .slice f1 a5.length e6], .int .i64 a7, .int .i64 a9] ?_; (with_reducible refine (spec_AndOf.calls k _ _ a4 _ _ a5 a7 a9 f8 _ (y1 a2.out) (y2 a2.out) (y1 a3.out) (y2 a3.out) i0.out).mono ?_); rintro e n0 ⟨rfl, hb⟩; refine ⟨_, rfl, ?_⟩; replace a2 := ak (Kd.S_below (xS a2.out) hb); replace a3 := ak (Kd.Q_below (xQ a3.out) hb); replace a1 := ak (blk_below (g := a6) (o := .cells #[.slice f0 a4.length e5, .slice f1 a5.length e6] 26 (0, 0)) (xb a1.out) hb); replace HB := ak (below_step zk_0 hb); (try clear hb); (try clear hb2); (try clear hk); (try clear hi)))
 replace a2 := ak (Kd.S_drew a2.out)
 replace a3 := ak (Kd.Q_drew a3.out)
 replace a1 := ak (blk_drew a1.out)
 replace HB := ak (below_drew1 HB.out)
 refine start_ (n := 51) (S := fun w' => w'.cell? ⟨a6, 0, none⟩ = some (.slice f0 a4.length e5) ∧ w'.cell? ⟨a6, 1, none⟩ = some (.slice f1 a5.length e6)) (ds := []) (bA 51 0) zk_3 rfl rfl ⟨(blk_cell a1.out 0).trans rfl, (blk_cell a1.out 1).trans rfl⟩ (fun hHeld => ?_); refine with_tabW laws_FnWithOk.tab9 laws_FnWithOk.bits9 (fun HT_ HW_ => ?_)
 generalize n0.drew = q3 at a2 a3 a1 HB hHeld ⊢
 refine pu_ (i := 1) (N := some 37) (bA 51 2) ?_
 refine pu_ (i := 2) (N := some 38) (bA 51 6) ?_
 refine tk_ (i := 0) (N := some 36) (bA 51 7) ?_
 refine one_ (i := 3) (N := some 39) (bA 51 15) rfl rfl (one_of HT_.out zk_3) zk_25 (fun K hK => ?_)
 refine ge_ Try.func45 #[.agg #[.slice f0 a4.length e5, .slice f1 a5.length e6], .int .i64 a7, .int .i64 a7] ?_
 with_reducible refine (impl_WithOk.calls _ _ a4 _ _ a5 a7 a7 false _ ?side1 ?side2 ?side3 ?side4 i6.out).mono ?_
 (case side1 => repeat (first | exact (Kd.S_reads' a2.out).2.2 | (with_reducible refine Kd.C_alloc ?_ _) | (with_reducible refine Kd.C_drewN ?_ _) | (with_reducible refine Kd.C_drew ?_)))
 (case side2 => exact (Kd.S_reads' a2.out).2.1)
 (case side3 => repeat (first | exact (Kd.Q_reads' a3.out).2.2 | (with_reducible refine Kd.C_alloc ?_ _) | (with_reducible refine Kd.C_drewN ?_ _) | (with_reducible refine Kd.C_drew ?_)))
 (case side4 => exact (Kd.Q_reads' a3.out).2.1)
 rintro e w' ⟨rfl, hb⟩
 refine ⟨_, rfl, ?_⟩
 replace a2 := ak (Kd.S_below (xS a2.out) hb)
 replace a3 := ak (Kd.Q_below (xQ a3.out) hb)
 replace a1 := ak (blk_below (g := a6) (o := .cells #[.slice f0 a4.length e5, .slice f1 a5.length e6] 26 (0, 0)) (xb a1.out) hb)
 replace HB := ak (below_step zk_0 hb)
 (try clear hb)
 (try clear hb2)
 (try clear hk)
 (try clear hi)
 refine hK.out _ _ ⟨(blk_cell a1.out 0).trans rfl, (blk_cell a1.out 1).trans rfl⟩ (fun hHeld => ?_)
 clear hK K
 refine no_ (N := some 39) ?_
 refine pu_ (i := 4) (N := some 40) (bA 51 31) ?_
 refine of_ (i := 5) (N := some 41) (bA 51 63) ?_
 refine of_ (i := 6) (N := some 42) (bA 51 127) ?_
 refine of_ (i := 7) (N := some 43) (bA 51 255) ?_
 refine of_ (i := 8) (N := some 44) (bA 51 511) ?_
 refine of_ (i := 9) (N := some 45) (bA 51 1023) ?_
 refine of_ (i := 10) (N := some 46) (bA 51 2047) ?_
 refine pu_ (i := 11) (N := some 47) (bA 51 4095) ?_
 refine pu_ (i := 12) (N := some 48) (bA 51 8191) ?_
 refine of_ (i := 13) (N := some 49) (bA 51 16383) ?_
 refine of_ (i := 14) (N := some 50) (bA 51 32767) ?_
 refine of_ (i := 15) (N := some 51) (bA 51 65535) ?_
 refine of_ (i := 16) (N := some 52) (bA 51 131071) ?_
 refine of_ (i := 17) (N := some 53) (bA 51 262143) ?_
 refine pu_ (i := 18) (N := some 54) (bA 51 524287) ?_
 refine pu_ (i := 19) (N := some 55) (bA 51 1048575) ?_
 refine of_ (i := 20) (N := some 56) (bA 51 2097151) ?_
 refine of_ (i := 21) (N := some 57) (bA 51 4194303) ?_
 refine of_ (i := 22) (N := some 58) (bA 51 8388607) ?_
 refine of_ (i := 23) (N := some 59) (bA 51 16777215) ?_
 refine of_ (i := 24) (N := some 60) (bA 51 33554431) ?_
 refine pu_ (i := 25) (N := some 61) (bA 51 67108863) ?_
 refine pu_ (i := 26) (N := some 62) (bA 51 134217727) ?_
 refine of_ (i := 27) (N := some 63) (bA 51 268435455) ?_
 refine of_ (i := 28) (N := some 64) (bA 51 536870911) ?_
 refine of_ (i := 29) (N := some 65) (bA 51 1073741823) ?_
 refine of_ (i := 30) (N := some 66) (bA 51 2147483647) ?_
 refine of_ (i := 31) (N := some 67) (bA 51 4294967295) ?_
 refine of_ (i := 32) (N := some 68) (bA 51 8589934591) ?_
 refine of_ (i := 33) (N := some 69) (bA 51 17179869183) ?_
 refine of_ (i := 34) (N := some 70) (bA 51 34359738367) ?_
 refine of_ (i := 35) (N := some 71) (bA 51 68719476735) ?_
 refine of_ (i := 36) (N := some 72) (bA 51 137438953471) ?_
 refine of_ (i := 37) (N := some 73) (bA 51 274877906943) ?_
 refine of_ (i := 38) (N := some 74) (bA 51 549755813887) ?_
 refine pu_ (i := 39) (N := some 75) (bA 51 1099511627775) ?_
 refine pu_ (i := 40) (N := some 76) (bA 51 2199023255551) ?_
 refine of_ (i := 41) (N := some 77) (bA 51 4398046511103) ?_
 refine of_ (i := 42) (N := some 78) (bA 51 8796093022207) ?_
 refine of_ (i := 43) (N := some 79) (bA 51 17592186044415) ?_
 refine of_ (i := 44) (N := some 80) (bA 51 35184372088831) ?_
 refine of_ (i := 45) (N := some 81) (bA 51 70368744177663) ?_
 refine of_ (i := 46) (N := some 82) (bA 51 140737488355327) ?_
 refine of_ (i := 47) (N := some 83) (bA 51 281474976710655) ?_
 refine of_ (i := 48) (N := some 84) (bA 51 562949953421311) ?_
 refine pu_ (i := 49) (N := some 85) (bA 51 1125899906842623) ?_
 refine pu_ (i := 50) (N := some 2) (bA 51 2251799813685247) ?_
 refine done_ (done_of HT_.out zk_3) ?_
 try go_wp2
 go_ret
 exact ⟨zk_2, zk_0⟩

theorem laws_FnWithOk.walk (P : laws_FnWithOk.Pure) (a0 : Option Addr) (len0 cap0 : Nat) (z0 : List Int) (w : World) (w0 : (a0 = none ∧ len0 = 0 ∧ cap0 = 0 ∧ z0 = []) ∨ ∃ x, a0 = some x ∧ len0 ≤ cap0 ∧ cap0 ≤ maxLen ∧ z0.length = cap0 ∧ (∀ i, i < z0.length → w.cell? (x.add i) = some (.int .u8 (z0.getD i 0))) ∧ ∀ n ∈ z0, (Lit.int .u8 n).wf = true) (y0 : len0 * 1 ≤ 140737488351232) :
 Calls Try.prog 11 #[.slice a0 len0 cap0] w fun e w' => e = .returned (.bool true) ∧ Below w.heap.size w w' := by
 obtain ⟨l0, rfl, hr0, hm0, hw0, hc0⟩ := ReadsInt.ofRowC w0
 obtain ⟨k, h⟩ := P l0 hm0 y0 hw0
 refine (laws_FnWithOk.calls k _ _ l0 true w (Kd.C_of_reads (d := (0 : Int)) (h1 := fun _ => rfl) hr0) hc0 h).mono ?_
 rintro e w' ⟨rfl, hd⟩
 exact ⟨rfl, hd⟩

end Go.Proofs.Ytjgfpiilfnchnaa.P
