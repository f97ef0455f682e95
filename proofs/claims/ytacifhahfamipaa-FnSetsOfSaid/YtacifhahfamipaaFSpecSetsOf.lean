-- written by gen.py (a program of this session) out of the kit's print of this seat's translation
import Derived.Test.YtacifhahfamipaaPk2
import Derived.Test.YtacifhahfamipaaFSpecL1In
namespace Go.Proofs.Ytacifhahfamipaa.P
open Go.RowKit Go.Proofs.YtacifhahfamipaaW.PrintWords Go.Proofs.YtacifhahfamipaaW.PrintLast Go.Proofs.YtacifhahfamipaaW.PrintMore
attribute [local go_sem] max2_int min2_int max_two min_two max_three min_three max_four min_four
set_option linter.unusedVariables false
set_option linter.unusedSimpArgs false
def spec_SetsOf.T16 : Bool × List (List Nat × List Nat) := (true, [([], []), ([0], [0]), ([], []), ([2], [2]), ([3], [3]), ([], []), ([4, 5], [4, 5]), ([6], [6]), ([1, 7], [1, 7]), ([0, 1, 2, 3, 4, 5, 6, 7, 8], []), ([9, 8, 8, 0, 1, 2, 3, 4, 5, 6, 7, 8], [8, 9])])
def spec_SetsOf.B16 : List Nat := [0, 1, 0, 4, 12, 0, 60, 124, 255, 511, 1023]
theorem spec_SetsOf.tab16 : rtab .any (opsOf Try.f24 16) = spec_SetsOf.T16 := by kernel_rfl
theorem spec_SetsOf.bits16 : waitsOk spec_SetsOf.T16.2 spec_SetsOf.B16 = true := by kernel_rfl
theorem z1v_9 {p : Prop} (h : p := by first | exact Kd.R_nil _ _ _ _ _ | exact Kd.N_nil _ _ _ _ _ | exact Kd.V_nil _ _ _ _ _ | exact Kd.Q_nil _ _ _ _ _ | exact Kd.S_nil _ _ _ _ _) : p := h
theorem z1v_8 {p : Prop} (h : p := by first | exact Kd.S_nil _ _ _ _ _ | exact Kd.N_nil _ _ _ _ _ | exact Kd.V_nil _ _ _ _ _ | exact Kd.Q_nil _ _ _ _ _ | exact Kd.R_nil _ _ _ _ _) : p := h
theorem z1v_7 {p : Prop} (h : p := by (with_reducible repeat (first | apply Kd.R_alloc | apply Kd.R_drewN | apply Kd.R_drew)); exact Kd.R_mono a2.out (fun _ hk => ⟨trivial, hk⟩)) : p := h
theorem z1v_6 {p : Prop} (h : p := by first | rfl | (simp; done) | (simp [*]; done)) : p := h
theorem z1v_5 {p : Prop} (h : p := by (with_reducible repeat (first | refine blk_drewN ?_ _ | refine blk_drew ?_ | refine blk_alloc ?_ _)); refine blk_far ?_ a9.out _; (with_reducible repeat (first | refine blk_drewN ?_ _ | refine blk_drew ?_ | refine blk_alloc ?_ _)); exact a5.out) : p := h
theorem z1v_4 {p : Prop} (h : p := by (with_reducible repeat (first | apply Kd.R_alloc | apply Kd.R_drewN | apply Kd.R_drew)); exact Kd.R_mono a2.out (fun _ hk => hk.2)) : p := h
theorem z1v_3 {p : Prop} (h : p := by (with_reducible repeat (first | apply Kd.S_alloc | apply Kd.S_drewN | apply Kd.S_drew)); exact Kd.S_mono a6.out (fun _ hk => ⟨hk.2, hk.1⟩)) : p := h
theorem z1v_2 {p : Prop} (h : p := by repeat (first | (with_reducible first | exact HB.out | apply below_alloc | apply pw_below_drewN | apply below_drew1) | exact HB.out)) : p := h
theorem z1v_1 {p : Prop} (h : p := by repeat (first | (with_reducible first | exact HB.out | apply below_alloc | apply pw_below_drewN | apply below_drew1 | refine below_set ?_ d2.out) | exact HB.out)) : p := h
theorem z1v_0 {p : Prop} (h : p := by repeat (first | (with_reducible first | exact HB.out | apply below_alloc | apply pw_below_drewN | apply below_drew1 | refine below_set ?_ d2.out | refine below_set ?_ d5.out) | exact HB.out)) : p := h
set_option maxHeartbeats 8000000 in
set_option maxRecDepth 100000 in
theorem spec_SetsOf.calls (k : Nat) (a0 : Int) (r1 : List (List Int)) (r2 : List Int) (r3 : Bool) (w : World) (h : spec_SetsOf.f k a0 = some (r1, r2, r3)) :
 Calls Try.prog 24 #[.int .i64 a0] w fun e w' => ∃ v0_ v1_ : Value, e = .returned (.tuple #[.agg #[v0_, v1_], .bool r3]) ∧ Kd.S (Kd.slice 3 (Kd.int .i64)) 25 w' w.heap.size (fun k_ => some k_ ≠ (v1_ : Value).ownBlock) v0_ r1 ∧ Kd.R (Kd.int .i64) 3 w' w.heap.size (fun _ => True) v1_ r2 ∧ Below w.heap.size w w' := by
 have hu27 := Try.underlying27
 have HB := ak (Below.refl w.heap.size w)
 have H : ((spec_l1In.f a0 0 3).bind fun e3 => (if e3 = true then (spec_SetsOf.l0 k a0 0 ([] : List (List Int)) ([] : List Int)) else (some (([] : List (List Int)), ([] : List Int), false)))) = some (r1, r2, r3) := h
 clear h
 obtain ⟨e3, A2, H⟩ := bd_ H
 try dsimp only at H
 replace H := ox_ H
 rcases H with ⟨rfl, H⟩ | ⟨rfl, H⟩
 ·
  have H' := ak H
  clear H
  go_enter Try.func24, Try.ntmps24
  go_wp2_with (first | ((with_reducible refine gate_dst (N := 2) rfl ?_); refine bx_ (N := 2) (cs := #[.slice none 0 0, .slice none 0 0]) (t := 27) ?_; intro a7 hg w4 hbox hb; have a5 := ak (hbox); have e4 := ak ((by rw [hg]; exact (below_size z1v_2) : w.heap.size ≤ a7)); have d2 := ak ((by rw [hg]; exact (below_size z1v_2) : w.heap.size ≤ a7)); replace HB := ak (below_step z1v_2 hb); clear hb hbox hg) | ((with_reducible refine gate_dst (N := 4) rfl ?_); refine bx_ (N := 4) (cs := #[.slice none 0 0, .slice none 0 0]) (t := 27) ?_; intro a8 hg w5 hbox hb; have a1 := ak (hbox); have e5 := ak ((by rw [hg]; exact (below_size z1v_1) : w.heap.size ≤ a8)); have d5 := ak ((by rw [hg]; exact (below_size z1v_1) : w.heap.size ≤ a8)); replace HB := ak (below_step z1v_1 hb); have a9 := ak ((by rw [hg]; exact Nat.ne_of_lt (blk_lt (g := a7) (o := .cells #[.slice none 0 0, .slice none 0 0] 27 (0, 0)) (xb a5.out)) : a7 ≠ a8)); have b0 := ak ((by rw [hg]; exact Nat.ne_of_gt (blk_lt (g := a7) (o := .cells #[.slice none 0 0, .slice none 0 0] 27 (0, 0)) (xb a5.out)) : a8 ≠ a7)); replace a5 := ak (blk_below (g := a7) (o := .cells #[.slice none 0 0, .slice none 0 0] 27 (0, 0)) (xb a5.out) hb); clear hb hbox hg; have h5 := b0.out; have h6 := a9.out; have b6 := cz20 a1.out; have b7 := cz21 a1.out; have b8 := blk_frozen a1.out 0; have b9 := blk_frozen a1.out 1) | ((with_reducible refine gate_callee (f := 72) rfl ?_); refine gl_ (some 11) Try.func72 #[.int .i64 a0, .int .i64 0, .int .i64 3] ?_; (with_reducible refine (spec_l1In.calls a0 0 3 true _ A2.out).mono ?_); rintro e w' ⟨rfl, ⟨nd, rfl⟩⟩; refine ⟨_, rfl, ?_⟩))
  go_loopg [5] k (fun kq v5 w' => ∃ (b1 : Int) (a4 : List (List Int)) (a3 : List Int) (u249000 : Value) (u249001 : Value), v5 = .int .i64 b1 ∧ Aside0 (spec_SetsOf.l0 kq a0 b1 a4 a3 = some (r1, r2, r3)) ∧ Aside0 (kq ≤ k) ∧ Aside0 (Kd.S (Kd.slice 3 (Kd.int .i64)) 25 w' w.heap.size (fun k_ => some k_ ≠ (u249001 : Value).ownBlock) u249000 a4) ∧ Aside0 (Kd.R (Kd.int .i64) 3 w' w.heap.size (fun _ => True) u249001 a3) ∧ Aside0 (w'.heap[a7]? = some (.cells #[(.slice none 0 0), (.slice none 0 0)] 27 (0, 0))) ∧ Aside0 (w'.heap[a8]? = some (.cells #[u249000, u249001] 27 (0, 0))) ∧ Aside0 (Below w.heap.size w w'))
  case atStart => exact ⟨(0), (([] : List (List Int))), (([] : List Int)), (.slice none 0 0), (.slice none 0 0), z1v_6, H', ⟨Nat.le_refl _⟩, ⟨z1v_8⟩, ⟨z1v_9⟩, ⟨(by (with_reducible repeat (first | refine blk_drewN ?_ _ | refine blk_drew ?_ | refine blk_alloc ?_ _)); refine blk_far ?_ a9.out _; (with_reducible repeat (first | refine blk_drewN ?_ _ | refine blk_drew ?_ | refine blk_alloc ?_ _)); refine blk_far ?_ a9.out _; (with_reducible repeat (first | refine blk_drewN ?_ _ | refine blk_drew ?_ | refine blk_alloc ?_ _)); exact a5.out)⟩, ⟨(by (with_reducible repeat (first | refine blk_drewN ?_ _ | refine blk_drew ?_ | refine blk_alloc ?_ _)); refine blk_put (cs := #[.slice none 0 0, .slice none 0 0]) ?_ 1 _ rfl; (with_reducible repeat (first | refine blk_drewN ?_ _ | refine blk_drew ?_ | refine blk_alloc ?_ _)); refine blk_put (cs := #[.slice none 0 0, .slice none 0 0]) ?_ 0 _ rfl; (with_reducible repeat (first | refine blk_drewN ?_ _ | refine blk_drew ?_ | refine blk_alloc ?_ _)); exact a1.out)⟩, ⟨z1v_0⟩⟩
  case round =>
   clear H'
   try clear c3
   try clear b6
   try clear b7
   try clear b8
   try clear b9
   obtain ⟨b1, a4, a3, u249000, u249001, rfl, HA, HK1, a6, a2, a5, a1, HB⟩ := hrel
   cases gk with
   | zero => exact absurd HA.out (by simp [spec_SetsOf.l0])
   | succ k1 =>
    have H := HA.out
    clear HA
    simp only [spec_SetsOf.l0] at H
    replace H := ok_ H
    obtain ⟨c8, H⟩ := H
    have f5 := eq_true c8
    have f6 : decide (0 ≤ a0) = true := dT_ c8
    clear c8
    obtain ⟨ji9, hji9⟩ : ∃ j_ : Int, (shl .i64 1 a0) = j_ := ⟨_, rfl⟩
    replace H : (if b1 < (ji9) then (spec_SetsOf.l1 k1 a0 b1 (([] : List Int)) 0 a4 a3) else (some (a4, a3, true))) = some (r1, r2, r3) := by first | (rw [hji9] at H; exact H) | (simp only [hji9] at H ⊢; exact H)
    have hji9_ : (IntKind.i64.wrap (1 * 2 ^ min a0.toNat 64)) = ji9 := hji9
    have hji9z : a0 ≤ 64 → (IntKind.i64.wrap (1 * 2 ^ a0.toNat)) = ji9 := shl_small hji9
    have hji9u : (IntKind.i64.wrap (2 ^ min a0.toNat 64)) = ji9 := by have h_ := hji9_; rw [Int.one_mul] at h_; exact h_
    have hji9v : a0 ≤ 64 → (IntKind.i64.wrap (2 ^ a0.toNat)) = ji9 := fun hle_ => by have h_ := hji9z hle_; rw [Int.one_mul] at h_; exact h_
    have hji9y : (wrap64 (1 * 2 ^ min a0.toNat 64)) = ji9 := (i64_w _).symm.trans hji9_
    have hji9x : a0 ≤ 64 → (wrap64 (1 * 2 ^ a0.toNat)) = ji9 := fun h_ => (i64_w _).symm.trans (hji9z h_)
    replace H := os_ H
    rcases H with ⟨d6, H⟩ | ⟨d6, H⟩
    ·
     obtain ⟨y250, hy250⟩ : ∃ y_ : List Int, y_ = (([] : List Int)) := ⟨_, rfl⟩
     replace H : (spec_SetsOf.l1 k1 a0 b1 y250 0 a4 a3) = some (r1, r2, r3) := by first | (rw [hy250]; with_reducible exact H) | (have H2_ := (Option.bind_some _ _).symm.trans H; rw [hy250]; with_reducible exact H2_) | (have H2_ := (Option.bind_some _ _).symm.trans H; with_reducible exact H2_) | with_reducible exact H | (rw [hy250]; exact H) | exact H
     have Ny250 := ak hy250
     clear hy250
     have H' := ak H
     clear H
     go_wp2_with (first | ((with_reducible refine gate_dst (N := 20) rfl ?_); refine Kd.R_lit (Kd.int .i64) _ 3 ?hg (N := 20) ?hd (xs := ([] : List Int)) (inner := []) (ok := fun _ => True) (okp := fun _ => True) ?hr ?hp (fun _ hk => hk) trivial (Below.refl _ _) (Nat.le_refl _) (by simp) ?_; (case hd => rfl); (case hg => rfl); (case hr => first | (go_simp; done) | (go_simp; rfl)); (case hp => exact (Reps.none _ _)); intro h7 i3 ho12 hb hg_ hnew_; clear hg_ hnew_; (first | rw [← Ny250.out] at ho12 | (simp only [Int.reduceToNat] at ho12; rw [← Ny250.out] at ho12)); replace a6 := ak (Kd.S_elder' (xS a6.out) (Kd.R_base ho12) hb); have e6 := ak (Kd.R_lower (Kd.R_new' ho12 (Kd.R_lt (xR a2.out))) (below_size z1v_0)); replace a2 := ak (Kd.R_elder' (xR a2.out) (Kd.R_base ho12) hb); replace a5 := ak (blk_below (g := a7) (o := .cells #[.slice none 0 0, .slice none 0 0] 27 (0, 0)) (xb a5.out) hb); replace a1 := ak (blk_below (g := a8) (o := .cells #[u249000, u249001] 27 (0, 0)) (xb a1.out) hb); replace HB := ak (below_step z1v_0 hb); clear hb ho12))
     go_loopg [6, 7] k1 (fun kq v6 v7 w' => ∃ (b2 : List Int) (d1 : Int), v7 = .int .i64 d1 ∧ Aside0 (spec_SetsOf.l1 kq a0 b1 b2 d1 a4 a3 = some (r1, r2, r3)) ∧ Aside0 (kq ≤ k1) ∧ Aside0 (Kd.R (Kd.int .i64) 3 w' w.heap.size (fun k_ => some k_ ≠ (u249001 : Value).ownBlock) v6 b2) ∧ Aside0 (Kd.S (Kd.slice 3 (Kd.int .i64)) 25 w' w.heap.size (fun k_ => some k_ ≠ (v6 : Value).ownBlock ∧ some k_ ≠ (u249001 : Value).ownBlock) u249000 a4) ∧ Aside0 (Kd.R (Kd.int .i64) 3 w' w.heap.size (fun k_ => some k_ ≠ (v6 : Value).ownBlock) u249001 a3) ∧ Aside0 (w'.heap[a7]? = some (.cells #[(.slice none 0 0), (.slice none 0 0)] 27 (0, 0))) ∧ Aside0 (w'.heap[a8]? = some (.cells #[u249000, u249001] 27 (0, 0))) ∧ Aside0 (Below w.heap.size w w'))
     case atStart => exact ⟨(y250), (0), z1v_6, H', ⟨Nat.le_refl _⟩, ⟨(by (with_reducible repeat (first | apply Kd.R_alloc | apply Kd.R_drewN | apply Kd.R_drew)); exact Kd.R_mono e6.out (fun _ hk => hk.2))⟩, ⟨z1v_3⟩, ⟨z1v_4⟩, ⟨(xb a5.out)⟩, ⟨(xb a1.out)⟩, ⟨z1v_0⟩⟩
     case round =>
      clear H'
      try clear c3
      try clear c8
      try clear f5
      try clear f6
      try clear i4
      try clear d6
      try clear b6
      try clear b7
      try clear b8
      try clear b9
      obtain ⟨b2, d1, rfl, HA, HK2, d0, a6, a2, a5, a1, HB⟩ := hrel
      cases gk with
      | zero => exact absurd HA.out (by simp [spec_SetsOf.l1])
      | succ k2 =>
       have H := HA.out
       clear HA
       simp only [spec_SetsOf.l1] at H
       replace H := ok_ H
       obtain ⟨f7, H⟩ := H
       have g2 := eq_true f7
       have g3 : decide (0 ≤ a0) = true := dT_ f7
       clear f7
       (try clear hji9_); (try clear hji9z); (try clear hji9u); (try clear hji9v); (try clear hji9y); (try clear hji9x); (try clear hji9)
       obtain ⟨ji14, hji14⟩ : ∃ j_ : Int, (shl .i64 1 a0) = j_ := ⟨_, rfl⟩
       replace H : (if d1 < (ji14) then (if (Go.bits .and .i64 b1 d1) = b1 then (if b2.length < 17592186044416 then (spec_SetsOf.l1 k2 a0 b1 (b2 ++ [1]) (wrap64 (d1 + 1)) a4 a3) else (none)) else (if b2.length < 17592186044416 then (spec_SetsOf.l1 k2 a0 b1 (b2 ++ [0]) (wrap64 (d1 + 1)) a4 a3) else (none))) else (if a4.length < 5864062014805 then (if a3.length < 17592186044416 then (spec_SetsOf.l0 k2 a0 (wrap64 (b1 + 1)) (a4 ++ [b2]) (a3 ++ [wrap64 ((wrap64 ((ji14) - 1)) - b1)])) else (none)) else (none))) = some (r1, r2, r3) := by first | (rw [hji14] at H; exact H) | (simp only [hji14] at H ⊢; exact H)
       have hji14_ : (IntKind.i64.wrap (1 * 2 ^ min a0.toNat 64)) = ji14 := hji14
       have hji14z : a0 ≤ 64 → (IntKind.i64.wrap (1 * 2 ^ a0.toNat)) = ji14 := shl_small hji14
       have hji14u : (IntKind.i64.wrap (2 ^ min a0.toNat 64)) = ji14 := by have h_ := hji14_; rw [Int.one_mul] at h_; exact h_
       have hji14v : a0 ≤ 64 → (IntKind.i64.wrap (2 ^ a0.toNat)) = ji14 := fun hle_ => by have h_ := hji14z hle_; rw [Int.one_mul] at h_; exact h_
       have hji14y : (wrap64 (1 * 2 ^ min a0.toNat 64)) = ji14 := (i64_w _).symm.trans hji14_
       have hji14x : a0 ≤ 64 → (wrap64 (1 * 2 ^ a0.toNat)) = ji14 := fun h_ => (i64_w _).symm.trans (hji14z h_)
       replace H := os_ H
       rcases H with ⟨e7, H⟩ | ⟨e7, H⟩
       ·
        replace H := oe2 H
        rcases H with ⟨⟨-, e8, e9⟩, H⟩ | ⟨⟨i5, e8, e9⟩, H⟩
        ·
         replace H := ok_ H
         obtain ⟨g4, H⟩ := H
         have LMc17 := ak g4
         clear g4
         obtain ⟨y253, hy253⟩ : ∃ y_ : List Int, y_ = (b2 ++ [1]) := ⟨_, rfl⟩
         replace H : (spec_SetsOf.l1 k2 a0 b1 y253 (wrap64 (d1 + 1)) a4 a3) = some (r1, r2, r3) := by first | (rw [hy253]; with_reducible exact H) | (have H2_ := (Option.bind_some _ _).symm.trans H; rw [hy253]; with_reducible exact H2_) | (have H2_ := (Option.bind_some _ _).symm.trans H; with_reducible exact H2_) | with_reducible exact H | (rw [hy253]; exact H) | exact H
         have Ny253 := ak hy253
         clear hy253
         have H' := ak H
         clear H
         go_wp2_with (first | ((with_reducible refine gate_builtin (b := .append) (xs := #[.tmp 32, .tmp 34]) rfl ?_); at_builtin; refine Kd.R_append (Kd.int .i64) (w0 := w) w.heap.size rfl (.tmp 32) (.tmp 34) 25 3 (.int .i64 0) 8 rfl Try.underlying25 info3 rfl (by decide) (by omega) u6 b2 1 [.int .i64 1] (fun k_ => some k_ ≠ (u249001 : Value).ownBlock) (fun _ => False) rfl rfl ?aP (fun _ hk => hk.elim) ?aF ?aO ?aB ?aS ?aL ?_; (case aP => exact rfl); (case aB => exact z1v_0); (case aF => exact (fun k_ hk => Kd.fresh' (Kd.R_lt (xR a2.out)) k_ hk)); (case aO => exact (xR d0.out)); (case aS => exact (below_size z1v_0)); (case aL => have := LMc17.out; omega); intro h8 i6 ho hb hg hat; rw [← Ny253.out] at ho; replace a6 := ak (Kd.S_after (ok := (fun k_ => some k_ ≠ (u249001 : Value).ownBlock)) z1v_3 hg hat); replace a2 := ak (Kd.R_after (ok := (fun _ => True)) z1v_7 hg hat); replace a5 := ak (blk_grown (g := a7) (o := .cells #[.slice none 0 0, .slice none 0 0] 27 (0, 0)) (xb a5.out) hg (Kd.R_ne d0.out a5.out (by decide))); replace a1 := ak (blk_grown (g := a8) (o := .cells #[u249000, u249001] 27 (0, 0)) (xb a1.out) hg (Kd.R_ne d0.out a1.out (by decide))); replace HB := ak (hb); have f0 := ak (ho); clear d0; clear ho hb hg hat))
         go_roundg k2
         case measure => have := HK1.out; have := HK2.out; omega
         case rel => exact ⟨(y253), (wrap64 (d1 + 1)), z1v_6, H', ⟨(by have := HK1.out; have := HK2.out; omega)⟩, ⟨(xR f0.out)⟩, ⟨z1v_3⟩, ⟨z1v_4⟩, ⟨(xb a5.out)⟩, ⟨(xb a1.out)⟩, ⟨z1v_0⟩⟩
        replace H := ok_ H
        obtain ⟨g5, H⟩ := H
        have LMc19 := ak g5
        clear g5
        obtain ⟨y256, hy256⟩ : ∃ y_ : List Int, y_ = (b2 ++ [0]) := ⟨_, rfl⟩
        replace H : (spec_SetsOf.l1 k2 a0 b1 y256 (wrap64 (d1 + 1)) a4 a3) = some (r1, r2, r3) := by first | (rw [hy256]; with_reducible exact H) | (have H2_ := (Option.bind_some _ _).symm.trans H; rw [hy256]; with_reducible exact H2_) | (have H2_ := (Option.bind_some _ _).symm.trans H; with_reducible exact H2_) | with_reducible exact H | (rw [hy256]; exact H) | exact H
        have Ny256 := ak hy256
        clear hy256
        have H' := ak H
        clear H
        go_wp2_with (first | ((with_reducible refine gate_builtin (b := .append) (xs := #[.tmp 32, .tmp 34]) rfl ?_); at_builtin; refine Kd.R_append (Kd.int .i64) (w0 := w) w.heap.size rfl (.tmp 32) (.tmp 34) 25 3 (.int .i64 0) 8 rfl Try.underlying25 info3 rfl (by decide) (by omega) u6 b2 0 [.int .i64 0] (fun k_ => some k_ ≠ (u249001 : Value).ownBlock) (fun _ => False) rfl rfl ?aP (fun _ hk => hk.elim) ?aF ?aO ?aB ?aS ?aL ?_; (case aP => exact rfl); (case aB => exact z1v_0); (case aF => exact (fun k_ hk => Kd.fresh' (Kd.R_lt (xR a2.out)) k_ hk)); (case aO => exact (xR d0.out)); (case aS => exact (below_size z1v_0)); (case aL => have := LMc19.out; omega); intro h9 i7 ho hb hg hat; rw [← Ny256.out] at ho; replace a6 := ak (Kd.S_after (ok := (fun k_ => some k_ ≠ (u249001 : Value).ownBlock)) z1v_3 hg hat); replace a2 := ak (Kd.R_after (ok := (fun _ => True)) z1v_7 hg hat); replace a5 := ak (blk_grown (g := a7) (o := .cells #[.slice none 0 0, .slice none 0 0] 27 (0, 0)) (xb a5.out) hg (Kd.R_ne d0.out a5.out (by decide))); replace a1 := ak (blk_grown (g := a8) (o := .cells #[u249000, u249001] 27 (0, 0)) (xb a1.out) hg (Kd.R_ne d0.out a1.out (by decide))); replace HB := ak (hb); have f1 := ak (ho); clear d0; clear ho hb hg hat))
        go_roundg k2
        case measure => have := HK1.out; have := HK2.out; omega
        case rel => exact ⟨(y256), (wrap64 (d1 + 1)), z1v_6, H', ⟨(by have := HK1.out; have := HK2.out; omega)⟩, ⟨(xR f1.out)⟩, ⟨z1v_3⟩, ⟨z1v_4⟩, ⟨(xb a5.out)⟩, ⟨(xb a1.out)⟩, ⟨z1v_0⟩⟩
       replace H := ok_ H
       obtain ⟨g6, H⟩ := H
       have LMc21 := ak g6
       clear g6
       obtain ⟨y259, hy259⟩ : ∃ y_ : List (List Int), y_ = (a4 ++ [b2]) := ⟨_, rfl⟩
       replace H : (if a3.length < 17592186044416 then (spec_SetsOf.l0 k2 a0 (wrap64 (b1 + 1)) y259 (a3 ++ [wrap64 ((wrap64 ((ji14) - 1)) - b1)])) else (none)) = some (r1, r2, r3) := by first | (rw [hy259]; with_reducible exact H) | (have H2_ := (Option.bind_some _ _).symm.trans H; rw [hy259]; with_reducible exact H2_) | (have H2_ := (Option.bind_some _ _).symm.trans H; with_reducible exact H2_) | with_reducible exact H | (rw [hy259]; exact H) | exact H
       have Ny259 := ak hy259
       clear hy259
       have g7 := eq_true (oa_ : 0 ≤ a0)
       replace H := ok_ H
       obtain ⟨g8, H⟩ := H
       have LMc24 := ak g8
       clear g8
       obtain ⟨y262, hy262⟩ : ∃ y_ : List Int, y_ = (a3 ++ [wrap64 ((wrap64 ((ji14) - 1)) - b1)]) := ⟨_, rfl⟩
       replace H : (spec_SetsOf.l0 k2 a0 (wrap64 (b1 + 1)) y259 y262) = some (r1, r2, r3) := by first | (rw [hy262]; with_reducible exact H) | (have H2_ := (Option.bind_some _ _).symm.trans H; rw [hy262]; with_reducible exact H2_) | (have H2_ := (Option.bind_some _ _).symm.trans H; with_reducible exact H2_) | with_reducible exact H | (rw [hy262]; exact H) | exact H
       have Ny262 := ak hy262
       clear hy262
       have H' := ak H
       clear H
       have g9 := b0.out
       have h0 := a9.out
       have b6 := cz20 a1.out
       have b7 := cz21 a1.out
       have b8 := blk_frozen a1.out 0
       have b9 := blk_frozen a1.out 1
       obtain ⟨f2, f3, f8⟩ := Kd.R_slice d0.out
       subst f8
       try go_wp2_with (first | ((with_reducible refine gate_builtin (b := .append) (xs := #[.tmp 37, .tmp 39]) rfl ?_); at_builtin; refine Kd.S_append (Kd.slice 3 (Kd.int .i64)) (w0 := w) w.heap.size rfl (.tmp 37) (.tmp 39) 24 25 (.slice none 0 0) 24 rfl Try.underlying24 info25 rfl (by decide) (by omega) u249000 a4 b2 [.slice f2 b2.length f3] (fun k_ => some k_ ≠ (u249001 : Value).ownBlock) (fun k_ => some k_ = (.slice f2 b2.length f3 : Value).ownBlock) rfl rfl ?aP (fun k_ hk_ => ((Kd.R_mono (ok' := fun k_ => ((fun k_ => some k_ ≠ (u249001 : Value).ownBlock)) k_ ∧ some k_ ≠ (u249000 : Value).ownBlock) (Kd.R_apart' (d0.out) (Kd.S_typed a6.out) (by decide)) (fun k_ hk => ⟨hk.1, hk.2⟩))).1 k_ hk_.symm) ?aF ?aO ?aB ?aS ?aL ?_; (case aP => exact Kd.M_row (Kd.R_mono (Kd.R_tight rfl (Kd.R_mono (ok' := fun k_ => ((fun k_ => some k_ ≠ (u249001 : Value).ownBlock)) k_ ∧ some k_ ≠ (u249000 : Value).ownBlock) (Kd.R_apart' (d0.out) (Kd.S_typed a6.out) (by decide)) (fun k_ hk => ⟨hk.1, hk.2⟩))) (fun _ h_ => h_))); (case aB => exact z1v_0); (case aF => exact (fun k_ hk => Kd.fresh' (Kd.R_lt (xR a2.out)) k_ hk)); (case aO => exact (by (with_reducible repeat (first | apply Kd.S_alloc | apply Kd.S_drewN | apply Kd.S_drew)); exact Kd.S_mono a6.out (fun k_ hk => ⟨hk.2, fun e_ => hk.1 e_⟩))); (case aS => exact (below_size z1v_0)); (case aL => have := LMc21.out; omega); intro i0 e2 ho hb hg hat; rw [← Ny259.out] at ho; replace a2 := ak (Kd.R_over' (xR a2.out) (Kd.S_typed (xS a6.out)) (by decide) hg); replace a5 := ak (blk_grown (g := a7) (o := .cells #[.slice none 0 0, .slice none 0 0] 27 (0, 0)) (xb a5.out) hg (Kd.S_ne a6.out a5.out (by decide))); replace a1 := ak (blk_grown (g := a8) (o := .cells #[u249000, u249001] 27 (0, 0)) (xb a1.out) hg (Kd.S_ne a6.out a1.out (by decide))); replace HB := ak (hb); have b3 := ak (ho); clear a6 d0; clear ho hb hg hat; obtain ⟨b4, b5, f9⟩ := Kd.S_slice b3.out; subst f9; have b6 := cz20 a1.out; have b7 := cz21 a1.out; have b8 := blk_frozen a1.out 0; have b9 := blk_frozen a1.out 1))
       have n0_ : Aside0 (Kd.R (Kd.int .i64) 3 (e2.setCell ⟨a8, 0, none⟩ (.slice b4 y259.length b5)) w.heap.size (fun _ => True) u249001 a3) := ⟨(by (with_reducible repeat (first | apply Kd.R_alloc | apply Kd.R_drewN | apply Kd.R_drew)); exact Kd.R_mono (Kd.R_far (p := ⟨a8, 0, none⟩) (Kd.R_types a2.out a1.out (by decide)) (fun _ hk => hk.2) (.slice b4 y259.length b5)) (fun _ hk => trivial))⟩
       have n1_ : Aside0 (Kd.S (Kd.slice 3 (Kd.int .i64)) 25 (e2.setCell ⟨a8, 0, none⟩ (.slice b4 y259.length b5)) w.heap.size (fun k_ => some k_ ≠ (u249001 : Value).ownBlock) (.slice b4 y259.length b5) y259) := ⟨(by (with_reducible repeat (first | apply Kd.S_alloc | apply Kd.S_drewN | apply Kd.S_drew)); exact Kd.S_mono (Kd.S_far (p := ⟨a8, 0, none⟩) (Kd.S_types b3.out a1.out (by decide)) (fun _ hk => hk.2) (.slice b4 y259.length b5)) (fun _ hk => hk.1))⟩
       have n2_ : Aside0 ((e2.setCell ⟨a8, 0, none⟩ (.slice b4 y259.length b5)).heap[a7]? = some (.cells #[.slice none 0 0, .slice none 0 0] 27 (0, 0))) := ⟨z1v_5⟩
       have n3_ : Aside0 ((e2.setCell ⟨a8, 0, none⟩ (.slice b4 y259.length b5)).heap[a8]? = some (.cells #[.slice b4 y259.length b5, u249001] 27 (0, 0))) := ⟨(by (with_reducible repeat (first | refine blk_drewN ?_ _ | refine blk_drew ?_ | refine blk_alloc ?_ _)); refine blk_put (cs := #[u249000, u249001]) ?_ 0 _ rfl; (with_reducible repeat (first | refine blk_drewN ?_ _ | refine blk_drew ?_ | refine blk_alloc ?_ _)); exact a1.out)⟩
       have n4_ : Aside0 (Below w.heap.size w (e2.setCell ⟨a8, 0, none⟩ (.slice b4 y259.length b5))) := ⟨z1v_0⟩
       (try clear a2)
       (try clear b3)
       (try clear a5)
       (try clear a1)
       (try clear HB)
       generalize (e2.setCell ⟨a8, 0, none⟩ (.slice b4 y259.length b5)) = i1 at n0_ n1_ n2_ n3_ n4_ ⊢
       have a2 := n0_
       have b3 := n1_
       have a5 := n2_
       have a1 := n3_
       have HB := n4_
       clear n0_ n1_ n2_ n3_ n4_
       replace a2 := ak (Kd.R_drew a2.out)
       replace b3 := ak (Kd.S_drew b3.out)
       replace a5 := ak (blk_drew a5.out)
       replace a1 := ak (blk_drew a1.out)
       replace HB := ak (below_drew1 HB.out)
       refine start_ (n := 11) (S := fun w' => w'.cell? ⟨a8, 0, none⟩ = some (.slice b4 y259.length b5) ∧ w'.cell? ⟨a8, 1, none⟩ = some (u249001)) (ds := [10]) (bA 11 0) (by kernel_rfl) rfl rfl ⟨(blk_cell a1.out 0).trans rfl, (blk_cell a1.out 1).trans rfl⟩ (fun hHeld => ?_); refine with_tabW spec_SetsOf.tab16 spec_SetsOf.bits16 (fun HT_ HW_ => ?_)
       generalize i1.drew = i8 at a2 b3 a5 a1 HB hHeld ⊢
       refine pu_ (i := 0) (N := some 42) (bA 11 1) ?_
       refine pu_ (i := 2) (N := some 44) (bA 11 5) ?_
       refine pu_ (i := 3) (N := some 45) (bA 11 13) ?_
       refine pu_ (i := 4) (N := some 46) (bA 11 29) ?_
       refine pu_ (i := 5) (N := some 47) (bA 11 61) ?_
       refine pu_ (i := 6) (N := some 48) (bA 11 125) ?_
       refine tk_ (i := 1) (N := some 43) (bA 11 127) ?_
       refine one_ (i := 7) (N := some 49) (bA 11 255) rfl rfl (one_of HT_.out (by kernel_rfl)) (by decide) (fun K hK => ?_)
       refine value_ (w1 := ?_) (v := ?_) (by rfl) rfl ?_ ?_
       rotate_left 2
       ·
        go_simp
        constructor
        ·
         rfl
        rfl
       refine hK.out _ _ ⟨(blk_cell (blk_alloc a1.out _) 0).trans rfl, (blk_cell (blk_alloc a1.out _) 1).trans rfl⟩ (fun hHeld => ?_)
       clear hK K
       refine no_ (N := some 49) ?_
       refine one_ (i := 8) (N := some 50) (bA 11 511) rfl rfl (one_of HT_.out (by kernel_rfl)) (by decide) (fun K hK => ?_)
       refine Kd.R_append_step (Kd.int .i64) (w0 := w) w.heap.size (by rfl) (.tmp 43) (.tmp 49) 25 3 (.int .i64 0) 8 rfl Try.underlying25 info3 rfl (by decide) (by omega) u249001 a3 (wrap64 ((wrap64 ((ji14) - 1)) - b1)) [.int .i64 (wrap64 ((wrap64 ((ji14) - 1)) - b1))] (fun _ => True) (fun _ => False) rfl rfl ?aP (fun _ hk => hk.elim) ?aF ?aO ?aB ?aS ?aL ?_
       (case aP => exact rfl)
       (case aB => exact z1v_0)
       (case aF => exact (fun _ _ => trivial))
       (case aO => exact (xR a2.out))
       (case aS => exact (below_size z1v_0))
       (case aL => have := LMc24.out; omega)
       intro i2 i9 ho hb hg hat
       rw [← Ny262.out] at ho
       replace a5 := ak (blk_grown (g := a7) (o := .cells #[.slice none 0 0, .slice none 0 0] 27 (0, 0)) (xb a5.out) hg (Kd.R_ne a2.out a5.out (by decide)))
       replace a1 := ak (blk_grown (g := a8) (o := .cells #[.slice b4 y259.length b5, u249001] 27 (0, 0)) (xb a1.out) hg (Kd.R_ne a2.out a1.out (by decide)))
       replace b3 := ak (Kd.S_after (ok := (fun _ => True)) (by (with_reducible repeat (first | apply Kd.S_alloc | apply Kd.S_drewN | apply Kd.S_drew)); exact Kd.S_mono b3.out (fun _ hk => ⟨trivial, hk⟩)) hg hat)
       replace HB := ak (hb)
       have d7 := ak (ho)
       clear a2 ho hb hg hat
       obtain ⟨d8, d9, f4⟩ := Kd.R_slice d7.out
       (first | subst f4 | (injection f4 with f1_ f2_ f3_; have f4_ := f1_.symm; have f5_ := f3_.symm; clear f1_ f2_ f3_; subst f4_; subst f5_))
       refine hK.out _ _ ⟨(blk_cell a1.out 0).trans rfl, (blk_cell a1.out 1).trans rfl⟩ (fun hHeld => ?_)
       clear hK K
       refine no_ (N := some 50) ?_
       refine pu_ (i := 9) (N := some 51) (bA 11 1023) ?_
       refine last_ (i := 10) (N := none) (bA 11 2047) rfl rfl (one_of HT_.out (by kernel_rfl)) (by decide) (fun K hK => ?_)
       have hs35 : _ := cz21 a1.out
       have hfs35 := blk_frozen a1.out 1
       have hns35_0 := a9.out
       have hms35_0 := b0.out
       refine skip_ (w1 := ?_) (by rfl) rfl ?_ ?_
       rotate_left
       ·
        go_simp
        rfl
       refine hK.out _ _ ?_
       clear hK K
       refine done_ (done_of HT_.out (by kernel_rfl)) ?_
       try go_wp2
       go_roundg k2
       case measure => have := HK1.out; have := HK2.out; omega
       case rel => exact ⟨(wrap64 (b1 + 1)), (y259), (y262), (.slice b4 y259.length b5), (.slice d8 y262.length d9), z1v_6, H', ⟨(by have := HK1.out; have := HK2.out; omega)⟩, ⟨(by (with_reducible repeat (first | apply Kd.S_alloc | apply Kd.S_drewN | apply Kd.S_drew)); exact Kd.S_mono (Kd.S_far (p := ⟨a8, 1, none⟩) (Kd.S_types b3.out a1.out (by decide)) (fun _ hk => hk.2) (.slice d8 y262.length d9)) (fun _ hk => hk.1.2))⟩, ⟨(by (with_reducible repeat (first | apply Kd.R_alloc | apply Kd.R_drewN | apply Kd.R_drew)); exact Kd.R_mono (Kd.R_far (p := ⟨a8, 1, none⟩) (Kd.R_types d7.out a1.out (by decide)) (fun _ hk => hk.2) (.slice d8 y262.length d9)) (fun _ hk => trivial))⟩, ⟨z1v_5⟩, ⟨(by (with_reducible repeat (first | refine blk_drewN ?_ _ | refine blk_drew ?_ | refine blk_alloc ?_ _)); refine blk_put (cs := #[.slice b4 y259.length b5, u249001]) ?_ 1 _ rfl; (with_reducible repeat (first | refine blk_drewN ?_ _ | refine blk_drew ?_ | refine blk_alloc ?_ _)); exact a1.out)⟩, ⟨z1v_0⟩⟩
    simp only [Option.some.injEq, Prod.mk.injEq] at H
    obtain ⟨rfl, rfl, rfl⟩ := H
    have h1 := b0.out
    have h2 := a9.out
    have b6 := cz20 a1.out
    have b7 := cz21 a1.out
    have b8 := blk_frozen a1.out 0
    have b9 := blk_frozen a1.out 1
    obtain ⟨d3, d4, g0⟩ := Kd.S_slice a6.out
    subst g0
    have b6 := cz20 a5.out
    have b7 := cz21 a5.out
    have b8 := blk_frozen a5.out 0
    have b9 := blk_frozen a5.out 1
    obtain ⟨e0, e1, g1⟩ := Kd.R_slice a2.out
    subst g1
    go_wp2
    refine bodyPost_ret (results_ct rfl _ _ a7 27 #[.slice d3 a4.length d4, .slice e0 a3.length e1] (0, 0) _ rfl (by (with_reducible repeat (first | refine blk_drewN ?_ _ | refine blk_drew ?_ | refine blk_alloc ?_ _)); refine blk_put (cs := #[.slice d3 a4.length d4, .slice none 0 0]) ?_ 1 _ rfl; (with_reducible repeat (first | refine blk_drewN ?_ _ | refine blk_drew ?_ | refine blk_alloc ?_ _)); refine blk_put (cs := #[.slice none 0 0, .slice none 0 0]) ?_ 0 _ rfl; (with_reducible repeat (first | refine blk_drewN ?_ _ | refine blk_drew ?_ | refine blk_alloc ?_ _)); exact a5.out) Try.underlying27 rfl (by kernel_rfl)) rfl ?_
    exact ⟨_, _, (by first | rfl | (simp [errW_none, errW_some] <;> rfl) | (simp only [← hji9]; first | rfl | (simp [errW_none, errW_some] <;> rfl)) | (simp [*, errW_none, errW_some] <;> rfl)), (by (with_reducible repeat (first | apply Kd.S_alloc | apply Kd.S_drewN | apply Kd.S_drew)); exact Kd.S_mono (Kd.S_far (p := ⟨a7, 1, none⟩) (Kd.S_far (p := ⟨a7, 0, none⟩) (Kd.S_types a6.out a5.out (by decide)) (fun _ hk => hk.2) (.slice d3 a4.length d4)) (fun _ hk => hk.2) (.slice e0 a3.length e1)) (fun _ hk => hk.1)), (by (with_reducible repeat (first | apply Kd.R_alloc | apply Kd.R_drewN | apply Kd.R_drew)); exact Kd.R_mono (Kd.R_far (p := ⟨a7, 1, none⟩) (Kd.R_far (p := ⟨a7, 0, none⟩) (Kd.R_types a2.out a5.out (by decide)) (fun _ hk => hk.2) (.slice d3 a4.length d4)) (fun _ hk => hk.2) (.slice e0 a3.length e1)) (fun _ hk => trivial)), z1v_0⟩
 simp only [Option.some.injEq, Prod.mk.injEq] at H
 obtain ⟨rfl, rfl, rfl⟩ := H
 go_enter Try.func24, Try.ntmps24
 go_wp2_with (first | ((with_reducible refine gate_dst (N := 2) rfl ?_); refine bx_ (N := 2) (cs := #[.slice none 0 0, .slice none 0 0]) (t := 27) ?_; intro a7 hg j0 hbox hb; have a5 := ak (hbox); have e4 := ak ((by rw [hg]; exact (below_size z1v_2) : w.heap.size ≤ a7)); have d2 := ak ((by rw [hg]; exact (below_size z1v_2) : w.heap.size ≤ a7)); replace HB := ak (below_step z1v_2 hb); clear hb hbox hg) | ((with_reducible refine gate_dst (N := 4) rfl ?_); refine bx_ (N := 4) (cs := #[.slice none 0 0, .slice none 0 0]) (t := 27) ?_; intro a8 hg j1 hbox hb; have a1 := ak (hbox); have e5 := ak ((by rw [hg]; exact (below_size z1v_1) : w.heap.size ≤ a8)); have d5 := ak ((by rw [hg]; exact (below_size z1v_1) : w.heap.size ≤ a8)); replace HB := ak (below_step z1v_1 hb); have a9 := ak ((by rw [hg]; exact Nat.ne_of_lt (blk_lt (g := a7) (o := .cells #[.slice none 0 0, .slice none 0 0] 27 (0, 0)) (xb a5.out)) : a7 ≠ a8)); have b0 := ak ((by rw [hg]; exact Nat.ne_of_gt (blk_lt (g := a7) (o := .cells #[.slice none 0 0, .slice none 0 0] 27 (0, 0)) (xb a5.out)) : a8 ≠ a7)); replace a5 := ak (blk_below (g := a7) (o := .cells #[.slice none 0 0, .slice none 0 0] 27 (0, 0)) (xb a5.out) hb); clear hb hbox hg; have h3 := b0.out; have h4 := a9.out; have b6 := cz20 a1.out; have b7 := cz21 a1.out; have b8 := blk_frozen a1.out 0; have b9 := blk_frozen a1.out 1) | ((with_reducible refine gate_callee (f := 72) rfl ?_); refine gl_ (some 11) Try.func72 #[.int .i64 a0, .int .i64 0, .int .i64 3] ?_; (with_reducible refine (spec_l1In.calls a0 0 3 false _ A2.out).mono ?_); rintro e w' ⟨rfl, ⟨nd, rfl⟩⟩; refine ⟨_, rfl, ?_⟩; have b6 := cz20 a5.out; have b7 := cz21 a5.out; have b8 := blk_frozen a5.out 0; have b9 := blk_frozen a5.out 1))
 refine bodyPost_ret (results_ct rfl _ _ a7 27 #[.slice none 0 0, .slice none 0 0] (0, 0) _ rfl (by (with_reducible repeat (first | refine blk_drewN ?_ _ | refine blk_drew ?_ | refine blk_alloc ?_ _)); refine blk_put (cs := #[.slice none 0 0, .slice none 0 0]) ?_ 1 _ rfl; (with_reducible repeat (first | refine blk_drewN ?_ _ | refine blk_drew ?_ | refine blk_alloc ?_ _)); refine blk_put (cs := #[.slice none 0 0, .slice none 0 0]) ?_ 0 _ rfl; (with_reducible repeat (first | refine blk_drewN ?_ _ | refine blk_drew ?_ | refine blk_alloc ?_ _)); refine blk_far ?_ a9.out _; (with_reducible repeat (first | refine blk_drewN ?_ _ | refine blk_drew ?_ | refine blk_alloc ?_ _)); refine blk_far ?_ a9.out _; (with_reducible repeat (first | refine blk_drewN ?_ _ | refine blk_drew ?_ | refine blk_alloc ?_ _)); exact a5.out) Try.underlying27 rfl (by kernel_rfl)) rfl ?_
 exact ⟨_, _, (by first | rfl | (simp [errW_none, errW_some] <;> rfl) | (simp [*, errW_none, errW_some] <;> rfl)), z1v_8, z1v_9, z1v_0⟩

end Go.Proofs.Ytacifhahfamipaa.P
