/- 6 texts of this seat joined: walks, and the laws of what they compute. -/
import Derived.Test.YtjgfpiilfnchnaaPk2
import Derived.Test.YtjgfpiilfnchnaaPk3
import Derived.Test.YtjgfpiilfnchnaaPk4
-- written by gen.py (a program of this session) out of the kit's print of this seat's translation
namespace Go.Proofs.Ytjgfpiilfnchnaa.P
open Go.RowKit Go.Proofs.YtjgfpiilfnchnaaW.PrintWords Go.Proofs.YtjgfpiilfnchnaaW.PrintLast Go.Proofs.YtjgfpiilfnchnaaW.PrintMore
attribute [local go_sem] max2_int min2_int max_two min_two max_three min_three max_four min_four
set_option linter.unusedVariables false
set_option linter.unusedSimpArgs false
theorem zf_5 {p : Prop} (h : p := by have := e9.out; have := HK2.out; have := HK3.out; have := e4.out; have := HK5.out; omega) : p := h
theorem zf_4 {p : Prop} (h : p := by first | rfl | (simp; done) | (simp [*]; done)) : p := h
theorem zf_3 {p : Prop} (h : p := by repeat (first | (with_reducible first | exact HB.out | apply below_alloc | apply pw_below_drewN | apply below_drew1) | exact HB.out)) : p := h
theorem zf_2 {p : Prop} (h : p := by (with_reducible repeat (first | refine blk_drewN ?_ _ | refine blk_drew ?_ | refine blk_alloc ?_ _)); exact a0.out) : p := h
theorem zf_1 {p : Prop} (h : p := by repeat (first | (with_reducible first | exact HB.out | apply below_alloc | apply pw_below_drewN | apply below_drew1 | refine below_set ?_ b0.out) | exact HB.out)) : p := h
theorem zf_0 {p : Prop} (h : p := by first | (with_reducible assumption) | assumption) : p := h
set_option maxHeartbeats 8000000 in
set_option maxRecDepth 100000 in
theorem spec_LogicOk.calls (k : Nat) (A0_0 : Option Addr) (c0_0 : Nat) (l0_0 : List (List Int)) (A0_1 : Option Addr) (c0_1 : Nat) (l0_1 : List Int) (r : Bool) (w : World) (hr0_0 : Kd.C (Kd.slice 3 (Kd.int .i64)) w A0_0 l0_0.length l0_0) (hc0_0 : l0_0.length ≤ c0_0) (hr0_1 : Kd.C (Kd.int .i64) w A0_1 l0_1.length l0_1) (hc0_1 : l0_1.length ≤ c0_1) (h : spec_LogicOk.f k l0_0 l0_1 = some r) :
  Calls Try.prog 16 #[.agg #[.slice A0_0 l0_0.length c0_0, .slice A0_1 l0_1.length c0_1]] w fun e w' => e = .returned (.bool r) ∧ Below w.heap.size w w' := by
 have hu26 := Try.underlying26
 have HR0_0 := Aside0.mk hr0_0
 have a9 := Aside0.mk hc0_0
 clear hr0_0 hc0_0
 have HR0_1 := Aside0.mk hr0_1
 have j4 := Aside0.mk hc0_1
 clear hr0_1 hc0_1
 have HB := Aside0.mk (Below.refl w.heap.size w)
 have H : ((spec_LatticeOk.f k l0_0).bind fun f5 => (if f5 = true then (spec_LogicOk.j0 k (l0_0.length : Int) ((l0_1.length : Int) != (l0_0.length : Int)) l0_0 l0_1) else (spec_LogicOk.j0 k (l0_0.length : Int) true l0_0 l0_1))) = some r := h
 clear h
 have i8 := Aside0.mk H
 clear H
 go_enter Try.func16, Try.ntmps16
 go_upto_region 2 with (first | ((with_reducible refine gate_dst (N := 1) rfl ?_); (try (refine gate_guard (by rfl) ?_; dsimp only)); refine box_event ?hg (N := 1) ?hd (cs := #[.slice A0_0 l0_0.length c0_0, .slice A0_1 l0_1.length c0_1]) (t := 26) ?hr ?_; (case hd => rfl); (case hg => rfl); (case hr => first | (go_simp; done) | (go_simp; rfl)); intro a8 hg w3 hbox hb; have a0 := Aside0.mk (hbox); have f0 := Aside0.mk ((by rw [hg]; exact (below_size zf_3) : w.heap.size ≤ a8)); have b0 := Aside0.mk ((by rw [hg]; exact (below_size zf_3) : w.heap.size ≤ a8)); replace HB := Aside0.mk (below_step zf_3 hb); clear hb hbox hg; have a3 := cz20 a0.out; have a4 := cz21 a0.out; have a5 := blk_frozen a0.out 0; have a6 := blk_frozen a0.out 1))
 repeat (go_quiet (first | ((with_reducible refine gate_dst (N := 1) rfl ?_); (try (refine gate_guard (by rfl) ?_; dsimp only)); refine box_event ?hg (N := 1) ?hd (cs := #[.slice A0_0 l0_0.length c0_0, .slice A0_1 l0_1.length c0_1]) (t := 26) ?hr ?_; (case hd => rfl); (case hg => rfl); (case hr => first | (go_simp; done) | (go_simp; rfl)); intro a8 hg w3 hbox hb; have a0 := Aside0.mk (hbox); have f0 := Aside0.mk ((by rw [hg]; exact (below_size zf_3) : w.heap.size ≤ a8)); have b0 := Aside0.mk ((by rw [hg]; exact (below_size zf_3) : w.heap.size ≤ a8)); replace HB := Aside0.mk (below_step zf_3 hb); clear hb hbox hg; have a3 := cz20 a0.out; have a4 := cz21 a0.out; have a5 := blk_frozen a0.out 0; have a6 := blk_frozen a0.out 1)); go_upto_region 2 with (first | ((with_reducible refine gate_dst (N := 1) rfl ?_); (try (refine gate_guard (by rfl) ?_; dsimp only)); refine box_event ?hg (N := 1) ?hd (cs := #[.slice A0_0 l0_0.length c0_0, .slice A0_1 l0_1.length c0_1]) (t := 26) ?hr ?_; (case hd => rfl); (case hg => rfl); (case hr => first | (go_simp; done) | (go_simp; rfl)); intro a8 hg w3 hbox hb; have a0 := Aside0.mk (hbox); have f0 := Aside0.mk ((by rw [hg]; exact (below_size zf_3) : w.heap.size ≤ a8)); have b0 := Aside0.mk ((by rw [hg]; exact (below_size zf_3) : w.heap.size ≤ a8)); replace HB := Aside0.mk (below_step zf_3 hb); clear hb hbox hg; have a3 := cz20 a0.out; have a4 := cz21 a0.out; have a5 := blk_frozen a0.out 0; have a6 := blk_frozen a0.out 1)))
 (try simp only [Act.put, List.setIfInBounds_toArray, List.set_cons_zero, List.set_cons_succ])
 go_cut [22] (fun l3 wc => ∃ (kq : Nat) (d2 : Bool), l3 = .bool d2 ∧ Aside0 (spec_LogicOk.j0 kq (l0_0.length : Int) d2 l0_0 l0_1 = some r) ∧ Aside0 (kq ≤ k) ∧ Aside0 (wc.heap[a8]? = some (.cells #[(.slice A0_0 l0_0.length c0_0), (.slice A0_1 l0_1.length c0_1)] 26 (0, 0))) ∧ Aside0 (Below w.heap.size w wc))
 case first =>
  have H := i8.out
  clear i8
  obtain ⟨f5, A5, H⟩ := bd_ H
  try dsimp only at H
  by_cases c6 : f5 = true
  ·
   subst c6
   rw [if_pos rfl] at H
   have H' := Aside0.mk H
   clear H
   have a3 := cz20 a0.out
   have a4 := cz21 a0.out
   have a5 := blk_frozen a0.out 0
   have a6 := blk_frozen a0.out 1
   go_wp2_with (first | (go_at_call 57; (with_reducible refine (spec_LatticeOk.calls k _ _ l0_0 true _ (y3 HR0_0.out HB.out) a9.out A5.out).mono ?_); rintro e w' ⟨rfl, ⟨nd, rfl⟩⟩; (try first | exact ⟨rfl, _, World.drewN_drewN _ _ _⟩ | exact ⟨rfl, _, Eq.trans (World.drewN_drewN _ _ _) (congrArg (World.drewN _) (Nat.add_assoc _ _ _))⟩)))
   repeat (go_quiet (first | (go_at_call 57; (with_reducible refine (spec_LatticeOk.calls k _ _ l0_0 true _ (y3 HR0_0.out HB.out) a9.out A5.out).mono ?_); rintro e w' ⟨rfl, ⟨nd, rfl⟩⟩; (try first | exact ⟨rfl, _, World.drewN_drewN _ _ _⟩ | exact ⟨rfl, _, Eq.trans (World.drewN_drewN _ _ _) (congrArg (World.drewN _) (Nat.add_assoc _ _ _))⟩))); try go_wp2_with (first | (go_at_call 57; (with_reducible refine (spec_LatticeOk.calls k _ _ l0_0 true _ (y3 HR0_0.out HB.out) a9.out A5.out).mono ?_); rintro e w' ⟨rfl, ⟨nd, rfl⟩⟩; (try first | exact ⟨rfl, _, World.drewN_drewN _ _ _⟩ | exact ⟨rfl, _, Eq.trans (World.drewN_drewN _ _ _) (congrArg (World.drewN _) (Nat.add_assoc _ _ _))⟩))))
   go_meet
   case rel => exact ⟨_, (((l0_1.length : Int) != (l0_0.length : Int))), zf_4, H', ⟨by first | omega | exact Nat.le_refl _⟩, ⟨zf_2⟩, ⟨zf_1⟩⟩
  replace c6 := Bool.eq_false_iff.mpr c6
  subst c6
  rw [if_neg nf_] at H
  have H' := Aside0.mk H
  clear H
  have a3 := cz20 a0.out
  have a4 := cz21 a0.out
  have a5 := blk_frozen a0.out 0
  have a6 := blk_frozen a0.out 1
  go_wp2_with (first | (go_at_call 57; (with_reducible refine (spec_LatticeOk.calls k _ _ l0_0 false _ (y3 HR0_0.out HB.out) a9.out A5.out).mono ?_); rintro e w' ⟨rfl, ⟨nd, rfl⟩⟩; (try first | exact ⟨rfl, _, World.drewN_drewN _ _ _⟩ | exact ⟨rfl, _, Eq.trans (World.drewN_drewN _ _ _) (congrArg (World.drewN _) (Nat.add_assoc _ _ _))⟩)))
  repeat (go_quiet (first | (go_at_call 57; (with_reducible refine (spec_LatticeOk.calls k _ _ l0_0 false _ (y3 HR0_0.out HB.out) a9.out A5.out).mono ?_); rintro e w' ⟨rfl, ⟨nd, rfl⟩⟩; (try first | exact ⟨rfl, _, World.drewN_drewN _ _ _⟩ | exact ⟨rfl, _, Eq.trans (World.drewN_drewN _ _ _) (congrArg (World.drewN _) (Nat.add_assoc _ _ _))⟩))); try go_wp2_with (first | (go_at_call 57; (with_reducible refine (spec_LatticeOk.calls k _ _ l0_0 false _ (y3 HR0_0.out HB.out) a9.out A5.out).mono ?_); rintro e w' ⟨rfl, ⟨nd, rfl⟩⟩; (try first | exact ⟨rfl, _, World.drewN_drewN _ _ _⟩ | exact ⟨rfl, _, Eq.trans (World.drewN_drewN _ _ _) (congrArg (World.drewN _) (Nat.add_assoc _ _ _))⟩))))
  go_meet
  case rel => exact ⟨_, (true), zf_4, H', ⟨by first | omega | exact Nat.le_refl _⟩, ⟨zf_2⟩, ⟨zf_1⟩⟩
 case rest =>
  clear i8
  try clear c1
  try clear p2
  try clear c6
  try clear a3
  try clear a4
  try clear a5
  try clear a6
  obtain ⟨kq, d2, rfl, HA, e9, a0, HB⟩ := hcut
  cases kq with
  | zero => exact absurd HA.out (by simp [spec_LogicOk.j0])
  | succ j5 =>
   have H := HA.out
   clear HA
   simp only [spec_LogicOk.j0] at H
   by_cases c9 : d2 = true
   ·
    subst c9
    rw [if_pos rfl] at H
    obtain rfl := Option.some.inj H
    go_wp2
    repeat (go_quiet (fail); try go_wp2)
    go_ret
    exact ⟨by first | rfl | (simp [errW_none, errW_some] <;> rfl) | (simp [*, errW_none, errW_some] <;> rfl), by repeat (first | (with_reducible first | exact HB.out | apply below_alloc | apply pw_below_drewN | apply below_drew1 | refine below_set ?_ b0.out) | exact HB.out)⟩
   replace c9 := Bool.eq_false_iff.mpr c9
   subst c9
   rw [if_neg nf_] at H
   have H' := Aside0.mk H
   clear H
   go_wp2
   repeat (go_quiet (fail); try go_wp2)
   go_loopg [4] j5 (fun kq v4 w' => ∃ (a7 : Int), v4 = .int .i64 a7 ∧ Aside0 (spec_LogicOk.l0 kq (l0_0.length : Int) a7 l0_0 l0_1 = some r) ∧ Aside0 (kq ≤ j5) ∧ Aside0 (w'.heap[a8]? = some (.cells #[(.slice A0_0 l0_0.length c0_0), (.slice A0_1 l0_1.length c0_1)] 26 (0, 0))) ∧ Aside0 (Below w.heap.size w w'))
   case atStart => exact ⟨(0), zf_4, H', ⟨Nat.le_refl _⟩, ⟨zf_2⟩, ⟨zf_1⟩⟩
   case round =>
    clear H'
    try clear c1
    try clear p2
    try clear c6
    try clear c9
    try clear a3
    try clear a4
    try clear a5
    try clear a6
    obtain ⟨a7, rfl, HA, HK2, a0, HB⟩ := hrel
    cases gk with
    | zero => exact absurd HA.out (by simp [spec_LogicOk.l0])
    | succ k2 =>
     have H := HA.out
     clear HA
     simp only [spec_LogicOk.l0] at H
     by_cases e5 : a7 < (l0_0.length : Int)
     ·
      rw [if_pos e5] at H
      have d3 : decide (a7 < (l0_0.length : Int)) = true := decide_eq_true e5
      clear e5
      by_cases f6 : 0 ≤ a7
      ·
       rw [if_pos f6] at H
       have d6 : decide (0 ≤ a7) = true := decide_eq_true f6
       clear f6
       by_cases f7 : a7 < (l0_1.length : Int)
       ·
        rw [if_pos f7] at H
        have d7 : decide (a7 < (l0_1.length : Int)) = true := decide_eq_true f7
        clear f7
        obtain ⟨i9, g5, H⟩ := bd_ H
        try dsimp only at H
        by_cases f8 : i9 = true
        ·
         subst f8
         rw [if_pos rfl] at H
         have H' := Aside0.mk H
         clear H
         have a3 := cz20 a0.out
         have a4 := cz21 a0.out
         have a5 := blk_frozen a0.out 0
         have a6 := blk_frozen a0.out 1
         have b3 : 0 ≤ (a7 : Int) := of_decide_eq_true zf_0
         have q493 : a7 < (l0_1.length : Int) := of_decide_eq_true zf_0
         obtain ⟨ad493, e493, hx493_0⟩ := Kd.at_int HR0_1.out a7 b3 q493
         cases e493
         replace hx493_0 := (HB.out.cell (World.block_lt_of_cell? w _ hx493_0)).trans hx493_0
         replace b3 := eq_true b3
         replace q493 := eq_true q493
         go_wp2_with (first | (go_at_call 58; (with_reducible refine (spec_l1In.calls (rd l0_1 a7) 0 (wrap64 ((l0_0.length : Int) - 1)) true _ g5.out).mono ?_); rintro e w' ⟨rfl, ⟨nd, rfl⟩⟩; (try first | exact ⟨rfl, _, World.drewN_drewN _ _ _⟩ | exact ⟨rfl, _, Eq.trans (World.drewN_drewN _ _ _) (congrArg (World.drewN _) (Nat.add_assoc _ _ _))⟩)))
         repeat (go_quiet (first | (go_at_call 58; (with_reducible refine (spec_l1In.calls (rd l0_1 a7) 0 (wrap64 ((l0_0.length : Int) - 1)) true _ g5.out).mono ?_); rintro e w' ⟨rfl, ⟨nd, rfl⟩⟩; (try first | exact ⟨rfl, _, World.drewN_drewN _ _ _⟩ | exact ⟨rfl, _, Eq.trans (World.drewN_drewN _ _ _) (congrArg (World.drewN _) (Nat.add_assoc _ _ _))⟩))); try go_wp2_with (first | (go_at_call 58; (with_reducible refine (spec_l1In.calls (rd l0_1 a7) 0 (wrap64 ((l0_0.length : Int) - 1)) true _ g5.out).mono ?_); rintro e w' ⟨rfl, ⟨nd, rfl⟩⟩; (try first | exact ⟨rfl, _, World.drewN_drewN _ _ _⟩ | exact ⟨rfl, _, Eq.trans (World.drewN_drewN _ _ _) (congrArg (World.drewN _) (Nat.add_assoc _ _ _))⟩))))
         go_roundg k2
         case measure => have := e9.out; have := HK2.out; omega
         case rel => exact ⟨(wrap64 (a7 + 1)), zf_4, H', ⟨by have := e9.out; have := HK2.out; omega⟩, ⟨zf_2⟩, ⟨zf_1⟩⟩
        replace f8 := Bool.eq_false_iff.mpr f8
        subst f8
        rw [if_neg nf_] at H
        obtain rfl := Option.some.inj H
        have a3 := cz20 a0.out
        have a4 := cz21 a0.out
        have a5 := blk_frozen a0.out 0
        have a6 := blk_frozen a0.out 1
        have b3 : 0 ≤ (a7 : Int) := of_decide_eq_true zf_0
        have q493 : a7 < (l0_1.length : Int) := of_decide_eq_true zf_0
        obtain ⟨ad493, e493, hx493_0⟩ := Kd.at_int HR0_1.out a7 b3 q493
        cases e493
        replace hx493_0 := (HB.out.cell (World.block_lt_of_cell? w _ hx493_0)).trans hx493_0
        replace b3 := eq_true b3
        replace q493 := eq_true q493
        go_wp2_with (first | (go_at_call 58; (with_reducible refine (spec_l1In.calls (rd l0_1 a7) 0 (wrap64 ((l0_0.length : Int) - 1)) false _ g5.out).mono ?_); rintro e w' ⟨rfl, ⟨nd, rfl⟩⟩; (try first | exact ⟨rfl, _, World.drewN_drewN _ _ _⟩ | exact ⟨rfl, _, Eq.trans (World.drewN_drewN _ _ _) (congrArg (World.drewN _) (Nat.add_assoc _ _ _))⟩)))
        repeat (go_quiet (first | (go_at_call 58; (with_reducible refine (spec_l1In.calls (rd l0_1 a7) 0 (wrap64 ((l0_0.length : Int) - 1)) false _ g5.out).mono ?_); rintro e w' ⟨rfl, ⟨nd, rfl⟩⟩; (try first | exact ⟨rfl, _, World.drewN_drewN _ _ _⟩ | exact ⟨rfl, _, Eq.trans (World.drewN_drewN _ _ _) (congrArg (World.drewN _) (Nat.add_assoc _ _ _))⟩))); try go_wp2_with (first | (go_at_call 58; (with_reducible refine (spec_l1In.calls (rd l0_1 a7) 0 (wrap64 ((l0_0.length : Int) - 1)) false _ g5.out).mono ?_); rintro e w' ⟨rfl, ⟨nd, rfl⟩⟩; (try first | exact ⟨rfl, _, World.drewN_drewN _ _ _⟩ | exact ⟨rfl, _, Eq.trans (World.drewN_drewN _ _ _) (congrArg (World.drewN _) (Nat.add_assoc _ _ _))⟩))))
        go_ret
        exact ⟨by first | rfl | (simp [errW_none, errW_some] <;> rfl) | (simp [*, errW_none, errW_some] <;> rfl), by repeat (first | (with_reducible first | exact HB.out | apply below_alloc | apply pw_below_drewN | apply below_drew1 | refine below_set ?_ b0.out) | exact HB.out)⟩
       rw [if_neg f7] at H
       exact absurd H (by simp)
      rw [if_neg f6] at H
      exact absurd H (by simp)
     rw [if_neg e5] at H
     have d3 : decide (a7 < (l0_0.length : Int)) = false := decide_eq_false e5
     clear e5
     obtain ⟨⟨b7, f9⟩, j1, H⟩ := bd_ H
     try dsimp only at H
     have H' := Aside0.mk H
     clear H
     have a3 := cz20 a0.out
     have a4 := cz21 a0.out
     have a5 := blk_frozen a0.out 0
     have a6 := blk_frozen a0.out 1
     go_wp2_with (first | (go_at_call 59; (with_reducible refine (spec_LeastOf.calls k2 _ _ l0_0 b7 f9 _ (y3 HR0_0.out HB.out) a9.out j1.out).mono ?_); rintro e w' ⟨rfl, ⟨nd, rfl⟩⟩; (try first | exact ⟨rfl, _, World.drewN_drewN _ _ _⟩ | exact ⟨rfl, _, Eq.trans (World.drewN_drewN _ _ _) (congrArg (World.drewN _) (Nat.add_assoc _ _ _))⟩)))
     repeat (go_quiet (first | (go_at_call 59; (with_reducible refine (spec_LeastOf.calls k2 _ _ l0_0 b7 f9 _ (y3 HR0_0.out HB.out) a9.out j1.out).mono ?_); rintro e w' ⟨rfl, ⟨nd, rfl⟩⟩; (try first | exact ⟨rfl, _, World.drewN_drewN _ _ _⟩ | exact ⟨rfl, _, Eq.trans (World.drewN_drewN _ _ _) (congrArg (World.drewN _) (Nat.add_assoc _ _ _))⟩))); try go_wp2_with (first | (go_at_call 59; (with_reducible refine (spec_LeastOf.calls k2 _ _ l0_0 b7 f9 _ (y3 HR0_0.out HB.out) a9.out j1.out).mono ?_); rintro e w' ⟨rfl, ⟨nd, rfl⟩⟩; (try first | exact ⟨rfl, _, World.drewN_drewN _ _ _⟩ | exact ⟨rfl, _, Eq.trans (World.drewN_drewN _ _ _) (congrArg (World.drewN _) (Nat.add_assoc _ _ _))⟩))))
     go_loopg [7] k2 (fun kq v7 w' => ∃ (a1 : Int), v7 = .int .i64 a1 ∧ Aside0 (spec_LogicOk.l1 kq (l0_0.length : Int) b7 a1 l0_0 l0_1 = some r) ∧ Aside0 (kq ≤ k2) ∧ Aside0 (w'.heap[a8]? = some (.cells #[(.slice A0_0 l0_0.length c0_0), (.slice A0_1 l0_1.length c0_1)] 26 (0, 0))) ∧ Aside0 (Below w.heap.size w w'))
     case atStart => exact ⟨(0), zf_4, H', ⟨Nat.le_refl _⟩, ⟨zf_2⟩, ⟨zf_1⟩⟩
     case round =>
      clear H'
      try clear c1
      try clear p2
      try clear p4
      try clear q4
      try clear hx4
      try clear c6
      try clear p6
      try clear c9
      try clear e5
      try clear d3
      try clear f6
      try clear d6
      try clear f7
      try clear d7
      try clear f8
      try clear j6
      try clear a3
      try clear a4
      try clear a5
      try clear a6
      try clear hx493_0
      try clear b3
      try clear q493
      obtain ⟨a1, rfl, HA, HK3, a0, HB⟩ := hrel
      cases gk with
      | zero => exact absurd HA.out (by simp [spec_LogicOk.l1])
      | succ k3 =>
       have H := HA.out
       clear HA
       simp only [spec_LogicOk.l1] at H
       by_cases f1 : a1 < (l0_0.length : Int)
       ·
        rw [if_pos f1] at H
        have d8 : decide (a1 < (l0_0.length : Int)) = true := decide_eq_true f1
        clear f1
        have g0 := Aside0.mk H
        clear H
        go_upto_region 13 with (fail)
        repeat (go_quiet (fail); go_upto_region 13 with (fail))
        go_cut [71] (fun l4 wc => ∃ (kq : Nat) (b4 : Bool), l4 = .bool b4 ∧ Aside0 (spec_LogicOk.j3 kq (l0_0.length : Int) b7 a1 b4 l0_0 l0_1 = some r) ∧ Aside0 (kq ≤ k3) ∧ Aside0 (wc.heap[a8]? = some (.cells #[(.slice A0_0 l0_0.length c0_0), (.slice A0_1 l0_1.length c0_1)] 26 (0, 0))) ∧ Aside0 (Below w.heap.size w wc))
        case first =>
         have H := g0.out
         clear g0
         by_cases g6 : 0 ≤ a1
         ·
          rw [if_pos g6] at H
          have d4 : decide (0 ≤ a1) = true := decide_eq_true g6
          clear g6
          (first | rw [d4] | (simp only [i64_w, i32_w]; rw [d4]) | skip)
          by_cases g7 : a1 < (l0_1.length : Int)
          ·
           rw [if_pos g7] at H
           have f2 : decide (a1 < (l0_1.length : Int)) = true := decide_eq_true g7
           clear g7
           by_cases g8 : 0 ≤ (rd l0_1 a1)
           ·
            rw [if_pos g8] at H
            have f3 : decide (0 ≤ (rd l0_1 a1)) = true := decide_eq_true g8
            clear g8
            by_cases g9 : (rd l0_1 a1) < (l0_1.length : Int)
            ·
             rw [if_pos g9] at H
             have f4 : decide ((rd l0_1 a1) < (l0_1.length : Int)) = true := decide_eq_true g9
             clear g9
             by_cases e6 : (rd l0_1 (rd l0_1 a1)) = a1
             ·
              rw [if_pos e6] at H
              have d9 := bt_ e6
              have e0 := bu_ e6
              clear e6
              obtain ⟨e7, j2, H⟩ := bd_ H
              try dsimp only at H
              have H' := Aside0.mk H
              clear H
              have a3 := cz20 a0.out
              have a4 := cz21 a0.out
              have a5 := blk_frozen a0.out 0
              have a6 := blk_frozen a0.out 1
              have b5 : 0 ≤ (a1 : Int) := of_decide_eq_true zf_0
              have q497 : a1 < (l0_1.length : Int) := of_decide_eq_true zf_0
              obtain ⟨ad497, e497, hx497_0⟩ := Kd.at_int HR0_1.out a1 b5 q497
              cases e497
              replace hx497_0 := (HB.out.cell (World.block_lt_of_cell? w _ hx497_0)).trans hx497_0
              replace b5 := eq_true b5
              replace q497 := eq_true q497
              have b6 : 0 ≤ ((rd l0_1 a1) : Int) := of_decide_eq_true zf_0
              have q498 : (rd l0_1 a1) < (l0_1.length : Int) := of_decide_eq_true zf_0
              obtain ⟨ad498, e498, hx498_0⟩ := Kd.at_int HR0_1.out (rd l0_1 a1) b6 q498
              obtain rfl : ad497 = ad498 := (by injection e498)
              replace hx498_0 := (HB.out.cell (World.block_lt_of_cell? w _ hx498_0)).trans hx498_0
              replace b6 := eq_true b6
              replace q498 := eq_true q498
              have e1 : 0 ≤ (a1 : Int) := of_decide_eq_true zf_0
              have q499 : a1 < (l0_1.length : Int) := of_decide_eq_true zf_0
              obtain ⟨ad499, e499, hx499_0⟩ := Kd.at_int HR0_1.out a1 e1 q499
              obtain rfl : ad497 = ad499 := (by injection e499)
              replace hx499_0 := (HB.out.cell (World.block_lt_of_cell? w _ hx499_0)).trans hx499_0
              replace e1 := eq_true e1
              replace q499 := eq_true q499
              go_wp2_with (first | (go_at_call 60; (with_reducible refine (spec_l1Meet.calls k3 _ _ l0_0 a1 (rd l0_1 a1) e7 _ (y3 HR0_0.out HB.out) a9.out j2.out).mono ?_); rintro e w' ⟨rfl, ⟨nd, rfl⟩⟩; (try first | exact ⟨rfl, _, World.drewN_drewN _ _ _⟩ | exact ⟨rfl, _, Eq.trans (World.drewN_drewN _ _ _) (congrArg (World.drewN _) (Nat.add_assoc _ _ _))⟩)))
              repeat (go_quiet (first | (go_at_call 60; (with_reducible refine (spec_l1Meet.calls k3 _ _ l0_0 a1 (rd l0_1 a1) e7 _ (y3 HR0_0.out HB.out) a9.out j2.out).mono ?_); rintro e w' ⟨rfl, ⟨nd, rfl⟩⟩; (try first | exact ⟨rfl, _, World.drewN_drewN _ _ _⟩ | exact ⟨rfl, _, Eq.trans (World.drewN_drewN _ _ _) (congrArg (World.drewN _) (Nat.add_assoc _ _ _))⟩))); try go_wp2_with (first | (go_at_call 60; (with_reducible refine (spec_l1Meet.calls k3 _ _ l0_0 a1 (rd l0_1 a1) e7 _ (y3 HR0_0.out HB.out) a9.out j2.out).mono ?_); rintro e w' ⟨rfl, ⟨nd, rfl⟩⟩; (try first | exact ⟨rfl, _, World.drewN_drewN _ _ _⟩ | exact ⟨rfl, _, Eq.trans (World.drewN_drewN _ _ _) (congrArg (World.drewN _) (Nat.add_assoc _ _ _))⟩))))
              go_meet
              case rel => exact ⟨_, ((e7 != b7)), zf_4, H', ⟨by have := e9.out; have := HK2.out; have := HK3.out; first | omega | exact Nat.le_refl _⟩, ⟨zf_2⟩, ⟨zf_1⟩⟩
             rw [if_neg e6] at H
             have d9 := bv_ e6
             have e0 := bw_ e6
             have H' := Aside0.mk H
             clear H
             have a3 := cz20 a0.out
             have a4 := cz21 a0.out
             have a5 := blk_frozen a0.out 0
             have a6 := blk_frozen a0.out 1
             have b5 : 0 ≤ (a1 : Int) := of_decide_eq_true zf_0
             have q497 : a1 < (l0_1.length : Int) := of_decide_eq_true zf_0
             obtain ⟨ad497, e497, hx497_0⟩ := Kd.at_int HR0_1.out a1 b5 q497
             cases e497
             replace hx497_0 := (HB.out.cell (World.block_lt_of_cell? w _ hx497_0)).trans hx497_0
             replace b5 := eq_true b5
             replace q497 := eq_true q497
             have b6 : 0 ≤ ((rd l0_1 a1) : Int) := of_decide_eq_true zf_0
             have q498 : (rd l0_1 a1) < (l0_1.length : Int) := of_decide_eq_true zf_0
             obtain ⟨ad498, e498, hx498_0⟩ := Kd.at_int HR0_1.out (rd l0_1 a1) b6 q498
             obtain rfl : ad497 = ad498 := (by injection e498)
             replace hx498_0 := (HB.out.cell (World.block_lt_of_cell? w _ hx498_0)).trans hx498_0
             replace b6 := eq_true b6
             replace q498 := eq_true q498
             go_wp2
             repeat (go_quiet (fail); try go_wp2)
             go_meet
             case rel => exact ⟨_, (true), zf_4, H', ⟨by have := e9.out; have := HK2.out; have := HK3.out; first | omega | exact Nat.le_refl _⟩, ⟨zf_2⟩, ⟨zf_1⟩⟩
            rw [if_neg g9] at H
            exact absurd H (by simp)
           rw [if_neg g8] at H
           exact absurd H (by simp)
          rw [if_neg g7] at H
          exact absurd H (by simp)
         rw [if_neg g6] at H
         exact absurd H (by simp)
        case rest =>
         clear g0
         try clear c1
         try clear c2
         try clear p2
         try clear p4
         try clear q4
         try clear hx4
         try clear c6
         try clear p6
         try clear c9
         try clear e5
         try clear d3
         try clear f6
         try clear d6
         try clear f7
         try clear d7
         try clear f8
         try clear j6
         try clear f1
         try clear d8
         try clear g6
         try clear d4
         try clear g7
         try clear f2
         try clear g8
         try clear f3
         try clear g9
         try clear f4
         try clear e6
         try clear d9
         try clear e0
         try clear a3
         try clear a4
         try clear a5
         try clear a6
         try clear hx493_0
         try clear hx497_0
         try clear hx498_0
         try clear hx499_0
         try clear b3
         try clear b5
         try clear b6
         try clear e1
         try clear q493
         try clear q497
         try clear q498
         try clear q499
         obtain ⟨kq, b4, rfl, HA, e4, a0, HB⟩ := hcut
         cases kq with
         | zero => exact absurd HA.out (by simp [spec_LogicOk.j3])
         | succ h1 =>
          have H := HA.out
          clear HA
          simp only [spec_LogicOk.j3] at H
          by_cases h2 : b4 = true
          ·
           subst h2
           rw [if_pos rfl] at H
           obtain rfl := Option.some.inj H
           go_wp2
           repeat (go_quiet (fail); try go_wp2)
           go_ret
           exact ⟨by first | rfl | (simp [errW_none, errW_some] <;> rfl) | (simp [*, errW_none, errW_some] <;> rfl), by repeat (first | (with_reducible first | exact HB.out | apply below_alloc | apply pw_below_drewN | apply below_drew1 | refine below_set ?_ b0.out) | exact HB.out)⟩
          replace h2 := Bool.eq_false_iff.mpr h2
          subst h2
          rw [if_neg nf_] at H
          have H' := Aside0.mk H
          clear H
          go_wp2
          repeat (go_quiet (fail); try go_wp2)
          go_loopg [8] h1 (fun kq v8 w' => ∃ (a2 : Int), v8 = .int .i64 a2 ∧ Aside0 (spec_LogicOk.l2 kq (l0_0.length : Int) b7 a1 a2 l0_0 l0_1 = some r) ∧ Aside0 (kq ≤ h1) ∧ Aside0 (w'.heap[a8]? = some (.cells #[(.slice A0_0 l0_0.length c0_0), (.slice A0_1 l0_1.length c0_1)] 26 (0, 0))) ∧ Aside0 (Below w.heap.size w w'))
          case atStart => exact ⟨(0), zf_4, H', ⟨Nat.le_refl _⟩, ⟨zf_2⟩, ⟨zf_1⟩⟩
          case round =>
           clear H'
           try clear c1
           try clear c2
           try clear p2
           try clear p4
           try clear q4
           try clear hx4
           try clear c6
           try clear p6
           try clear c9
           try clear e5
           try clear d3
           try clear f6
           try clear d6
           try clear f7
           try clear d7
           try clear f8
           try clear j6
           try clear f1
           try clear d8
           try clear g6
           try clear d4
           try clear g7
           try clear f2
           try clear g8
           try clear f3
           try clear g9
           try clear f4
           try clear e6
           try clear d9
           try clear e0
           try clear h2
           try clear a3
           try clear a4
           try clear a5
           try clear a6
           try clear hx493_0
           try clear hx497_0
           try clear hx498_0
           try clear hx499_0
           try clear b3
           try clear b5
           try clear b6
           try clear e1
           try clear q493
           try clear q497
           try clear q498
           try clear q499
           obtain ⟨a2, rfl, HA, HK5, a0, HB⟩ := hrel
           cases gk with
           | zero => exact absurd HA.out (by simp [spec_LogicOk.l2])
           | succ k5 =>
            have H := HA.out
            clear HA
            simp only [spec_LogicOk.l2] at H
            by_cases h0 : a2 < (l0_0.length : Int)
            ·
             rw [if_pos h0] at H
             have h3 : decide (a2 < (l0_0.length : Int)) = true := decide_eq_true h0
             clear h0
             by_cases h8 : 0 ≤ a1
             ·
              rw [if_pos h8] at H
              have j7 : decide (0 ≤ a1) = true := decide_eq_true h8
              clear h8
              by_cases h9 : a1 < (l0_0.length : Int)
              ·
               rw [if_pos h9] at H
               have j8 : decide (a1 < (l0_0.length : Int)) = true := decide_eq_true h9
               clear h9
               by_cases i0 : 0 ≤ a2
               ·
                rw [if_pos i0] at H
                have j9 : decide (0 ≤ a2) = true := decide_eq_true i0
                clear i0
                by_cases i1 : a2 < ((rd_L1 l0_0 a1).length : Int)
                ·
                 rw [if_pos i1] at H
                 have k0 : decide (a2 < ((rd_L1 l0_0 a1).length : Int)) = true := decide_eq_true i1
                 clear i1
                 by_cases g1 : (rd (rd_L1 l0_0 a1) a2) = 1
                 ·
                  rw [if_pos g1] at H
                  have h4 := bt_ g1
                  have h5 := bu_ g1
                  clear g1
                  by_cases i2 : a2 < (l0_1.length : Int)
                  ·
                   rw [if_pos i2] at H
                   have k1 : decide (a2 < (l0_1.length : Int)) = true := decide_eq_true i2
                   clear i2
                   by_cases i3 : 0 ≤ (rd l0_1 a2)
                   ·
                    rw [if_pos i3] at H
                    have k4 : decide (0 ≤ (rd l0_1 a2)) = true := decide_eq_true i3
                    clear i3
                    by_cases i4 : (rd l0_1 a2) < (l0_0.length : Int)
                    ·
                     rw [if_pos i4] at H
                     have k6 : decide ((rd l0_1 a2) < (l0_0.length : Int)) = true := decide_eq_true i4
                     clear i4
                     by_cases i5 : a1 < (l0_1.length : Int)
                     ·
                      rw [if_pos i5] at H
                      have k7 : decide (a1 < (l0_1.length : Int)) = true := decide_eq_true i5
                      clear i5
                      by_cases i6 : 0 ≤ (rd l0_1 a1)
                      ·
                       rw [if_pos i6] at H
                       have k8 : decide (0 ≤ (rd l0_1 a1)) = true := decide_eq_true i6
                       clear i6
                       by_cases i7 : (rd l0_1 a1) < ((rd_L1 l0_0 (rd l0_1 a2)).length : Int)
                       ·
                        rw [if_pos i7] at H
                        have k9 : decide ((rd l0_1 a1) < ((rd_L1 l0_0 (rd l0_1 a2)).length : Int)) = true := decide_eq_true i7
                        clear i7
                        by_cases g2 : (rd (rd_L1 l0_0 (rd l0_1 a2)) (rd l0_1 a1)) = 0
                        ·
                         rw [if_pos g2] at H
                         have h6 := bt_ g2
                         have h7 := bu_ g2
                         clear g2
                         obtain rfl := Option.some.inj H
                         have a3 := cz20 a0.out
                         have a4 := cz21 a0.out
                         have a5 := blk_frozen a0.out 0
                         have a6 := blk_frozen a0.out 1
                         have b1 : 0 ≤ (a1 : Int) := of_decide_eq_true zf_0
                         have q501 : a1 < (l0_0.length : Int) := of_decide_eq_true zf_0
                         obtain ⟨ad501, e2, e3, e501, hx501_0, hl501_0, hi501_0⟩ := at_L1 HR0_0.out a1 b1 q501
                         cases e501
                         replace hx501_0 := (HB.out.cell (World.block_lt_of_cell? w _ hx501_0)).trans hx501_0
                         have HR501_0 := Aside0.mk hi501_0
                         have d5 := Aside0.mk hl501_0
                         clear hi501_0 hl501_0
                         replace b1 := eq_true b1
                         replace q501 := eq_true q501
                         have b2 : 0 ≤ (a2 : Int) := of_decide_eq_true zf_0
                         have q502 : a2 < ((rd_L1 l0_0 a1).length : Int) := of_decide_eq_true zf_0
                         obtain ⟨ad502, e502, hx502_0⟩ := Kd.at_int HR501_0.out a2 b2 q502
                         cases e502
                         replace hx502_0 := (HB.out.cell (World.block_lt_of_cell? w _ hx502_0)).trans hx502_0
                         replace b2 := eq_true b2
                         replace q502 := eq_true q502
                         have b8 : 0 ≤ (a2 : Int) := of_decide_eq_true zf_0
                         have q503 : a2 < (l0_1.length : Int) := of_decide_eq_true zf_0
                         obtain ⟨ad503, e503, hx503_0⟩ := Kd.at_int HR0_1.out a2 b8 q503
                         cases e503
                         replace hx503_0 := (HB.out.cell (World.block_lt_of_cell? w _ hx503_0)).trans hx503_0
                         replace b8 := eq_true b8
                         replace q503 := eq_true q503
                         have b9 : 0 ≤ ((rd l0_1 a2) : Int) := of_decide_eq_true zf_0
                         have q504 : (rd l0_1 a2) < (l0_0.length : Int) := of_decide_eq_true zf_0
                         obtain ⟨ad504, g3, g4, e504, hx504_0, hl504_0, hi504_0⟩ := at_L1 HR0_0.out (rd l0_1 a2) b9 q504
                         obtain rfl : ad501 = ad504 := (by injection e504)
                         replace hx504_0 := (HB.out.cell (World.block_lt_of_cell? w _ hx504_0)).trans hx504_0
                         have HR504_0 := Aside0.mk hi504_0
                         have e8 := Aside0.mk hl504_0
                         clear hi504_0 hl504_0
                         replace b9 := eq_true b9
                         replace q504 := eq_true q504
                         have d0 : 0 ≤ (a1 : Int) := of_decide_eq_true zf_0
                         have q505 : a1 < (l0_1.length : Int) := of_decide_eq_true zf_0
                         obtain ⟨ad505, e505, hx505_0⟩ := Kd.at_int HR0_1.out a1 d0 q505
                         obtain rfl : ad503 = ad505 := (by injection e505)
                         replace hx505_0 := (HB.out.cell (World.block_lt_of_cell? w _ hx505_0)).trans hx505_0
                         replace d0 := eq_true d0
                         replace q505 := eq_true q505
                         have d1 : 0 ≤ ((rd l0_1 a1) : Int) := of_decide_eq_true zf_0
                         have q506 : (rd l0_1 a1) < ((rd_L1 l0_0 (rd l0_1 a2)).length : Int) := of_decide_eq_true zf_0
                         obtain ⟨ad506, e506, hx506_0⟩ := Kd.at_int HR504_0.out (rd l0_1 a1) d1 q506
                         cases e506
                         replace hx506_0 := (HB.out.cell (World.block_lt_of_cell? w _ hx506_0)).trans hx506_0
                         replace d1 := eq_true d1
                         replace q506 := eq_true q506
                         go_wp2
                         repeat (go_quiet (fail); try go_wp2)
                         go_ret
                         exact ⟨by first | rfl | (simp [errW_none, errW_some] <;> rfl) | (simp [*, errW_none, errW_some] <;> rfl), by repeat (first | (with_reducible first | exact HB.out | apply below_alloc | apply pw_below_drewN | apply below_drew1 | refine below_set ?_ b0.out) | exact HB.out)⟩
                        rw [if_neg g2] at H
                        have h6 := bv_ g2
                        have h7 := bw_ g2
                        have H' := Aside0.mk H
                        clear H
                        have a3 := cz20 a0.out
                        have a4 := cz21 a0.out
                        have a5 := blk_frozen a0.out 0
                        have a6 := blk_frozen a0.out 1
                        have b1 : 0 ≤ (a1 : Int) := of_decide_eq_true zf_0
                        have q501 : a1 < (l0_0.length : Int) := of_decide_eq_true zf_0
                        obtain ⟨ad501, e2, e3, e501, hx501_0, hl501_0, hi501_0⟩ := at_L1 HR0_0.out a1 b1 q501
                        cases e501
                        replace hx501_0 := (HB.out.cell (World.block_lt_of_cell? w _ hx501_0)).trans hx501_0
                        have HR501_0 := Aside0.mk hi501_0
                        have d5 := Aside0.mk hl501_0
                        clear hi501_0 hl501_0
                        replace b1 := eq_true b1
                        replace q501 := eq_true q501
                        have b2 : 0 ≤ (a2 : Int) := of_decide_eq_true zf_0
                        have q502 : a2 < ((rd_L1 l0_0 a1).length : Int) := of_decide_eq_true zf_0
                        obtain ⟨ad502, e502, hx502_0⟩ := Kd.at_int HR501_0.out a2 b2 q502
                        cases e502
                        replace hx502_0 := (HB.out.cell (World.block_lt_of_cell? w _ hx502_0)).trans hx502_0
                        replace b2 := eq_true b2
                        replace q502 := eq_true q502
                        have b8 : 0 ≤ (a2 : Int) := of_decide_eq_true zf_0
                        have q503 : a2 < (l0_1.length : Int) := of_decide_eq_true zf_0
                        obtain ⟨ad503, e503, hx503_0⟩ := Kd.at_int HR0_1.out a2 b8 q503
                        cases e503
                        replace hx503_0 := (HB.out.cell (World.block_lt_of_cell? w _ hx503_0)).trans hx503_0
                        replace b8 := eq_true b8
                        replace q503 := eq_true q503
                        have b9 : 0 ≤ ((rd l0_1 a2) : Int) := of_decide_eq_true zf_0
                        have q504 : (rd l0_1 a2) < (l0_0.length : Int) := of_decide_eq_true zf_0
                        obtain ⟨ad504, g3, g4, e504, hx504_0, hl504_0, hi504_0⟩ := at_L1 HR0_0.out (rd l0_1 a2) b9 q504
                        obtain rfl : ad501 = ad504 := (by injection e504)
                        replace hx504_0 := (HB.out.cell (World.block_lt_of_cell? w _ hx504_0)).trans hx504_0
                        have HR504_0 := Aside0.mk hi504_0
                        have e8 := Aside0.mk hl504_0
                        clear hi504_0 hl504_0
                        replace b9 := eq_true b9
                        replace q504 := eq_true q504
                        have d0 : 0 ≤ (a1 : Int) := of_decide_eq_true zf_0
                        have q505 : a1 < (l0_1.length : Int) := of_decide_eq_true zf_0
                        obtain ⟨ad505, e505, hx505_0⟩ := Kd.at_int HR0_1.out a1 d0 q505
                        obtain rfl : ad503 = ad505 := (by injection e505)
                        replace hx505_0 := (HB.out.cell (World.block_lt_of_cell? w _ hx505_0)).trans hx505_0
                        replace d0 := eq_true d0
                        replace q505 := eq_true q505
                        have d1 : 0 ≤ ((rd l0_1 a1) : Int) := of_decide_eq_true zf_0
                        have q506 : (rd l0_1 a1) < ((rd_L1 l0_0 (rd l0_1 a2)).length : Int) := of_decide_eq_true zf_0
                        obtain ⟨ad506, e506, hx506_0⟩ := Kd.at_int HR504_0.out (rd l0_1 a1) d1 q506
                        cases e506
                        replace hx506_0 := (HB.out.cell (World.block_lt_of_cell? w _ hx506_0)).trans hx506_0
                        replace d1 := eq_true d1
                        replace q506 := eq_true q506
                        go_wp2
                        repeat (go_quiet (fail); try go_wp2)
                        go_roundg k5
                        case measure => have := e9.out; have := HK2.out; have := HK3.out; have := e4.out; have := HK5.out; omega
                        case rel => exact ⟨(wrap64 (a2 + 1)), zf_4, H', ⟨zf_5⟩, ⟨zf_2⟩, ⟨zf_1⟩⟩
                       rw [if_neg i7] at H
                       exact absurd H (by simp)
                      rw [if_neg i6] at H
                      exact absurd H (by simp)
                     rw [if_neg i5] at H
                     exact absurd H (by simp)
                    rw [if_neg i4] at H
                    exact absurd H (by simp)
                   rw [if_neg i3] at H
                   exact absurd H (by simp)
                  rw [if_neg i2] at H
                  exact absurd H (by simp)
                 rw [if_neg g1] at H
                 have h4 := bv_ g1
                 have h5 := bw_ g1
                 have H' := Aside0.mk H
                 clear H
                 have a3 := cz20 a0.out
                 have a4 := cz21 a0.out
                 have a5 := blk_frozen a0.out 0
                 have a6 := blk_frozen a0.out 1
                 have b1 : 0 ≤ (a1 : Int) := of_decide_eq_true zf_0
                 have q501 : a1 < (l0_0.length : Int) := of_decide_eq_true zf_0
                 obtain ⟨ad501, e2, e3, e501, hx501_0, hl501_0, hi501_0⟩ := at_L1 HR0_0.out a1 b1 q501
                 cases e501
                 replace hx501_0 := (HB.out.cell (World.block_lt_of_cell? w _ hx501_0)).trans hx501_0
                 have HR501_0 := Aside0.mk hi501_0
                 have d5 := Aside0.mk hl501_0
                 clear hi501_0 hl501_0
                 replace b1 := eq_true b1
                 replace q501 := eq_true q501
                 have b2 : 0 ≤ (a2 : Int) := of_decide_eq_true zf_0
                 have q502 : a2 < ((rd_L1 l0_0 a1).length : Int) := of_decide_eq_true zf_0
                 obtain ⟨ad502, e502, hx502_0⟩ := Kd.at_int HR501_0.out a2 b2 q502
                 cases e502
                 replace hx502_0 := (HB.out.cell (World.block_lt_of_cell? w _ hx502_0)).trans hx502_0
                 replace b2 := eq_true b2
                 replace q502 := eq_true q502
                 go_wp2
                 repeat (go_quiet (fail); try go_wp2)
                 go_roundg k5
                 case measure => have := e9.out; have := HK2.out; have := HK3.out; have := e4.out; have := HK5.out; omega
                 case rel => exact ⟨(wrap64 (a2 + 1)), zf_4, H', ⟨zf_5⟩, ⟨zf_2⟩, ⟨zf_1⟩⟩
                rw [if_neg i1] at H
                exact absurd H (by simp)
               rw [if_neg i0] at H
               exact absurd H (by simp)
              rw [if_neg h9] at H
              exact absurd H (by simp)
             rw [if_neg h8] at H
             exact absurd H (by simp)
            rw [if_neg h0] at H
            have h3 : decide (a2 < (l0_0.length : Int)) = false := decide_eq_false h0
            clear h0
            have H' := Aside0.mk H
            clear H
            go_wp2
            repeat (go_quiet (fail); try go_wp2)
            go_roundg k5
            case measure => have := e9.out; have := HK2.out; have := HK3.out; have := e4.out; have := HK5.out; omega
            case rel => exact ⟨(wrap64 (a1 + 1)), zf_4, H', ⟨zf_5⟩, ⟨zf_2⟩, ⟨zf_1⟩⟩
       rw [if_neg f1] at H
       have d8 : decide (a1 < (l0_0.length : Int)) = false := decide_eq_false f1
       clear f1
       obtain rfl := Option.some.inj H
       go_wp2
       repeat (go_quiet (fail); try go_wp2)
       go_ret
       exact ⟨by first | rfl | (simp [errW_none, errW_some] <;> rfl) | (simp [*, errW_none, errW_some] <;> rfl), by repeat (first | (with_reducible first | exact HB.out | apply below_alloc | apply pw_below_drewN | apply below_drew1 | refine below_set ?_ b0.out) | exact HB.out)⟩

end Go.Proofs.Ytjgfpiilfnchnaa.P

-- written by gen.py (a program of this session) out of the kit's print of this seat's translation
namespace Go.Proofs.Ytjgfpiilfnchnaa.P
open Go.RowKit Go.Proofs.YtjgfpiilfnchnaaW.PrintWords Go.Proofs.YtjgfpiilfnchnaaW.PrintLast Go.Proofs.YtjgfpiilfnchnaaW.PrintMore
attribute [local go_sem] max2_int min2_int max_two min_two max_three min_three max_four min_four
set_option linter.unusedVariables false
set_option linter.unusedSimpArgs false
set_option maxHeartbeats 8000000 in
set_option maxRecDepth 100000 in
theorem impl_isAnswer.calls (A0 : Option Addr) (c0 : Nat) (l0 : List (List Int)) (a1 : Int) (r : Bool) (w : World) (hr0 : Kd.C (Kd.slice 3 (Kd.int .i64)) w A0 l0.length l0) (hc0 : l0.length ≤ c0) (h : impl_isAnswer.f l0 a1 = some r) :
  Calls Try.prog 85 #[.slice A0 l0.length c0, .int .i64 a1] w fun e w' => e = .returned (.bool r) ∧ Drawn0 w w' := by
 have HR0 := Aside0.mk hr0
 have a2 := Aside0.mk hc0
 clear hr0 hc0
 have H : (if a1 ≥ 0 then (some (decide (a1 < (l0.length : Int)))) else (some false)) = some r := h
 clear h
 by_cases c3 : a1 ≥ 0
 ·
  rw [if_pos c3] at H
  have a0 : decide (0 ≤ a1) = true := decide_eq_true c3
  clear c3
  obtain rfl := Option.some.inj H
  go_enter Try.func85, Try.ntmps85
  go_wp2
  go_ret
  exact ⟨by first | rfl | (simp; done) | (simp [*]; done), by repeat (first | exact Drawn0.refl _ | apply Drawn0.step)⟩
 rw [if_neg c3] at H
 have a0 : decide (0 ≤ a1) = false := decide_eq_false c3
 clear c3
 obtain rfl := Option.some.inj H
 go_enter Try.func85, Try.ntmps85
 go_wp2
 go_ret
 exact ⟨by first | rfl | (simp; done) | (simp [*]; done), by repeat (first | exact Drawn0.refl _ | apply Drawn0.step)⟩

end Go.Proofs.Ytjgfpiilfnchnaa.P

-- written by gen.py (a program of this session) out of the kit's print of this seat's translation
namespace Go.Proofs.Ytjgfpiilfnchnaa.P
open Go.RowKit Go.Proofs.YtjgfpiilfnchnaaW.PrintWords Go.Proofs.YtjgfpiilfnchnaaW.PrintLast Go.Proofs.YtjgfpiilfnchnaaW.PrintMore
attribute [local go_sem] max2_int min2_int max_two min_two max_three min_three max_four min_four
set_option linter.unusedVariables false
set_option linter.unusedSimpArgs false
theorem zp_2 {p : Prop} (h : p := by have := HK1.out; have := d3.out; have := HK3.out; omega) : p := h
theorem zp_1 {p : Prop} (h : p := by first | rfl | (simp; done) | (simp [*]; done)) : p := h
theorem zp_0 {p : Prop} (h : p := by first | (with_reducible assumption) | assumption) : p := h
set_option maxHeartbeats 8000000 in
set_option maxRecDepth 100000 in
theorem impl_meet.calls (k : Nat) (A0 : Option Addr) (c0 : Nat) (l0 : List (List Int)) (a1 : Int) (a2 : Int) (r : Int) (w : World) (hr0 : Kd.C (Kd.slice 3 (Kd.int .i64)) w A0 l0.length l0) (hc0 : l0.length ≤ c0) (h : impl_meet.f k l0 a1 a2 = some r) :
  Calls Try.prog 84 #[.slice A0 l0.length c0, .int .i64 a1, .int .i64 a2] w fun e w' => e = .returned (.int .i64 r) ∧ Drawn0 w w' := by
 have HR0 := Aside0.mk hr0
 have i6 := Aside0.mk hc0
 clear hr0 hc0
 have H : (impl_meet.l0 k l0 a1 a2 (l0.length : Int) 0) = some r := h
 clear h
 have H' := Aside0.mk H
 clear H
 go_enter Try.func84, Try.ntmps84
 go_wp2
 go_loopg [12] k (fun kq i3 w' => ∃ (a3 : Int), i3 = .int .i64 a3 ∧ Aside0 (impl_meet.l0 kq l0 a1 a2 (l0.length : Int) a3 = some r) ∧ Aside0 (kq ≤ k) ∧ Drawn0 w w')
 case atStart => exact ⟨(0), zp_1, H', ⟨Nat.le_refl _⟩, by repeat (first | exact Drawn0.refl _ | apply Drawn0.step)⟩
 case round =>
  clear H'
  try clear p2
  obtain ⟨a3, rfl, HA, HK1, ⟨m1, rfl⟩⟩ := hrel
  cases gk with
  | zero => exact absurd HA.out (by simp [impl_meet.l0])
  | succ k1 =>
   have H := HA.out
   clear HA
   simp only [impl_meet.l0] at H
   by_cases c4 : a3 < (l0.length : Int)
   ·
    rw [if_pos c4] at H
    have d6 : decide (a3 < (l0.length : Int)) = true := decide_eq_true c4
    clear c4
    have g9 := Aside0.mk H
    clear H
    go_upto_region 4 with (fail)
    go_cut [32] (fun i4 wc => ∃ (kq : Nat) (b0 : Bool), i4 = .bool b0 ∧ Aside0 (impl_meet.j1 kq l0 a1 a2 a3 (l0.length : Int) a3 b0 = some r) ∧ Aside0 (kq ≤ k1) ∧ Drawn0 w wc)
    case first =>
     have H := g9.out
     clear g9
     by_cases c6 : 0 ≤ a3
     ·
      rw [if_pos c6] at H
      have b9 : decide (0 ≤ a3) = true := decide_eq_true c6
      clear c6
      (first | rw [b9] | (simp only [i64_w, i32_w]; rw [b9]) | skip)
      by_cases c7 : a3 < (l0.length : Int)
      ·
       rw [if_pos c7] at H
       have e8 : decide (a3 < (l0.length : Int)) = true := decide_eq_true c7
       clear c7
       by_cases c8 : 0 ≤ a1
       ·
        rw [if_pos c8] at H
        have e9 : decide (0 ≤ a1) = true := decide_eq_true c8
        clear c8
        by_cases c9 : a1 < ((rd_L1 l0 a3).length : Int)
        ·
         rw [if_pos c9] at H
         have f0 : decide (a1 < ((rd_L1 l0 a3).length : Int)) = true := decide_eq_true c9
         clear c9
         by_cases d0 : (rd (rd_L1 l0 a3) a1) = 0
         ·
          rw [if_pos d0] at H
          have b2 := bt_ d0
          have b3 := bu_ d0
          clear d0
          have H' := Aside0.mk H
          clear H
          have a6 : 0 ≤ (a3 : Int) := of_decide_eq_true zp_0
          have q425 : a3 < (l0.length : Int) := of_decide_eq_true zp_0
          obtain ⟨ad425, d7, d8, e425, hx425_0, hl425_0, hi425_0⟩ := at_L1 HR0.out a3 a6 q425
          cases e425
          have HR425_0 := Aside0.mk hi425_0
          have d1 := Aside0.mk hl425_0
          clear hi425_0 hl425_0
          replace a6 := eq_true a6
          replace q425 := eq_true q425
          have a7 : 0 ≤ (a1 : Int) := of_decide_eq_true zp_0
          have q426 : a1 < ((rd_L1 l0 a3).length : Int) := of_decide_eq_true zp_0
          obtain ⟨ad426, e426, hx426_0⟩ := Kd.at_int HR425_0.out a1 a7 q426
          cases e426
          replace a7 := eq_true a7
          replace q426 := eq_true q426
          go_wp2
          go_meet
          case rel => exact ⟨_, (true), zp_1, H', ⟨by have := HK1.out; first | omega | exact Nat.le_refl _⟩, by repeat (first | exact Drawn0.refl _ | apply Drawn0.step)⟩
         rw [if_neg d0] at H
         have b2 := bv_ d0
         have b3 := bw_ d0
         by_cases e5 : 0 ≤ a2
         ·
          rw [if_pos e5] at H
          have d4 : decide (0 ≤ a2) = true := decide_eq_true e5
          clear e5
          by_cases e6 : a2 < ((rd_L1 l0 a3).length : Int)
          ·
           rw [if_pos e6] at H
           have d5 : decide (a2 < ((rd_L1 l0 a3).length : Int)) = true := decide_eq_true e6
           clear e6
           have H' := Aside0.mk H
           clear H
           have a6 : 0 ≤ (a3 : Int) := of_decide_eq_true zp_0
           have q425 : a3 < (l0.length : Int) := of_decide_eq_true zp_0
           obtain ⟨ad425, d7, d8, e425, hx425_0, hl425_0, hi425_0⟩ := at_L1 HR0.out a3 a6 q425
           cases e425
           have HR425_0 := Aside0.mk hi425_0
           have d1 := Aside0.mk hl425_0
           clear hi425_0 hl425_0
           replace a6 := eq_true a6
           replace q425 := eq_true q425
           have a7 : 0 ≤ (a1 : Int) := of_decide_eq_true zp_0
           have q426 : a1 < ((rd_L1 l0 a3).length : Int) := of_decide_eq_true zp_0
           obtain ⟨ad426, e426, hx426_0⟩ := Kd.at_int HR425_0.out a1 a7 q426
           cases e426
           replace a7 := eq_true a7
           replace q426 := eq_true q426
           have b4 : 0 ≤ (a3 : Int) := of_decide_eq_true zp_0
           have q427 : a3 < (l0.length : Int) := of_decide_eq_true zp_0
           obtain ⟨ad427, h0, h1, e427, hx427_0, hl427_0, hi427_0⟩ := at_L1 HR0.out a3 b4 q427
           obtain rfl : ad425 = ad427 := (by injection e427)
           have HR427_0 := Aside0.mk hi427_0
           have f7 := Aside0.mk hl427_0
           clear hi427_0 hl427_0
           replace b4 := eq_true b4
           replace q427 := eq_true q427
           have ea_ := Option.some.inj (hx425_0.symm.trans hx427_0)
           injection ea_ with ea_ en_ ec_
           subst ea_
           subst ec_
           clear en_
           have b5 : 0 ≤ (a2 : Int) := of_decide_eq_true zp_0
           have q428 : a2 < ((rd_L1 l0 a3).length : Int) := of_decide_eq_true zp_0
           obtain ⟨ad428, e428, hx428_0⟩ := Kd.at_int HR427_0.out a2 b5 q428
           cases e428
           replace b5 := eq_true b5
           replace q428 := eq_true q428
           go_wp2
           go_meet
           case rel => exact ⟨_, (((rd (rd_L1 l0 a3) a2) == 0)), zp_1, H', ⟨by have := HK1.out; first | omega | exact Nat.le_refl _⟩, by repeat (first | exact Drawn0.refl _ | apply Drawn0.step)⟩
          rw [if_neg e6] at H
          exact absurd H (by simp)
         rw [if_neg e5] at H
         exact absurd H (by simp)
        rw [if_neg c9] at H
        exact absurd H (by simp)
       rw [if_neg c8] at H
       exact absurd H (by simp)
      rw [if_neg c7] at H
      exact absurd H (by simp)
     rw [if_neg c6] at H
     exact absurd H (by simp)
    case rest =>
     clear g9
     try clear c1
     try clear p2
     try clear c4
     try clear d6
     try clear p4
     try clear q4
     try clear hx4
     try clear c6
     try clear b9
     try clear c7
     try clear e8
     try clear c8
     try clear e9
     try clear c9
     try clear f0
     try clear d0
     try clear b2
     try clear b3
     try clear e5
     try clear d4
     try clear e6
     try clear d5
     try clear hx425_0
     try clear hx426_0
     try clear hx427_0
     try clear hx428_0
     try clear a6
     try clear a7
     try clear b4
     try clear b5
     try clear q425
     try clear q426
     try clear q427
     try clear q428
     obtain ⟨kq, b0, rfl, HA, d3, ⟨mc4, rfl⟩⟩ := hcut
     cases kq with
     | zero => exact absurd HA.out (by simp [impl_meet.j1])
     | succ h2 =>
      have H := HA.out
      clear HA
      simp only [impl_meet.j1] at H
      by_cases f1 : b0 = true
      ·
       subst f1
       rw [if_pos rfl] at H
       have H' := Aside0.mk H
       clear H
       go_wp2
       go_roundg h2
       case measure => have := HK1.out; have := d3.out; omega
       case rel => exact ⟨(wrap64 (a3 + 1)), zp_1, H', ⟨by have := HK1.out; have := d3.out; omega⟩, by repeat (first | exact Drawn0.refl _ | apply Drawn0.step)⟩
      replace f1 := Bool.eq_false_iff.mpr f1
      subst f1
      rw [if_neg nf_] at H
      have H' := Aside0.mk H
      clear H
      go_wp2
      go_loopg [8, 35] h2 (fun kq v8 i5 w' => ∃ (b6 : Bool) (a0 : Int), v8 = .bool b6 ∧ i5 = .int .i64 a0 ∧ Aside0 (impl_meet.l1 kq l0 a1 a2 a3 b6 (l0.length : Int) a3 (l0.length : Int) a0 = some r) ∧ Aside0 (kq ≤ h2) ∧ Drawn0 w w')
      case atStart => exact ⟨(true), (0), zp_1, zp_1, H', ⟨Nat.le_refl _⟩, by repeat (first | exact Drawn0.refl _ | apply Drawn0.step)⟩
      case round =>
       clear H'
       try clear c1
       try clear p2
       try clear c4
       try clear d6
       try clear p4
       try clear q4
       try clear hx4
       try clear c6
       try clear b9
       try clear p6
       try clear c7
       try clear e8
       try clear c8
       try clear e9
       try clear c9
       try clear f0
       try clear d0
       try clear b2
       try clear b3
       try clear e5
       try clear d4
       try clear e6
       try clear d5
       try clear f1
       try clear hx425_0
       try clear hx426_0
       try clear hx427_0
       try clear hx428_0
       try clear a6
       try clear a7
       try clear b4
       try clear b5
       try clear q425
       try clear q426
       try clear q427
       try clear q428
       obtain ⟨b6, a0, rfl, rfl, HA, HK3, ⟨m3, rfl⟩⟩ := hrel
       cases gk with
       | zero => exact absurd HA.out (by simp [impl_meet.l1])
       | succ k3 =>
        have H := HA.out
        clear HA
        simp only [impl_meet.l1] at H
        by_cases e7 : a0 < (l0.length : Int)
        ·
         rw [if_pos e7] at H
         have f2 : decide (a0 < (l0.length : Int)) = true := decide_eq_true e7
         clear e7
         by_cases f8 : b6 = true
         ·
          subst f8
          rw [if_pos rfl] at H
          by_cases f9 : 0 ≤ a0
          ·
           rw [if_pos f9] at H
           have h5 : decide (0 ≤ a0) = true := decide_eq_true f9
           clear f9
           by_cases g0 : a0 < (l0.length : Int)
           ·
            rw [if_pos g0] at H
            have h6 : decide (a0 < (l0.length : Int)) = true := decide_eq_true g0
            clear g0
            by_cases g1 : 0 ≤ a1
            ·
             rw [if_pos g1] at H
             have h7 : decide (0 ≤ a1) = true := decide_eq_true g1
             clear g1
             by_cases g2 : a1 < ((rd_L1 l0 a0).length : Int)
             ·
              rw [if_pos g2] at H
              have h8 : decide (a1 < ((rd_L1 l0 a0).length : Int)) = true := decide_eq_true g2
              clear g2
              by_cases d9 : (rd (rd_L1 l0 a0) a1) = 0
              ·
               rw [if_pos d9] at H
               have f3 := bt_ d9
               have f4 := bu_ d9
               clear d9
               have H' := Aside0.mk H
               clear H
               have a4 : 0 ≤ (a0 : Int) := of_decide_eq_true zp_0
               have q429 : a0 < (l0.length : Int) := of_decide_eq_true zp_0
               obtain ⟨ad429, b7, b8, e429, hx429_0, hl429_0, hi429_0⟩ := at_L1 HR0.out a0 a4 q429
               cases e429
               have HR429_0 := Aside0.mk hi429_0
               have b1 := Aside0.mk hl429_0
               clear hi429_0 hl429_0
               replace a4 := eq_true a4
               replace q429 := eq_true q429
               have a5 : 0 ≤ (a1 : Int) := of_decide_eq_true zp_0
               have q430 : a1 < ((rd_L1 l0 a0).length : Int) := of_decide_eq_true zp_0
               obtain ⟨ad430, e430, hx430_0⟩ := Kd.at_int HR429_0.out a1 a5 q430
               cases e430
               replace a5 := eq_true a5
               replace q430 := eq_true q430
               go_wp2
               go_roundg k3
               case measure => have := HK1.out; have := d3.out; have := HK3.out; omega
               case rel => exact ⟨(true), (wrap64 (a0 + 1)), zp_1, zp_1, H', ⟨zp_2⟩, by repeat (first | exact Drawn0.refl _ | apply Drawn0.step)⟩
              rw [if_neg d9] at H
              have f3 := bv_ d9
              have f4 := bw_ d9
              by_cases g3 : 0 ≤ a2
              ·
               rw [if_pos g3] at H
               have h9 : decide (0 ≤ a2) = true := decide_eq_true g3
               clear g3
               by_cases g4 : a2 < ((rd_L1 l0 a0).length : Int)
               ·
                rw [if_pos g4] at H
                have i0 : decide (a2 < ((rd_L1 l0 a0).length : Int)) = true := decide_eq_true g4
                clear g4
                by_cases e0 : (rd (rd_L1 l0 a0) a2) = 0
                ·
                 rw [if_pos e0] at H
                 have f5 := bt_ e0
                 have f6 := bu_ e0
                 clear e0
                 have H' := Aside0.mk H
                 clear H
                 have a4 : 0 ≤ (a0 : Int) := of_decide_eq_true zp_0
                 have q429 : a0 < (l0.length : Int) := of_decide_eq_true zp_0
                 obtain ⟨ad429, b7, b8, e429, hx429_0, hl429_0, hi429_0⟩ := at_L1 HR0.out a0 a4 q429
                 cases e429
                 have HR429_0 := Aside0.mk hi429_0
                 have b1 := Aside0.mk hl429_0
                 clear hi429_0 hl429_0
                 replace a4 := eq_true a4
                 replace q429 := eq_true q429
                 have a5 : 0 ≤ (a1 : Int) := of_decide_eq_true zp_0
                 have q430 : a1 < ((rd_L1 l0 a0).length : Int) := of_decide_eq_true zp_0
                 obtain ⟨ad430, e430, hx430_0⟩ := Kd.at_int HR429_0.out a1 a5 q430
                 cases e430
                 replace a5 := eq_true a5
                 replace q430 := eq_true q430
                 have a8 : 0 ≤ (a0 : Int) := of_decide_eq_true zp_0
                 have q431 : a0 < (l0.length : Int) := of_decide_eq_true zp_0
                 obtain ⟨ad431, e1, e2, e431, hx431_0, hl431_0, hi431_0⟩ := at_L1 HR0.out a0 a8 q431
                 obtain rfl : ad429 = ad431 := (by injection e431)
                 have HR431_0 := Aside0.mk hi431_0
                 have d2 := Aside0.mk hl431_0
                 clear hi431_0 hl431_0
                 replace a8 := eq_true a8
                 replace q431 := eq_true q431
                 have ea_ := Option.some.inj (hx429_0.symm.trans hx431_0)
                 injection ea_ with ea_ en_ ec_
                 subst ea_
                 subst ec_
                 clear en_
                 have a9 : 0 ≤ (a2 : Int) := of_decide_eq_true zp_0
                 have q432 : a2 < ((rd_L1 l0 a0).length : Int) := of_decide_eq_true zp_0
                 obtain ⟨ad432, e432, hx432_0⟩ := Kd.at_int HR431_0.out a2 a9 q432
                 cases e432
                 replace a9 := eq_true a9
                 replace q432 := eq_true q432
                 go_wp2
                 go_roundg k3
                 case measure => have := HK1.out; have := d3.out; have := HK3.out; omega
                 case rel => exact ⟨(true), (wrap64 (a0 + 1)), zp_1, zp_1, H', ⟨zp_2⟩, by repeat (first | exact Drawn0.refl _ | apply Drawn0.step)⟩
                rw [if_neg e0] at H
                have f5 := bv_ e0
                have f6 := bw_ e0
                by_cases g5 : 0 ≤ a3
                ·
                 rw [if_pos g5] at H
                 have i1 : decide (0 ≤ a3) = true := decide_eq_true g5
                 clear g5
                 by_cases g6 : a3 < ((rd_L1 l0 a0).length : Int)
                 ·
                  rw [if_pos g6] at H
                  have i2 : decide (a3 < ((rd_L1 l0 a0).length : Int)) = true := decide_eq_true g6
                  clear g6
                  have H' := Aside0.mk H
                  clear H
                  have a4 : 0 ≤ (a0 : Int) := of_decide_eq_true zp_0
                  have q429 : a0 < (l0.length : Int) := of_decide_eq_true zp_0
                  obtain ⟨ad429, b7, b8, e429, hx429_0, hl429_0, hi429_0⟩ := at_L1 HR0.out a0 a4 q429
                  cases e429
                  have HR429_0 := Aside0.mk hi429_0
                  have b1 := Aside0.mk hl429_0
                  clear hi429_0 hl429_0
                  replace a4 := eq_true a4
                  replace q429 := eq_true q429
                  have a5 : 0 ≤ (a1 : Int) := of_decide_eq_true zp_0
                  have q430 : a1 < ((rd_L1 l0 a0).length : Int) := of_decide_eq_true zp_0
                  obtain ⟨ad430, e430, hx430_0⟩ := Kd.at_int HR429_0.out a1 a5 q430
                  cases e430
                  replace a5 := eq_true a5
                  replace q430 := eq_true q430
                  have a8 : 0 ≤ (a0 : Int) := of_decide_eq_true zp_0
                  have q431 : a0 < (l0.length : Int) := of_decide_eq_true zp_0
                  obtain ⟨ad431, e1, e2, e431, hx431_0, hl431_0, hi431_0⟩ := at_L1 HR0.out a0 a8 q431
                  obtain rfl : ad429 = ad431 := (by injection e431)
                  have HR431_0 := Aside0.mk hi431_0
                  have d2 := Aside0.mk hl431_0
                  clear hi431_0 hl431_0
                  replace a8 := eq_true a8
                  replace q431 := eq_true q431
                  have ea_ := Option.some.inj (hx429_0.symm.trans hx431_0)
                  injection ea_ with ea_ en_ ec_
                  subst ea_
                  subst ec_
                  clear en_
                  have a9 : 0 ≤ (a2 : Int) := of_decide_eq_true zp_0
                  have q432 : a2 < ((rd_L1 l0 a0).length : Int) := of_decide_eq_true zp_0
                  obtain ⟨ad432, e432, hx432_0⟩ := Kd.at_int HR431_0.out a2 a9 q432
                  cases e432
                  replace a9 := eq_true a9
                  replace q432 := eq_true q432
                  have e3 : 0 ≤ (a0 : Int) := of_decide_eq_true zp_0
                  have q433 : a0 < (l0.length : Int) := of_decide_eq_true zp_0
                  obtain ⟨ad433, h3, h4, e433, hx433_0, hl433_0, hi433_0⟩ := at_L1 HR0.out a0 e3 q433
                  obtain rfl : ad429 = ad433 := (by injection e433)
                  have HR433_0 := Aside0.mk hi433_0
                  have g7 := Aside0.mk hl433_0
                  clear hi433_0 hl433_0
                  replace e3 := eq_true e3
                  replace q433 := eq_true q433
                  have ea_ := Option.some.inj (hx429_0.symm.trans hx433_0)
                  injection ea_ with ea_ en_ ec_
                  subst ea_
                  subst ec_
                  clear en_
                  have e4 : 0 ≤ (a3 : Int) := of_decide_eq_true zp_0
                  have q434 : a3 < ((rd_L1 l0 a0).length : Int) := of_decide_eq_true zp_0
                  obtain ⟨ad434, e434, hx434_0⟩ := Kd.at_int HR433_0.out a3 e4 q434
                  cases e434
                  replace e4 := eq_true e4
                  replace q434 := eq_true q434
                  go_wp2
                  go_roundg k3
                  case measure => have := HK1.out; have := d3.out; have := HK3.out; omega
                  case rel => exact ⟨(((rd (rd_L1 l0 a0) a3) == 1)), (wrap64 (a0 + 1)), zp_1, zp_1, H', ⟨zp_2⟩, by repeat (first | exact Drawn0.refl _ | apply Drawn0.step)⟩
                 rw [if_neg g6] at H
                 exact absurd H (by simp)
                rw [if_neg g5] at H
                exact absurd H (by simp)
               rw [if_neg g4] at H
               exact absurd H (by simp)
              rw [if_neg g3] at H
              exact absurd H (by simp)
             rw [if_neg g2] at H
             exact absurd H (by simp)
            rw [if_neg g1] at H
            exact absurd H (by simp)
           rw [if_neg g0] at H
           exact absurd H (by simp)
          rw [if_neg f9] at H
          exact absurd H (by simp)
         replace f8 := Bool.eq_false_iff.mpr f8
         subst f8
         rw [if_neg nf_] at H
         have H' := Aside0.mk H
         clear H
         go_wp2
         go_roundg k3
         case measure => have := HK1.out; have := d3.out; have := HK3.out; omega
         case rel => exact ⟨(false), (wrap64 (a0 + 1)), zp_1, zp_1, H', ⟨zp_2⟩, by repeat (first | exact Drawn0.refl _ | apply Drawn0.step)⟩
        rw [if_neg e7] at H
        have f2 : decide (a0 < (l0.length : Int)) = false := decide_eq_false e7
        clear e7
        by_cases g8 : b6 = true
        ·
         subst g8
         rw [if_pos rfl] at H
         obtain rfl := Option.some.inj H
         go_wp2
         go_ret
         exact ⟨by first | rfl | (simp; done) | (simp [*]; done), by repeat (first | exact Drawn0.refl _ | apply Drawn0.step)⟩
        replace g8 := Bool.eq_false_iff.mpr g8
        subst g8
        rw [if_neg nf_] at H
        have H' := Aside0.mk H
        clear H
        go_wp2
        go_roundg k3
        case measure => have := HK1.out; have := d3.out; have := HK3.out; omega
        case rel => exact ⟨(wrap64 (a3 + 1)), zp_1, H', ⟨zp_2⟩, by repeat (first | exact Drawn0.refl _ | apply Drawn0.step)⟩
   rw [if_neg c4] at H
   have d6 : decide (a3 < (l0.length : Int)) = false := decide_eq_false c4
   clear c4
   obtain rfl := Option.some.inj H
   go_wp2
   go_ret
   exact ⟨by first | rfl | (simp; done) | (simp [*]; done), by repeat (first | exact Drawn0.refl _ | apply Drawn0.step)⟩

end Go.Proofs.Ytjgfpiilfnchnaa.P

-- written by gen.py (a program of this session) out of the kit's print of this seat's translation
namespace Go.Proofs.Ytjgfpiilfnchnaa.P
open Go.RowKit Go.Proofs.YtjgfpiilfnchnaaW.PrintWords Go.Proofs.YtjgfpiilfnchnaaW.PrintLast Go.Proofs.YtjgfpiilfnchnaaW.PrintMore
attribute [local go_sem] max2_int min2_int max_two min_two max_three min_three max_four min_four
set_option linter.unusedVariables false
set_option linter.unusedSimpArgs false
def impl_turned.T9 : Bool × List (List Nat × List Nat) := (true, [([], []), ([], []), ([0, 1], [0, 1]), ([2], [2]), ([], []), ([], []), ([], []), ([5, 6], [5, 6]), ([7], [7]), ([], []), ([8, 9], [8, 9]), ([10], [10]), ([3, 4, 0, 1, 2, 3, 4, 5, 6, 7, 8, 9, 10, 11], [3, 4]), ([12, 11, 0, 1, 2, 3, 4, 5, 6, 7, 8, 9, 10, 11], [11, 12])])
def impl_turned.B9 : List Nat := [0, 0, 3, 7, 0, 0, 0, 96, 224, 0, 992, 2016, 4095, 8191]
theorem impl_turned.tab9 : rtab .any (opsOf Try.f61 9) = impl_turned.T9 := by kernel_rfl
theorem impl_turned.bits9 : waitsOk impl_turned.T9.2 impl_turned.B9 = true := by kernel_rfl
theorem zq_2 {p : Prop} (h : p := by first | rfl | (simp; done) | (simp [*]; done)) : p := h
theorem zq_1 {p : Prop} (h : p := by repeat (first | (with_reducible first | exact HB.out | apply below_alloc | apply pw_below_drewN | apply below_drew1) | exact HB.out)) : p := h
theorem zq_0 {p : Prop} (h : p := by first | (with_reducible assumption) | assumption) : p := h
set_option maxHeartbeats 8000000 in
set_option maxRecDepth 100000 in
theorem impl_turned.calls (k : Nat) (A0 : Option Addr) (c0 : Nat) (l0 : List (List Int)) (r : List (List Int)) (w : World) (hr0 : Kd.C (Kd.slice 3 (Kd.int .i64)) w A0 l0.length l0) (hc0 : l0.length ≤ c0) (h : impl_turned.f k l0 = some r) :
  Calls Try.prog 61 #[.slice A0 l0.length c0] w fun e w' => ∃ v0_ : Value, e = .returned (v0_) ∧ Kd.S (Kd.slice 3 (Kd.int .i64)) 24 w' w.heap.size (fun _ => True) v0_ r ∧ Below w.heap.size w w' := by
 have HR0 := Aside0.mk hr0
 have g6 := Aside0.mk hc0
 clear hr0 hc0
 have HB := Aside0.mk (Below.refl w.heap.size w)
 have H : (if 0 ≤ (l0.length : Int) then (if ((l0.length : Int) : Int).toNat ≤ 11728124029610 then (impl_turned.l0 k l0 (List.replicate ((l0.length : Int) : Int).toNat []) (l0.length : Int) 0) else (none)) else (none)) = some r := h
 clear h
 by_cases c2 : 0 ≤ (l0.length : Int)
 ·
  rw [if_pos c2] at H
  have b4 := eq_true c2
  have b5 : decide (0 ≤ (l0.length : Int)) = true := decide_eq_true c2
  clear c2
  by_cases c3 : ((l0.length : Int) : Int).toNat ≤ 11728124029610
  ·
   rw [if_pos c3] at H
   have b6 := eq_true c3
   have b7 : decide (((l0.length : Int) : Int).toNat ≤ 11728124029610) = true := decide_eq_true c3
   clear c3
   obtain ⟨y412, hy412⟩ : ∃ y_ : List (List Int), y_ = (List.replicate ((l0.length : Int) : Int).toNat []) := ⟨_, rfl⟩
   replace H : (impl_turned.l0 k l0 y412 (l0.length : Int) 0) = some r := by first | (rw [hy412]; with_reducible exact H) | (have H2_ := (Option.bind_some _ _).symm.trans H; rw [hy412]; with_reducible exact H2_) | (have H2_ := (Option.bind_some _ _).symm.trans H; with_reducible exact H2_) | with_reducible exact H | (rw [hy412]; exact H) | exact H
   have Ny412 := Aside0.mk hy412
   clear hy412
   have H' := Aside0.mk H
   clear H
   go_enter Try.func61, Try.ntmps61
   go_wp2_with (first | ((with_reducible refine gate_dst (N := 8) rfl ?_); refine Kd.S_make (Kd.slice 3 (Kd.int .i64)) _ 24 rfl (N := 8) rfl 23 _ _ rfl (l0.length : Int) rfl rfl Try.underlying23 (.slice none 0 0) 24 info24 rfl (by decide) (by omega) [] (ok := fun _ => True) (okp := fun _ => True) ⟨_, rfl, Kd.R_nil _ _ _ _ _⟩ (fun _ hk => hk) trivial (of_decide_eq_true zq_0) (Nat.le_trans (Nat.mul_le_mul_right _ (of_decide_eq_true zq_0 : (l0.length : Int).toNat ≤ 11728124029610)) (by omega)) (Below.refl _ _) (Nat.le_refl _) ?_; intro e6 w4 ho5 hb hg_ hnew_; clear hg_ hnew_; (first | rw [← Ny412.out] at ho5 | (simp only [Int.reduceToNat] at ho5; rw [← Ny412.out] at ho5)); have b8 := Aside0.mk (Kd.S_lower ho5 (below_size zq_1)); replace HB := Aside0.mk (below_step zq_1 hb); clear hb ho5))
   go_loopg [11] k (fun kq g3 w' => ∃ (a4 : List (List Int)) (a0 : Int), g3 = .int .i64 a0 ∧ Aside0 (impl_turned.l0 kq l0 a4 (l0.length : Int) a0 = some r) ∧ Aside0 (kq ≤ k) ∧ Aside0 (Kd.S (Kd.slice 3 (Kd.int .i64)) 24 w' w.heap.size (fun _ => True) e6 a4) ∧ Aside0 (Below w.heap.size w w'))
   case atStart => exact ⟨(y412), (0), zq_2, H', ⟨Nat.le_refl _⟩, ⟨by (with_reducible repeat (first | apply Kd.S_alloc | apply Kd.S_drewN | apply Kd.S_drew)); exact b8.out⟩, ⟨zq_1⟩⟩
   case round =>
    clear H'
    try clear c2
    try clear b4
    try clear b5
    try clear p2
    try clear c3
    try clear b6
    try clear b7
    obtain ⟨a4, a0, rfl, HA, HK1, a2, HB⟩ := hrel
    cases gk with
    | zero => exact absurd HA.out (by simp [impl_turned.l0])
    | succ k1 =>
     have H := HA.out
     clear HA
     simp only [impl_turned.l0] at H
     by_cases c6 : a0 < (l0.length : Int)
     ·
      rw [if_pos c6] at H
      have b9 : decide (a0 < (l0.length : Int)) = true := decide_eq_true c6
      clear c6
      by_cases c7 : 0 ≤ (l0.length : Int)
      ·
       rw [if_pos c7] at H
       have e7 := eq_true c7
       have e8 : decide (0 ≤ (l0.length : Int)) = true := decide_eq_true c7
       clear c7
       by_cases c8 : ((l0.length : Int) : Int).toNat ≤ 35184372088832
       ·
        rw [if_pos c8] at H
        have e9 := eq_true c8
        have f0 : decide (((l0.length : Int) : Int).toNat ≤ 35184372088832) = true := decide_eq_true c8
        clear c8
        obtain ⟨y415, hy415⟩ : ∃ y_ : List Int, y_ = (List.replicate ((l0.length : Int) : Int).toNat 0) := ⟨_, rfl⟩
        replace H : (if 0 ≤ a0 then (if a0 < (a4.length : Int) then (impl_turned.l1 k1 l0 (a4.set (a0 : Int).toNat y415) a0 (l0.length : Int) a0 (l0.length : Int) 0) else (none)) else (none)) = some r := by first | (rw [hy415]; with_reducible exact H) | (have H2_ := (Option.bind_some _ _).symm.trans H; rw [hy415]; with_reducible exact H2_) | (have H2_ := (Option.bind_some _ _).symm.trans H; with_reducible exact H2_) | with_reducible exact H | (rw [hy415]; exact H) | exact H
        have Ny415 := Aside0.mk hy415
        clear hy415
        by_cases c9 : 0 ≤ a0
        ·
         rw [if_pos c9] at H
         have f1 : decide (0 ≤ a0) = true := decide_eq_true c9
         clear c9
         by_cases d0 : a0 < (a4.length : Int)
         ·
          rw [if_pos d0] at H
          have d1 : decide (a0 < (a4.length : Int)) = true := decide_eq_true d0
          clear d0
          obtain ⟨y418, hy418⟩ : ∃ y_ : List (List Int), y_ = (a4.set (a0 : Int).toNat y415) := ⟨_, rfl⟩
          replace H : (impl_turned.l1 k1 l0 y418 a0 (l0.length : Int) a0 (l0.length : Int) 0) = some r := by first | (rw [hy418]; with_reducible exact H) | (have H2_ := (Option.bind_some _ _).symm.trans H; rw [hy418]; with_reducible exact H2_) | (have H2_ := (Option.bind_some _ _).symm.trans H; with_reducible exact H2_) | with_reducible exact H | (rw [hy418]; exact H) | exact H
          have Ny418 := Aside0.mk hy418
          clear hy418
          have H' := Aside0.mk H
          clear H
          go_wp2_with (first | ((with_reducible refine gate_dst (N := 18) rfl ?_); refine Kd.R_make (Kd.int .i64) _ 3 rfl (N := 18) rfl 24 _ _ rfl (l0.length : Int) rfl rfl Try.underlying24 (.int .i64 0) 8 info3 rfl (by decide) (by omega) 0 (ok := fun _ => True) (okp := fun _ => True) rfl (fun _ hk => hk) trivial (of_decide_eq_true zq_0) (Nat.le_trans (Nat.mul_le_mul_right _ (of_decide_eq_true zq_0 : (l0.length : Int).toNat ≤ 35184372088832)) (by omega)) (Below.refl _ _) (Nat.le_refl _) ?_; intro a6 f2 ho13 hb hg_ hnew_; clear hg_ hnew_; (first | rw [← Ny415.out] at ho13 | (simp only [Int.reduceToNat] at ho13; rw [← Ny415.out] at ho13)); replace a2 := Aside0.mk (Kd.S_elder' (by (with_reducible repeat (first | apply Kd.S_alloc | apply Kd.S_drewN | apply Kd.S_drew)); exact a2.out) (Kd.R_base ho13) hb); have a5 := Aside0.mk (Kd.R_lower ho13 (below_size zq_1)); replace HB := Aside0.mk (below_step zq_1 hb); clear hb ho13; have d7 : 0 ≤ (a0 : Int) := of_decide_eq_true zq_0; have q11 : (a0 : Int) < ((a4.length : Int) : Int) := of_decide_eq_true zq_0; obtain ⟨go11, a8, d2, d3, gl11, cl11, HG11⟩ := Kd.S_form a2.out (by omega); (first | cases d2 | (injection d2 with ea_ en_ ec_; (first | subst ea_ | (injection ea_ with ea_; subst ea_)); subst ec_; clear en_)); have GB11 := Aside0.mk d3; have GG11 := Aside0.mk HG11; clear d3 gl11 HG11; obtain ⟨_, ce11, hcl11, hM11, hcc11, hfr11, _, _⟩ := Kd.S_elem a2.out [] (a0 : Int) d7 q11; obtain ⟨ve11_0, rfl, ge11_0⟩ := hM11; have hx11_0 := hcc11 0 _ rfl; have hf11_0 := hfr11 0; (try simp only [show ((Kd.slice 3 (Kd.int .i64))).sz = 1 from rfl, Nat.mul_one, Nat.add_zero] at hx11_0); (try simp only [show ((Kd.slice 3 (Kd.int .i64))).sz = 1 from rfl, Nat.mul_one, Nat.add_zero] at hf11_0); clear hcl11 hcc11 hfr11; (try clear hM11); replace d7 := eq_true d7; replace q11 := eq_true q11; have n_ := Aside0.mk (Kd.S_mono (ok' := (fun k_ => some k_ ≠ (a6 : Value).ownBlock)) a2.out (fun k_ hk => hk.2)); clear a2; have a2 := n_; clear n_; have HX14 := Aside0.mk (show Kd.S (Kd.slice 3 (Kd.int .i64)) 24 f2 w.heap.size (fun k_ => ((fun _ => True)) k_ ∧ ¬ ((fun k_ => some k_ = (a6 : Value).ownBlock)) k_) (.slice (some ⟨go11, 0, none⟩) a4.length a8) a4 from (by (with_reducible repeat (first | apply Kd.S_alloc | apply Kd.S_drewN | apply Kd.S_drew)); exact Kd.S_mono a2.out (fun k_ hk => ⟨trivial, fun e_ => hk e_⟩))); obtain ⟨oki14, ce14, hcl14, hM14, hcc14, hfr14, hoki14, hH14⟩ := Kd.S_elem HX14.out [] (a0 : Int) (of_decide_eq_true zq_0) (by have h_ : (a0 : Int) < ((a4.length : Int) : Int) := of_decide_eq_true zq_0; first | exact h_ | (have e_ := (Kd.S_reads' a2.out).1; omega) | simpa using h_); obtain ⟨ve14_0, rfl, ge14_0⟩ := hM14; have HP14 := Kd.S_seg hH14 (of_decide_eq_true zq_0) (by have h_ : (a0 : Int) < ((a4.length : Int) : Int) := of_decide_eq_true zq_0; first | exact h_ | (have e_ := (Kd.S_reads' a2.out).1; omega) | simpa using h_) (seg := [a6]) (j := 0) (show 1 ≤ 1 from by decide) (x' := y415) (Kd.M_row (Kd.R_mono (Kd.R_tight rfl (Kd.R_mono (ok' := fun k_ => ((fun _ => True)) k_ ∧ k_ ≠ go11) (Kd.R_apart' (a5.out) (Kd.S_typed a2.out) (by decide)) (fun k_ hk => ⟨trivial, fun e_ => (hk.2) (by rw [e_]; rfl)⟩))) (fun _ h_ => Or.inr (h_)))) (fun _ hk => hk) (fun k_ hk_ => ((Kd.R_mono (ok' := fun k_ => ((fun _ => True)) k_ ∧ k_ ≠ go11) (Kd.R_apart' (a5.out) (Kd.S_typed a2.out) (by decide)) (fun k_ hk => ⟨trivial, fun e_ => (hk.2) (by rw [e_]; rfl)⟩))).1 k_ hk_.symm); have hx14_0 := hcc14 0 _ rfl; (try simp only [show ((Kd.slice 3 (Kd.int .i64))).sz = 1 from rfl, Nat.mul_one, Nat.add_zero] at hx14_0); have hf14_0 := hfr14 0; (try simp only [show ((Kd.slice 3 (Kd.int .i64))).sz = 1 from rfl, Nat.mul_one, Nat.add_zero] at hf14_0); clear hcl14 hcc14 hfr14 hoki14 hH14; (try clear hM14); (try simp only [show ((Kd.slice 3 (Kd.int .i64))).sz = 1 from rfl, Nat.mul_one, Nat.add_zero] at HP14)) | ((with_reducible refine gate_store (t := 24) (p := 19) rfl ?_); refine store_event (t := 24) (p := 19) (v := ?vo_w15) (w1 := (f2.setCell ⟨go11, (a0 : Int).toNat, none⟩ (a6))) ?hg ?ho ?hn ?hr ?_; (case ho => rfl); (case hg => rfl); (case hn => rfl); (case hr => first | (go_simp; done) | (go_simp; rfl) | (obtain ⟨_, _, e_⟩ := Kd.R_slice a5.out; rw [e_]; first | (go_simp; done) | (go_simp; rfl))); intro f3 hw; have hg : f2.grownBy f3 (some go11) := (by rw [hw]; exact HP14.2); have hp_ : Kd.S (Kd.slice 3 (Kd.int .i64)) 24 f3 w.heap.size (fun _ => True) (.slice (some ⟨go11, 0, none⟩) a4.length a8) y418 := (by rw [hw, Ny418.out]; exact HP14.1); clear HP14; replace a2 := Aside0.mk (hp_); replace HB := Aside0.mk ((by rw [hw]; exact below_set (HB.out) GB11.out : Below w.heap.size w f3)); clear a5; clear hg hw hp_))
          go_loopg [22] k1 (fun kq g4 w' => ∃ (a3 : List (List Int)) (a1 : Int), g4 = .int .i64 a1 ∧ Aside0 (impl_turned.l1 kq l0 a3 a0 (l0.length : Int) a0 (l0.length : Int) a1 = some r) ∧ Aside0 (kq ≤ k1) ∧ Aside0 (Kd.S (Kd.slice 3 (Kd.int .i64)) 24 w' w.heap.size (fun _ => True) (.slice (some ⟨go11, 0, none⟩) a4.length a8) a3) ∧ Aside0 (Below w.heap.size w w'))
          case atStart => exact ⟨(y418), (0), zq_2, H', ⟨Nat.le_refl _⟩, ⟨by (with_reducible repeat (first | apply Kd.S_alloc | apply Kd.S_drewN | apply Kd.S_drew)); exact a2.out⟩, ⟨zq_1⟩⟩
          case round =>
           clear H'
           try clear c1
           try clear p1
           try clear q1
           try clear hx1
           try clear hf1
           try clear c2
           try clear b4
           try clear b5
           try clear p2
           try clear c3
           try clear b6
           try clear b7
           try clear c6
           try clear b9
           try clear c7
           try clear e7
           try clear e8
           try clear c8
           try clear e9
           try clear f0
           try clear c9
           try clear f1
           try clear d0
           try clear d1
           try clear g7
           try clear d7
           try clear q11
           try clear hx11
           try clear hf11
           try clear g8
           try clear hx14
           try clear hf14
           try clear hx11_0
           try clear hx14_0
           obtain ⟨a3, a1, rfl, HA, HK2, a2, HB⟩ := hrel
           have hl3_2 := (Kd.S_reads' a2.out).1
           rw [hl3_2] at a2
           (try simp only [hl3_2])
           cases gk with
           | zero => exact absurd HA.out (by simp [impl_turned.l1])
           | succ k2 =>
            have H := HA.out
            clear HA
            simp only [impl_turned.l1] at H
            by_cases b3 : a1 < (l0.length : Int)
            ·
             rw [if_pos b3] at H
             have d4 : decide (a1 < (l0.length : Int)) = true := decide_eq_true b3
             clear b3
             by_cases d8 : 0 ≤ a0
             ·
              rw [if_pos d8] at H
              have f7 : decide (0 ≤ a0) = true := decide_eq_true d8
              clear d8
              by_cases d9 : a0 < (a3.length : Int)
              ·
               rw [if_pos d9] at H
               have f8 : decide (a0 < (a3.length : Int)) = true := decide_eq_true d9
               clear d9
               by_cases e0 : 0 ≤ a1
               ·
                rw [if_pos e0] at H
                have f9 : decide (0 ≤ a1) = true := decide_eq_true e0
                clear e0
                by_cases e1 : a1 < (l0.length : Int)
                ·
                 rw [if_pos e1] at H
                 have g0 : decide (a1 < (l0.length : Int)) = true := decide_eq_true e1
                 clear e1
                 by_cases e2 : a0 < ((rd_L1 l0 a1).length : Int)
                 ·
                  rw [if_pos e2] at H
                  have g1 : decide (a0 < ((rd_L1 l0 a1).length : Int)) = true := decide_eq_true e2
                  clear e2
                  by_cases e3 : a1 < ((rd_L1 a3 a0).length : Int)
                  ·
                   rw [if_pos e3] at H
                   have g2 : decide (a1 < ((rd_L1 a3 a0).length : Int)) = true := decide_eq_true e3
                   clear e3
                   obtain ⟨y422, hy422⟩ : ∃ y_ : List Int, y_ = ((rd_L1 a3 a0).set (a1 : Int).toNat (rd (rd_L1 l0 a1) a0)) := ⟨_, rfl⟩
                   replace H : (impl_turned.l1 k2 l0 (a3.set (a0 : Int).toNat y422) a0 (l0.length : Int) a0 (l0.length : Int) (wrap64 (a1 + 1))) = some r := by first | (rw [hy422]; with_reducible exact H) | (have H2_ := (Option.bind_some _ _).symm.trans H; rw [hy422]; with_reducible exact H2_) | (have H2_ := (Option.bind_some _ _).symm.trans H; with_reducible exact H2_) | with_reducible exact H | (rw [hy422]; exact H) | exact H
                   have Ny422 := Aside0.mk hy422
                   clear hy422
                   obtain ⟨y424, hy424⟩ : ∃ y_ : List (List Int), y_ = (a3.set (a0 : Int).toNat y422) := ⟨_, rfl⟩
                   replace H : (impl_turned.l1 k2 l0 y424 a0 (l0.length : Int) a0 (l0.length : Int) (wrap64 (a1 + 1))) = some r := by first | (rw [hy424]; with_reducible exact H) | (have H2_ := (Option.bind_some _ _).symm.trans H; rw [hy424]; with_reducible exact H2_) | (have H2_ := (Option.bind_some _ _).symm.trans H; with_reducible exact H2_) | with_reducible exact H | (rw [hy424]; exact H) | exact H
                   have Ny424 := Aside0.mk hy424
                   clear hy424
                   have H' := Aside0.mk H
                   clear H
                   try go_wp2
                   replace a2 := Aside0.mk (Kd.S_drew a2.out)
                   replace HB := Aside0.mk (below_drew1 HB.out)
                   have a7 : 0 ≤ (a0 : Int) := of_decide_eq_true zq_0
                   have q419 : a0 < (a3.length : Int) := of_decide_eq_true zq_0
                   obtain ⟨ad419, f4, a9, e419, hx419_0, hl419_0, hi419_0⟩ := at_L1 (Kd.S_reads' a2.out).2.2 a0 a7 q419
                   obtain rfl : (⟨go11, 0, none⟩ : Addr) = ad419 := (by injection e419)
                   obtain ⟨ce419, hce419, hMe419, hcc419⟩ := Kd.S_get a2.out [] a0 a7 (by first | exact q419 | exact of_decide_eq_true zq_0 | (have e_ := (Kd.S_reads' a2.out).1; omega))
                   obtain ⟨ve419_0, rfl, ge419_0⟩ := hMe419
                   have hv419_0 := hcc419 0 _ rfl
                   rw [Nat.add_zero, show ((Kd.slice 3 (Kd.int .i64))).sz = 1 from rfl, Nat.mul_one] at hv419_0
                   replace hv419_0 := Option.some.inj (hv419_0.symm.trans hx419_0)
                   rw [hv419_0] at ge419_0
                   have HL419_0 := Aside0.mk (show Kd.R (Kd.int .i64) 3 _ _ _ _ (rd_L1 a3 a0) from ge419_0)
                   clear hv419_0 ge419_0
                   have HX419_0 := Aside0.mk hx419_0
                   clear hcc419 hce419
                   (first | simp only [add_plain] at hx419_0 | simp only [add_at] at hx419_0 | simp only [Addr.add, Nat.zero_add] at hx419_0 | skip)
                   have HR419_0 := Aside0.mk hi419_0
                   have e4 := Aside0.mk hl419_0
                   clear hi419_0 hl419_0
                   replace a7 := eq_true a7
                   replace q419 := eq_true q419
                   have b0 : 0 ≤ (a1 : Int) := of_decide_eq_true zq_0
                   have q420 : a1 < (l0.length : Int) := of_decide_eq_true zq_0
                   obtain ⟨ad420, f5, b1, e420, hx420_0, hl420_0, hi420_0⟩ := at_L1 HR0.out a1 b0 q420
                   have hw420_0 := hx420_0
                   cases e420
                   replace hx420_0 := (HB.out.cell (World.block_lt_of_cell? w _ hx420_0)).trans hx420_0
                   have HR420_0 := Aside0.mk hi420_0
                   have e5 := Aside0.mk hl420_0
                   clear hi420_0 hl420_0
                   replace b0 := eq_true b0
                   replace q420 := eq_true q420
                   have b2 : 0 ≤ (a0 : Int) := of_decide_eq_true zq_0
                   have q421 : a0 < ((rd_L1 l0 a1).length : Int) := of_decide_eq_true zq_0
                   obtain ⟨ad421, e421, hx421_0⟩ := Kd.at_int HR420_0.out a0 b2 q421
                   have hw421_0 := hx421_0
                   cases e421
                   replace hx421_0 := (HB.out.cell (World.block_lt_of_cell? w _ hx421_0)).trans hx421_0
                   replace b2 := eq_true b2
                   replace q421 := eq_true q421
                   have f6 : 0 ≤ (a1 : Int) := of_decide_eq_true zq_0
                   have q23 : (a1 : Int) < (((rd_L1 a3 a0).length : Int) : Int) := of_decide_eq_true zq_0
                   obtain ⟨go23, g5, d5, d6, gl23, cl23, HG23⟩ := Kd.R_form HL419_0.out (by omega)
                   (first | cases d5 | (injection d5 with ea_ en_ ec_; (first | subst ea_ | (injection ea_ with ea_; subst ea_)); subst ec_; clear en_))
                   have GB23 := Aside0.mk d6
                   have GG23 := Aside0.mk HG23
                   clear d6 gl23 HG23
                   obtain ⟨hx23_0, hf23_0⟩ := Kd.R_celln 0 HL419_0.out (a1 : Int) f6 q23
                   replace f6 := eq_true f6
                   replace q23 := eq_true q23
                   have hq25 : (a0 : Int) < (a3.length : Int) := (by have h_ : (a0 : Int) < ((a3.length : Int) : Int) := of_decide_eq_true zq_0; first | exact h_ | (have e_ := (Kd.S_reads' a2.out).1; omega) | simpa only [List.length_set, List.length_set] using h_)
                   obtain ⟨oki25, ce25, hcl25, hM25, hcc25, hok25, hbk25⟩ := Kd.S_borrow a2.out [] (a0 : Int) (of_decide_eq_true zq_0) hq25
                   obtain ⟨ve25_0, rfl, ge25_0⟩ := hM25
                   have hv25 := hcc25 0 _ rfl
                   rw [Nat.add_zero, show ((Kd.slice 3 (Kd.int .i64))).sz = 1 from rfl, Nat.mul_one] at hv25
                   replace hv25 := Option.some.inj (hv25.symm.trans HX419_0.out)
                   subst hv25
                   clear hcc25 hcl25
                   replace ge25_0 := (show Kd.R (Kd.int .i64) 3 _ _ _ _ (rd_L1 a3 a0) from ge25_0)
                   have HP25 := Kd.R_putg ge25_0 (a1 : Int) (rd (rd_L1 l0 a1) a0)
                   rw [← Ny422.out] at HP25
                   have HS25 := hbk25 HP25.2 (fun k_ e_ => by injection e_ with e_; subst e_; exact ge25_0.1 _ rfl) (x' := y422) (Kd.M_row HP25.1)
                   rw [← Ny424.out] at HS25
                   have HQ25 := Aside0.mk HS25
                   clear HP25 HS25 hbk25 hok25
                   refine start_ (n := 14) (S := fun w' => w'.cell? ⟨go11, (a0).toNat, none⟩ = some (.slice (some ⟨go23, 0, none⟩) (rd_L1 a3 a0).length a9) ∧ w'.cell? (ad420.add (a1).toNat) = some (.slice (some ad421) (rd_L1 l0 a1).length b1) ∧ w'.cell? (ad421.add (a0).toNat) = some (.int .i64 (rd (rd_L1 l0 a1) a0))) (ds := [13]) (bA 14 0) (by kernel_rfl) rfl rfl ⟨hx419_0, ((HB.out.cell (World.block_lt_of_cell? w _ hw420_0)).trans hw420_0), ((HB.out.cell (World.block_lt_of_cell? w _ hw421_0)).trans hw421_0)⟩ (fun hHeld => ?_); refine with_tabW impl_turned.tab9 impl_turned.bits9 (fun HT_ HW_ => ?_)
                   generalize wr.drew = g9 at a2 HB GG23 HL419_0 HQ25 HR419_0 HR420_0 HX419_0 hf23_0 hx23_0 hx419_0 hx420_0 hx421_0 hHeld ⊢
                   refine pu_ (i := 0) (N := some 25) (bA 14 1) ?_
                   refine pu_ (i := 1) (N := some 26) (bA 14 3) ?_
                   refine pu_ (i := 2) (N := some 27) (bA 14 7) ?_
                   refine pu_ (i := 4) (N := some 29) (bA 14 23) ?_
                   refine pu_ (i := 5) (N := some 30) (bA 14 55) ?_
                   refine pu_ (i := 6) (N := some 31) (bA 14 119) ?_
                   refine pu_ (i := 7) (N := some 32) (bA 14 247) ?_
                   refine pu_ (i := 9) (N := some 34) (bA 14 759) ?_
                   refine tk_ (i := 3) (N := some 28) (bA 14 767) ?_
                   refine tk_ (i := 8) (N := some 33) (bA 14 1023) ?_
                   refine pu_ (i := 10) (N := some 35) (bA 14 2047) ?_
                   refine tk_ (i := 11) (N := some 36) (bA 14 4095) ?_
                   refine pu_ (i := 12) (N := some 37) (bA 14 8191) ?_
                   refine last_ (i := 13) (N := none) (bA 14 16383) rfl rfl (one_of HT_.out (by kernel_rfl)) (by decide) (fun K hK => ?_)
                   refine skip_ (w1 := ?_) (by rfl) rfl ?_ ?_
                   rotate_left
                   ·
                    go_simp
                    rfl
                   refine hK.out _ _ ?_
                   clear hK K
                   refine done_ (done_of HT_.out (by kernel_rfl)) ?_
                   try go_wp2
                   (try simp only [← hl3_2])
                   go_roundg k2
                   case measure => have := HK1.out; have := HK2.out; omega
                   case rel => exact ⟨(y424), (wrap64 (a1 + 1)), zq_2, H', ⟨by have := HK1.out; have := HK2.out; omega⟩, ⟨by (try simp only [hl3_2]); (with_reducible repeat (first | apply Kd.S_alloc | apply Kd.S_drewN | apply Kd.S_drew)); exact HQ25.out⟩, ⟨by repeat (first | (with_reducible first | exact HB.out | apply below_alloc | apply pw_below_drewN | apply below_drew1 | refine below_set ?_ GB23.out) | exact HB.out)⟩⟩
                  rw [if_neg e3] at H
                  exact absurd H (by simp)
                 rw [if_neg e2] at H
                 exact absurd H (by simp)
                rw [if_neg e1] at H
                exact absurd H (by simp)
               rw [if_neg e0] at H
               exact absurd H (by simp)
              rw [if_neg d9] at H
              exact absurd H (by simp)
             rw [if_neg d8] at H
             exact absurd H (by simp)
            rw [if_neg b3] at H
            have d4 : decide (a1 < (l0.length : Int)) = false := decide_eq_false b3
            clear b3
            have H' := Aside0.mk H
            clear H
            go_wp2
            (try simp only [← hl3_2])
            go_roundg k2
            case measure => have := HK1.out; have := HK2.out; omega
            case rel => exact ⟨(a3), (wrap64 (a0 + 1)), zq_2, H', ⟨by have := HK1.out; have := HK2.out; omega⟩, ⟨by (try simp only [hl3_2]); (with_reducible repeat (first | apply Kd.S_alloc | apply Kd.S_drewN | apply Kd.S_drew)); exact a2.out⟩, ⟨zq_1⟩⟩
         rw [if_neg d0] at H
         exact absurd H (by simp)
        rw [if_neg c9] at H
        exact absurd H (by simp)
       rw [if_neg c8] at H
       exact absurd H (by simp)
      rw [if_neg c7] at H
      exact absurd H (by simp)
     rw [if_neg c6] at H
     have b9 : decide (a0 < (l0.length : Int)) = false := decide_eq_false c6
     clear c6
     obtain rfl := Option.some.inj H
     go_wp2
     go_ret
     exact ⟨_, by first | rfl | (simp [errW_none, errW_some] <;> rfl) | (simp [*, errW_none, errW_some] <;> rfl), by (with_reducible repeat (first | apply Kd.S_alloc | apply Kd.S_drewN | apply Kd.S_drew)); exact a2.out, by repeat (first | (with_reducible first | exact HB.out | apply below_alloc | apply pw_below_drewN | apply below_drew1) | exact HB.out)⟩
  rw [if_neg c3] at H
  exact absurd H (by simp)
 rw [if_neg c2] at H
 exact absurd H (by simp)

end Go.Proofs.Ytjgfpiilfnchnaa.P

-- written by gen.py (a program of this session) out of the kit's print of this seat's translation
namespace Go.Proofs.Ytjgfpiilfnchnaa.P
open Go.RowKit Go.Proofs.YtjgfpiilfnchnaaW.PrintWords Go.Proofs.YtjgfpiilfnchnaaW.PrintLast Go.Proofs.YtjgfpiilfnchnaaW.PrintMore
attribute [local go_sem] max2_int min2_int max_two min_two max_three min_three max_four min_four
set_option linter.unusedVariables false
set_option linter.unusedSimpArgs false
theorem zo_2 {p : Prop} (h : p := by first | rfl | (simp; done) | (simp [*]; done)) : p := h
theorem zo_1 {p : Prop} (h : p := by (with_reducible repeat (first | apply Kd.S_alloc | apply Kd.S_drewN | apply Kd.S_drew)); exact a3.out) : p := h
theorem zo_0 {p : Prop} (h : p := by repeat (first | (with_reducible first | exact HB.out | apply below_alloc | apply pw_below_drewN | apply below_drew1) | exact HB.out)) : p := h
set_option maxHeartbeats 8000000 in
set_option maxRecDepth 100000 in
theorem impl_LatticeOk.calls (k : Nat) (A0 : Option Addr) (c0 : Nat) (l0 : List (List Int)) (r : Bool) (w : World) (hr0 : Kd.C (Kd.slice 3 (Kd.int .i64)) w A0 l0.length l0) (hc0 : l0.length ≤ c0) (h : impl_LatticeOk.f k l0 = some r) :
  Calls Try.prog 83 #[.slice A0 l0.length c0] w fun e w' => e = .returned (.bool r) ∧ Below w.heap.size w w' := by
 have HR0 := Aside0.mk hr0
 have a7 := Aside0.mk hc0
 clear hr0 hc0
 have HB := Aside0.mk (Below.refl w.heap.size w)
 have H : ((impl_OrderOk.f k l0).bind fun a6 => (if a6 = true then ((impl_turned.f k l0).bind fun a2 => (impl_LatticeOk.l0 k l0 a2 (l0.length : Int) 0)) else (some false))) = some r := h
 clear h
 obtain ⟨a6, A2, H⟩ := bd_ H
 try dsimp only at H
 by_cases c3 : a6 = true
 ·
  subst c3
  rw [if_pos rfl] at H
  obtain ⟨a2, A4, H⟩ := bd_ H
  try dsimp only at H
  have H' := Aside0.mk H
  clear H
  go_enter Try.func83, Try.ntmps83
  go_wp2_with (first | ((with_reducible refine gate_callee (f := 43) rfl ?_); refine gl_ (some 7) Try.func43 #[.slice A0 l0.length c0] ?_; (with_reducible refine (impl_OrderOk.calls k _ _ l0 true _ (y4 HR0.out) a7.out A2.out).mono ?_); rintro e w' ⟨rfl, ⟨nd, rfl⟩⟩; refine ⟨_, rfl, ?_⟩) | ((with_reducible refine gate_callee (f := 61) rfl ?_); refine gl_ (some 10) Try.func61 #[.slice A0 l0.length c0] ?_; (with_reducible refine (impl_turned.calls k _ _ l0 a2 _ (y4 HR0.out) a7.out A4.out).mono ?_); rintro e w' ⟨a9, rfl, ho0, hb⟩; refine ⟨_, rfl, ?_⟩; have b0 := Aside0.mk (Kd.S_lower ho0 (below_size zo_0)); replace HB := Aside0.mk (below_step zo_0 hb); (try clear hb); (try clear hb2); (try clear hk); (try clear hi); (try clear ho0)))
  go_loopg [13] k (fun kq b8 w' => ∃ (a0 : Int), b8 = .int .i64 a0 ∧ Aside0 (impl_LatticeOk.l0 kq l0 a2 (l0.length : Int) a0 = some r) ∧ Aside0 (kq ≤ k) ∧ Aside0 (Kd.S (Kd.slice 3 (Kd.int .i64)) 24 w' w.heap.size (fun _ => True) a9 a2) ∧ Aside0 (Below w.heap.size w w'))
  case atStart => exact ⟨(0), zo_2, H', ⟨Nat.le_refl _⟩, ⟨by (with_reducible repeat (first | apply Kd.S_alloc | apply Kd.S_drewN | apply Kd.S_drew)); exact b0.out⟩, ⟨zo_0⟩⟩
  case round =>
   clear H'
   try clear p2
   try clear c3
   try clear c4
   obtain ⟨a0, rfl, HA, HK1, a3, HB⟩ := hrel
   cases gk with
   | zero => exact absurd HA.out (by simp [impl_LatticeOk.l0])
   | succ k1 =>
    have H := HA.out
    clear HA
    simp only [impl_LatticeOk.l0] at H
    by_cases c6 : a0 < (l0.length : Int)
    ·
     rw [if_pos c6] at H
     have b1 : decide (a0 < (l0.length : Int)) = true := decide_eq_true c6
     clear c6
     have H' := Aside0.mk H
     clear H
     go_wp2
     go_loopg [18] k1 (fun kq b9 w' => ∃ (a1 : Int), b9 = .int .i64 a1 ∧ Aside0 (impl_LatticeOk.l1 kq l0 a2 a0 (l0.length : Int) a0 (l0.length : Int) a1 = some r) ∧ Aside0 (kq ≤ k1) ∧ Aside0 (Kd.S (Kd.slice 3 (Kd.int .i64)) 24 w' w.heap.size (fun _ => True) a9 a2) ∧ Aside0 (Below w.heap.size w w'))
     case atStart => exact ⟨(0), zo_2, H', ⟨Nat.le_refl _⟩, ⟨zo_1⟩, ⟨zo_0⟩⟩
     case round =>
      clear H'
      try clear p2
      try clear c3
      try clear c4
      try clear c6
      try clear b1
      obtain ⟨a1, rfl, HA, HK2, a3, HB⟩ := hrel
      cases gk with
      | zero => exact absurd HA.out (by simp [impl_LatticeOk.l1])
      | succ k2 =>
       have H := HA.out
       clear HA
       simp only [impl_LatticeOk.l1] at H
       by_cases c7 : a1 < (l0.length : Int)
       ·
        rw [if_pos c7] at H
        have b3 : decide (a1 < (l0.length : Int)) = true := decide_eq_true c7
        clear c7
        obtain ⟨a4, A8, H⟩ := bd_ H
        try dsimp only at H
        by_cases c9 : a4 < 0
        ·
         rw [if_pos c9] at H
         have b4 : decide (a4 < 0) = true := decide_eq_true c9
         clear c9
         obtain rfl := Option.some.inj H
         go_wp2_with (first | ((with_reducible refine gate_callee (f := 84) rfl ?_); refine gl_ (some 24) Try.func84 #[.slice A0 l0.length c0, .int .i64 a0, .int .i64 a1] ?_; (with_reducible refine (impl_meet.calls k2 _ _ l0 a0 a1 a4 _ (y3 HR0.out HB.out) a7.out A8.out).mono ?_); rintro e w' ⟨rfl, ⟨nd, rfl⟩⟩; refine ⟨_, rfl, ?_⟩))
         go_ret
         exact ⟨by first | rfl | (simp [errW_none, errW_some] <;> rfl) | (simp [*, errW_none, errW_some] <;> rfl), by repeat (first | (with_reducible first | exact HB.out | apply below_alloc | apply pw_below_drewN | apply below_drew1) | exact HB.out)⟩
        rw [if_neg c9] at H
        have b4 : decide (a4 < 0) = false := decide_eq_false c9
        clear c9
        obtain ⟨a5, b7, H⟩ := bd_ H
        try dsimp only at H
        by_cases a8 : a5 < 0
        ·
         rw [if_pos a8] at H
         have b2 : decide (a5 < 0) = true := decide_eq_true a8
         clear a8
         obtain rfl := Option.some.inj H
         go_wp2_with (first | ((with_reducible refine gate_callee (f := 84) rfl ?_); refine gl_ (some 24) Try.func84 #[.slice A0 l0.length c0, .int .i64 a0, .int .i64 a1] ?_; (with_reducible refine (impl_meet.calls k2 _ _ l0 a0 a1 a4 _ (y3 HR0.out HB.out) a7.out A8.out).mono ?_); rintro e w' ⟨rfl, ⟨nd, rfl⟩⟩; refine ⟨_, rfl, ?_⟩; obtain ⟨d0, d1, b5⟩ := Kd.S_slice a3.out; subst b5) | (go_at_call 84; (with_reducible refine (impl_meet.calls k2 _ _ a2 a0 a1 a5 _ (y1 a3.out) (y2 a3.out) b7.out).mono ?_); rintro e w' ⟨rfl, ⟨nd, rfl⟩⟩))
         go_ret
         exact ⟨by first | rfl | (simp [errW_none, errW_some] <;> rfl) | (simp [*, errW_none, errW_some] <;> rfl), by repeat (first | (with_reducible first | exact HB.out | apply below_alloc | apply pw_below_drewN | apply below_drew1) | exact HB.out)⟩
        rw [if_neg a8] at H
        have b2 : decide (a5 < 0) = false := decide_eq_false a8
        clear a8
        have H' := Aside0.mk H
        clear H
        go_wp2_with (first | ((with_reducible refine gate_callee (f := 84) rfl ?_); refine gl_ (some 24) Try.func84 #[.slice A0 l0.length c0, .int .i64 a0, .int .i64 a1] ?_; (with_reducible refine (impl_meet.calls k2 _ _ l0 a0 a1 a4 _ (y3 HR0.out HB.out) a7.out A8.out).mono ?_); rintro e w' ⟨rfl, ⟨nd, rfl⟩⟩; refine ⟨_, rfl, ?_⟩; obtain ⟨d2, d3, b6⟩ := Kd.S_slice a3.out; subst b6) | (go_at_call 84; (with_reducible refine (impl_meet.calls k2 _ _ a2 a0 a1 a5 _ (y1 a3.out) (y2 a3.out) b7.out).mono ?_); rintro e w' ⟨rfl, ⟨nd, rfl⟩⟩))
        go_roundg k2
        case measure => have := HK1.out; have := HK2.out; omega
        case rel => exact ⟨(wrap64 (a1 + 1)), zo_2, H', ⟨by have := HK1.out; have := HK2.out; omega⟩, ⟨zo_1⟩, ⟨zo_0⟩⟩
       rw [if_neg c7] at H
       have b3 : decide (a1 < (l0.length : Int)) = false := decide_eq_false c7
       clear c7
       have H' := Aside0.mk H
       clear H
       go_wp2
       go_roundg k2
       case measure => have := HK1.out; have := HK2.out; omega
       case rel => exact ⟨(wrap64 (a0 + 1)), zo_2, H', ⟨by have := HK1.out; have := HK2.out; omega⟩, ⟨zo_1⟩, ⟨zo_0⟩⟩
    rw [if_neg c6] at H
    have b1 : decide (a0 < (l0.length : Int)) = false := decide_eq_false c6
    clear c6
    obtain rfl := Option.some.inj H
    go_wp2
    go_ret
    exact ⟨by first | rfl | (simp [errW_none, errW_some] <;> rfl) | (simp [*, errW_none, errW_some] <;> rfl), by repeat (first | (with_reducible first | exact HB.out | apply below_alloc | apply pw_below_drewN | apply below_drew1) | exact HB.out)⟩
 replace c3 := Bool.eq_false_iff.mpr c3
 subst c3
 rw [if_neg nf_] at H
 obtain rfl := Option.some.inj H
 go_enter Try.func83, Try.ntmps83
 go_wp2_with (first | ((with_reducible refine gate_callee (f := 43) rfl ?_); refine gl_ (some 7) Try.func43 #[.slice A0 l0.length c0] ?_; (with_reducible refine (impl_OrderOk.calls k _ _ l0 false _ (y4 HR0.out) a7.out A2.out).mono ?_); rintro e w' ⟨rfl, ⟨nd, rfl⟩⟩; refine ⟨_, rfl, ?_⟩))
 go_ret
 exact ⟨by first | rfl | (simp [errW_none, errW_some] <;> rfl) | (simp [*, errW_none, errW_some] <;> rfl), by repeat (first | (with_reducible first | exact HB.out | apply below_alloc | apply pw_below_drewN | apply below_drew1) | exact HB.out)⟩

end Go.Proofs.Ytjgfpiilfnchnaa.P

-- written by gen.py (a program of this session) out of the kit's print of this seat's translation
namespace Go.Proofs.Ytjgfpiilfnchnaa.P
open Go.RowKit Go.Proofs.YtjgfpiilfnchnaaW.PrintWords Go.Proofs.YtjgfpiilfnchnaaW.PrintLast Go.Proofs.YtjgfpiilfnchnaaW.PrintMore
attribute [local go_sem] max2_int min2_int max_two min_two max_three min_three max_four min_four
set_option linter.unusedVariables false
set_option linter.unusedSimpArgs false
theorem zr_1 {p : Prop} (h : p := by first | (with_reducible assumption) | assumption) : p := h
theorem zr_0 {p : Prop} (h : p := by first | rfl | (simp; done) | (simp [*]; done)) : p := h
set_option maxHeartbeats 8000000 in
set_option maxRecDepth 100000 in
theorem impl_LeastOf.calls (k : Nat) (A0 : Option Addr) (c0 : Nat) (l0 : List (List Int)) (r1 : Int) (r2 : Bool) (w : World) (hr0 : Kd.C (Kd.slice 3 (Kd.int .i64)) w A0 l0.length l0) (hc0 : l0.length ≤ c0) (h : impl_LeastOf.f k l0 = some (r1, r2)) :
  Calls Try.prog 21 #[.slice A0 l0.length c0] w fun e w' => e = .returned (.tuple #[.int .i64 r1, .bool r2]) ∧ Drawn0 w w' := by
 have HR0 := Aside0.mk hr0
 have b5 := Aside0.mk hc0
 clear hr0 hc0
 have H : ((impl_OrderOk.f k l0).bind fun a5 => (if a5 = true then (impl_LeastOf.l0 k l0 (l0.length : Int) 0) else (some ((-1), false)))) = some (r1, r2) := h
 clear h
 obtain ⟨a5, A2, H⟩ := bd_ H
 try dsimp only at H
 by_cases c3 : a5 = true
 ·
  subst c3
  rw [if_pos rfl] at H
  have H' := Aside0.mk H
  clear H
  go_enter Try.func21, Try.ntmps21
  go_wp2_with (first | ((with_reducible refine gate_callee (f := 43) rfl ?_); refine gl_ (some 10) Try.func43 #[.slice A0 l0.length c0] ?_; (with_reducible refine (impl_OrderOk.calls k _ _ l0 true _ (y4 HR0.out) b5.out A2.out).mono ?_); rintro e w' ⟨rfl, ⟨nd, rfl⟩⟩; refine ⟨_, rfl, ?_⟩))
  go_loopg [14] k (fun kq b6 w' => ∃ (a0 : Int), b6 = .int .i64 a0 ∧ Aside0 (impl_LeastOf.l0 kq l0 (l0.length : Int) a0 = some (r1, r2)) ∧ Aside0 (kq ≤ k) ∧ Drawn0 w w')
  case atStart => exact ⟨(0), zr_0, H', ⟨Nat.le_refl _⟩, by repeat (first | exact Drawn0.refl _ | apply Drawn0.step)⟩
  case round =>
   clear H'
   try clear c2
   try clear p2
   try clear c3
   obtain ⟨a0, rfl, HA, HK1, ⟨m1, rfl⟩⟩ := hrel
   cases gk with
   | zero => exact absurd HA.out (by simp [impl_LeastOf.l0])
   | succ k1 =>
    have H := HA.out
    clear HA
    simp only [impl_LeastOf.l0] at H
    by_cases c4 : a0 < (l0.length : Int)
    ·
     rw [if_pos c4] at H
     have a6 : decide (a0 < (l0.length : Int)) = true := decide_eq_true c4
     clear c4
     by_cases c5 : 0 ≤ a0
     ·
      rw [if_pos c5] at H
      have b0 : decide (0 ≤ a0) = true := decide_eq_true c5
      clear c5
      by_cases c6 : a0 < (l0.length : Int)
      ·
       rw [if_pos c6] at H
       have b1 : decide (a0 < (l0.length : Int)) = true := decide_eq_true c6
       clear c6
       have H' := Aside0.mk H
       clear H
       have a4 : 0 ≤ (a0 : Int) := of_decide_eq_true zr_1
       have q410 : a0 < (l0.length : Int) := of_decide_eq_true zr_1
       obtain ⟨ad410, b2, b3, e410, hx410_0, hl410_0, hi410_0⟩ := at_L1 HR0.out a0 a4 q410
       cases e410
       have HR410_0 := Aside0.mk hi410_0
       have a7 := Aside0.mk hl410_0
       clear hi410_0 hl410_0
       replace a4 := eq_true a4
       replace q410 := eq_true q410
       go_wp2
       go_loopg [6, 21] k1 (fun kq v6 b7 w' => ∃ (a3 : Bool) (a1 : Int), v6 = .bool a3 ∧ b7 = .int .i64 a1 ∧ Aside0 (impl_LeastOf.l1 kq a0 a3 l0 (l0.length : Int) a0 (rd_L1 l0 a0) ((rd_L1 l0 a0).length : Int) a1 = some (r1, r2)) ∧ Aside0 (kq ≤ k1) ∧ Drawn0 w w')
       case atStart => exact ⟨(true), (0), zr_0, zr_0, H', ⟨Nat.le_refl _⟩, by repeat (first | exact Drawn0.refl _ | apply Drawn0.step)⟩
       case round =>
        clear H'
        try clear c2
        try clear p2
        try clear c3
        try clear c4
        try clear a6
        try clear p4
        try clear q4
        try clear hx4
        try clear c5
        try clear b0
        try clear c6
        try clear b1
        try clear hx410_0
        try clear a4
        try clear q410
        obtain ⟨a3, a1, rfl, rfl, HA, HK2, ⟨m2, rfl⟩⟩ := hrel
        cases gk with
        | zero => exact absurd HA.out (by simp [impl_LeastOf.l1])
        | succ k2 =>
         have H := HA.out
         clear HA
         simp only [impl_LeastOf.l1] at H
         by_cases c7 : a1 < ((rd_L1 l0 a0).length : Int)
         ·
          rw [if_pos c7] at H
          have b4 : decide (a1 < ((rd_L1 l0 a0).length : Int)) = true := decide_eq_true c7
          clear c7
          by_cases c8 : 0 ≤ a1
          ·
           rw [if_pos c8] at H
           have b8 : decide (0 ≤ a1) = true := decide_eq_true c8
           clear c8
           by_cases c9 : a1 < ((rd_L1 l0 a0).length : Int)
           ·
            rw [if_pos c9] at H
            have b9 : decide (a1 < ((rd_L1 l0 a0).length : Int)) = true := decide_eq_true c9
            clear c9
            by_cases a8 : a3 = true
            ·
             subst a8
             rw [if_pos rfl] at H
             have H' := Aside0.mk H
             clear H
             have a2 : 0 ≤ (a1 : Int) := of_decide_eq_true zr_1
             have q411 : a1 < ((rd_L1 l0 a0).length : Int) := of_decide_eq_true zr_1
             obtain ⟨ad411, e411, hx411_0⟩ := Kd.at_int HR410_0.out a1 a2 q411
             cases e411
             replace a2 := eq_true a2
             replace q411 := eq_true q411
             go_wp2
             go_roundg k2
             case measure => have := HK1.out; have := HK2.out; omega
             case rel => exact ⟨(((rd (rd_L1 l0 a0) a1) == 1)), (wrap64 (a1 + 1)), zr_0, zr_0, H', ⟨by have := HK1.out; have := HK2.out; omega⟩, by repeat (first | exact Drawn0.refl _ | apply Drawn0.step)⟩
            replace a8 := Bool.eq_false_iff.mpr a8
            subst a8
            rw [if_neg nf_] at H
            have H' := Aside0.mk H
            clear H
            have a2 : 0 ≤ (a1 : Int) := of_decide_eq_true zr_1
            have q411 : a1 < ((rd_L1 l0 a0).length : Int) := of_decide_eq_true zr_1
            obtain ⟨ad411, e411, hx411_0⟩ := Kd.at_int HR410_0.out a1 a2 q411
            cases e411
            replace a2 := eq_true a2
            replace q411 := eq_true q411
            go_wp2
            go_roundg k2
            case measure => have := HK1.out; have := HK2.out; omega
            case rel => exact ⟨(false), (wrap64 (a1 + 1)), zr_0, zr_0, H', ⟨by have := HK1.out; have := HK2.out; omega⟩, by repeat (first | exact Drawn0.refl _ | apply Drawn0.step)⟩
           rw [if_neg c9] at H
           exact absurd H (by simp)
          rw [if_neg c8] at H
          exact absurd H (by simp)
         rw [if_neg c7] at H
         have b4 : decide (a1 < ((rd_L1 l0 a0).length : Int)) = false := decide_eq_false c7
         clear c7
         by_cases a9 : a3 = true
         ·
          subst a9
          rw [if_pos rfl] at H
          simp only [Option.some.injEq, Prod.mk.injEq] at H
          obtain ⟨rfl, rfl⟩ := H
          go_wp2
          go_ret2
          exact ⟨by first | rfl | (simp; done) | (simp [*]; done), by repeat (first | exact Drawn0.refl _ | apply Drawn0.step)⟩
         replace a9 := Bool.eq_false_iff.mpr a9
         subst a9
         rw [if_neg nf_] at H
         have H' := Aside0.mk H
         clear H
         go_wp2
         go_roundg k2
         case measure => have := HK1.out; have := HK2.out; omega
         case rel => exact ⟨(wrap64 (a0 + 1)), zr_0, H', ⟨by have := HK1.out; have := HK2.out; omega⟩, by repeat (first | exact Drawn0.refl _ | apply Drawn0.step)⟩
      rw [if_neg c6] at H
      exact absurd H (by simp)
     rw [if_neg c5] at H
     exact absurd H (by simp)
    rw [if_neg c4] at H
    have a6 : decide (a0 < (l0.length : Int)) = false := decide_eq_false c4
    clear c4
    simp only [Option.some.injEq, Prod.mk.injEq] at H
    obtain ⟨rfl, rfl⟩ := H
    go_wp2
    go_ret2
    exact ⟨by first | rfl | (simp; done) | (simp [*]; done), by repeat (first | exact Drawn0.refl _ | apply Drawn0.step)⟩
 replace c3 := Bool.eq_false_iff.mpr c3
 subst c3
 rw [if_neg nf_] at H
 simp only [Option.some.injEq, Prod.mk.injEq] at H
 obtain ⟨rfl, rfl⟩ := H
 go_enter Try.func21, Try.ntmps21
 go_wp2_with (first | ((with_reducible refine gate_callee (f := 43) rfl ?_); refine gl_ (some 10) Try.func43 #[.slice A0 l0.length c0] ?_; (with_reducible refine (impl_OrderOk.calls k _ _ l0 false _ (y4 HR0.out) b5.out A2.out).mono ?_); rintro e w' ⟨rfl, ⟨nd, rfl⟩⟩; refine ⟨_, rfl, ?_⟩))
 go_ret2
 exact ⟨by first | rfl | (simp; done) | (simp [*]; done), by repeat (first | exact Drawn0.refl _ | apply Drawn0.step)⟩

end Go.Proofs.Ytjgfpiilfnchnaa.P
