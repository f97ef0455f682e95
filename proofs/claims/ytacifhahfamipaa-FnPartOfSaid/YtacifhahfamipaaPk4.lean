/- 9 texts of this seat joined: walks, and the laws of what they compute. -/
import Derived.Test.YtacifhahfamipaaPk2
import Derived.Test.YtacifhahfamipaaPk3
namespace Go.Proofs.Ytacifhahfamipaa.P
open Go.RowKit Go.Proofs.YtacifhahfamipaaW.PrintWords Go.Proofs.YtacifhahfamipaaW.PrintLast Go.Proofs.YtacifhahfamipaaW.PrintMore
attribute [local go_sem] max2_int min2_int max_two min_two max_three min_three max_four min_four
set_option linter.unusedVariables false
set_option linter.unusedSimpArgs false
theorem z1n_4 {p : Prop} (h : p := by have := e1.out; have := HK2.out; have := HK3.out; have := d8.out; have := HK5.out; omega) : p := h
theorem z1n_3 {p : Prop} (h : p := by first | rfl | (simp [errW_none, errW_some] <;> rfl) | (simp [*, errW_none, errW_some] <;> rfl)) : p := h
theorem z1n_2 {p : Prop} (h : p := by first | rfl | (simp; done) | (simp [*]; done)) : p := h
theorem z1n_1 {p : Prop} (h : p := by repeat (first | (with_reducible first | exact HB.out | apply below_alloc | apply pw_below_drewN | apply below_drew1) | exact HB.out)) : p := h
theorem z1n_0 {p : Prop} (h : p := by repeat (first | (with_reducible first | exact HB.out | apply below_alloc | apply pw_below_drewN | apply below_drew1 | refine below_set ?_ d3.out) | exact HB.out)) : p := h
set_option maxHeartbeats 8000000 in
set_option maxRecDepth 100000 in
theorem spec_LogicOk.calls (k : Nat) (A0_0 : Option Addr) (c0_0 : Nat) (l0_0 : List (List Int)) (A0_1 : Option Addr) (c0_1 : Nat) (l0_1 : List Int) (r : Bool) (w : World) (hr0_0 : Kd.C (Kd.slice 3 (Kd.int .i64)) w A0_0 l0_0.length l0_0) (hc0_0 : l0_0.length ≤ c0_0) (hr0_1 : Kd.C (Kd.int .i64) w A0_1 l0_1.length l0_1) (hc0_1 : l0_1.length ≤ c0_1) (h : spec_LogicOk.f k l0_0 l0_1 = some r) :
 Calls Try.prog 30 #[.agg #[.slice A0_0 l0_0.length c0_0, .slice A0_1 l0_1.length c0_1]] w fun e w' => e = .returned (.bool r) ∧ Below w.heap.size w w' := by
 have hu27 := Try.underlying27
 have HR0_0 := ak hr0_0
 have a8 := ak hc0_0
 clear hr0_0 hc0_0
 have HR0_1 := ak hr0_1
 have g2 := ak hc0_1
 clear hr0_1 hc0_1
 have HB := ak (Below.refl w.heap.size w)
 have H : ((spec_LatticeOk.f k l0_0).bind fun f0 => (if f0 = true then (spec_LogicOk.j0 k (l0_0.length : Int) ((l0_1.length : Int) != (l0_0.length : Int)) l0_0 l0_1) else (spec_LogicOk.j0 k (l0_0.length : Int) true l0_0 l0_1))) = some r := h
 clear h
 have f9 := ak H
 clear H
 go_enter Try.func30, Try.ntmps30
 go_upto_region 2 with (first | ((with_reducible refine gate_dst (N := 1) rfl ?_); (try (refine gate_guard (by rfl) ?_; dsimp only)); refine box_event ?hg (N := 1) ?hd (cs := #[.slice A0_0 l0_0.length c0_0, .slice A0_1 l0_1.length c0_1]) (t := 27) ?hr ?_; (case hd => rfl); (case hg => rfl); (case hr => first | (go_simp; done) | (go_simp; rfl)); intro a7 hg w3 hbox hb; have a0 := ak (hbox); have e2 := ak ((by rw [hg]; exact (below_size z1n_1) : w.heap.size ≤ a7)); have d3 := ak ((by rw [hg]; exact (below_size z1n_1) : w.heap.size ≤ a7)); replace HB := ak (below_step z1n_1 hb); clear hb hbox hg; have a3 := cz20 a0.out; have a4 := cz21 a0.out; have a5 := blk_frozen a0.out 0; have a6 := blk_frozen a0.out 1))
 repeat (go_quiet (first | ((with_reducible refine gate_dst (N := 1) rfl ?_); (try (refine gate_guard (by rfl) ?_; dsimp only)); refine box_event ?hg (N := 1) ?hd (cs := #[.slice A0_0 l0_0.length c0_0, .slice A0_1 l0_1.length c0_1]) (t := 27) ?hr ?_; (case hd => rfl); (case hg => rfl); (case hr => first | (go_simp; done) | (go_simp; rfl)); intro a7 hg w3 hbox hb; have a0 := ak (hbox); have e2 := ak ((by rw [hg]; exact (below_size z1n_1) : w.heap.size ≤ a7)); have d3 := ak ((by rw [hg]; exact (below_size z1n_1) : w.heap.size ≤ a7)); replace HB := ak (below_step z1n_1 hb); clear hb hbox hg; have a3 := cz20 a0.out; have a4 := cz21 a0.out; have a5 := blk_frozen a0.out 0; have a6 := blk_frozen a0.out 1)); go_upto_region 2 with (first | ((with_reducible refine gate_dst (N := 1) rfl ?_); (try (refine gate_guard (by rfl) ?_; dsimp only)); refine box_event ?hg (N := 1) ?hd (cs := #[.slice A0_0 l0_0.length c0_0, .slice A0_1 l0_1.length c0_1]) (t := 27) ?hr ?_; (case hd => rfl); (case hg => rfl); (case hr => first | (go_simp; done) | (go_simp; rfl)); intro a7 hg w3 hbox hb; have a0 := ak (hbox); have e2 := ak ((by rw [hg]; exact (below_size z1n_1) : w.heap.size ≤ a7)); have d3 := ak ((by rw [hg]; exact (below_size z1n_1) : w.heap.size ≤ a7)); replace HB := ak (below_step z1n_1 hb); clear hb hbox hg; have a3 := cz20 a0.out; have a4 := cz21 a0.out; have a5 := blk_frozen a0.out 0; have a6 := blk_frozen a0.out 1)))
 (try simp only [Act.put, List.setIfInBounds_toArray, List.set_cons_zero, List.set_cons_succ])
 go_cut [22] (fun i0 wc => ∃ (kq : Nat) (d4 : Bool), i0 = .bool d4 ∧ Aside0 (spec_LogicOk.j0 kq (l0_0.length : Int) d4 l0_0 l0_1 = some r) ∧ Aside0 (kq ≤ k) ∧ Aside0 (wc.heap[a7]? = some (.cells #[(.slice A0_0 l0_0.length c0_0), (.slice A0_1 l0_1.length c0_1)] 27 (0, 0))) ∧ Aside0 (Below w.heap.size w wc))
 case first =>
  have H := f9.out
  clear f9
  obtain ⟨f0, A5, H⟩ := bd_ H
  try dsimp only at H
  replace H := ox_ H
  rcases H with ⟨rfl, H⟩ | ⟨rfl, H⟩
  ·
   have H' := ak H
   clear H
   have a3 := cz20 a0.out
   have a4 := cz21 a0.out
   have a5 := blk_frozen a0.out 0
   have a6 := blk_frozen a0.out 1
   go_wp2_with (first | (go_at_call 80; (with_reducible refine (spec_LatticeOk.calls k _ _ l0_0 true _ (y3 HR0_0.out HB.out) a8.out A5.out).mono ?_); rintro e w' ⟨rfl, ⟨nd, rfl⟩⟩; (try first | exact ⟨rfl, _, World.drewN_drewN _ _ _⟩ | exact ⟨rfl, _, Eq.trans (World.drewN_drewN _ _ _) (congrArg (World.drewN _) (Nat.add_assoc _ _ _))⟩)))
   repeat (go_quiet (first | (go_at_call 80; (with_reducible refine (spec_LatticeOk.calls k _ _ l0_0 true _ (y3 HR0_0.out HB.out) a8.out A5.out).mono ?_); rintro e w' ⟨rfl, ⟨nd, rfl⟩⟩; (try first | exact ⟨rfl, _, World.drewN_drewN _ _ _⟩ | exact ⟨rfl, _, Eq.trans (World.drewN_drewN _ _ _) (congrArg (World.drewN _) (Nat.add_assoc _ _ _))⟩))); try go_wp2_with (first | (go_at_call 80; (with_reducible refine (spec_LatticeOk.calls k _ _ l0_0 true _ (y3 HR0_0.out HB.out) a8.out A5.out).mono ?_); rintro e w' ⟨rfl, ⟨nd, rfl⟩⟩; (try first | exact ⟨rfl, _, World.drewN_drewN _ _ _⟩ | exact ⟨rfl, _, Eq.trans (World.drewN_drewN _ _ _) (congrArg (World.drewN _) (Nat.add_assoc _ _ _))⟩))))
   go_meet
   case rel => exact ⟨_, (((l0_1.length : Int) != (l0_0.length : Int))), z1n_2, H', ⟨(by first | omega | exact Nat.le_refl _)⟩, ⟨(xb a0.out)⟩, ⟨z1n_0⟩⟩
  have H' := ak H
  clear H
  have a3 := cz20 a0.out
  have a4 := cz21 a0.out
  have a5 := blk_frozen a0.out 0
  have a6 := blk_frozen a0.out 1
  go_wp2_with (first | (go_at_call 80; (with_reducible refine (spec_LatticeOk.calls k _ _ l0_0 false _ (y3 HR0_0.out HB.out) a8.out A5.out).mono ?_); rintro e w' ⟨rfl, ⟨nd, rfl⟩⟩; (try first | exact ⟨rfl, _, World.drewN_drewN _ _ _⟩ | exact ⟨rfl, _, Eq.trans (World.drewN_drewN _ _ _) (congrArg (World.drewN _) (Nat.add_assoc _ _ _))⟩)))
  repeat (go_quiet (first | (go_at_call 80; (with_reducible refine (spec_LatticeOk.calls k _ _ l0_0 false _ (y3 HR0_0.out HB.out) a8.out A5.out).mono ?_); rintro e w' ⟨rfl, ⟨nd, rfl⟩⟩; (try first | exact ⟨rfl, _, World.drewN_drewN _ _ _⟩ | exact ⟨rfl, _, Eq.trans (World.drewN_drewN _ _ _) (congrArg (World.drewN _) (Nat.add_assoc _ _ _))⟩))); try go_wp2_with (first | (go_at_call 80; (with_reducible refine (spec_LatticeOk.calls k _ _ l0_0 false _ (y3 HR0_0.out HB.out) a8.out A5.out).mono ?_); rintro e w' ⟨rfl, ⟨nd, rfl⟩⟩; (try first | exact ⟨rfl, _, World.drewN_drewN _ _ _⟩ | exact ⟨rfl, _, Eq.trans (World.drewN_drewN _ _ _) (congrArg (World.drewN _) (Nat.add_assoc _ _ _))⟩))))
  go_meet
  case rel => exact ⟨_, (true), z1n_2, H', ⟨(by first | omega | exact Nat.le_refl _)⟩, ⟨(xb a0.out)⟩, ⟨z1n_0⟩⟩
 case rest =>
  clear f9
  try clear a3
  try clear a4
  try clear a5
  try clear a6
  obtain ⟨kq, d4, rfl, HA, e1, a0, HB⟩ := hcut
  cases kq with
  | zero => exact absurd HA.out (by simp [spec_LogicOk.j0])
  | succ g3 =>
   have H := HA.out
   clear HA
   simp only [spec_LogicOk.j0] at H
   replace H := ox_ H
   rcases H with ⟨rfl, H⟩ | ⟨rfl, H⟩
   ·
    obtain rfl := Option.some.inj H
    go_wp2
    repeat (go_quiet (fail); try go_wp2)
    go_ret
    exact ⟨z1n_3, z1n_0⟩
   have H' := ak H
   clear H
   go_wp2
   repeat (go_quiet (fail); try go_wp2)
   go_loopg [4] g3 (fun kq v4 w' => ∃ (a9 : Int), v4 = .int .i64 a9 ∧ Aside0 (spec_LogicOk.l0 kq (l0_0.length : Int) a9 l0_0 l0_1 = some r) ∧ Aside0 (kq ≤ g3) ∧ Aside0 (w'.heap[a7]? = some (.cells #[(.slice A0_0 l0_0.length c0_0), (.slice A0_1 l0_1.length c0_1)] 27 (0, 0))) ∧ Aside0 (Below w.heap.size w w'))
   case atStart => exact ⟨(0), z1n_2, H', ⟨Nat.le_refl _⟩, ⟨(xb a0.out)⟩, ⟨z1n_0⟩⟩
   case round =>
    clear H'
    try clear c9
    try clear a3
    try clear a4
    try clear a5
    try clear a6
    obtain ⟨a9, rfl, HA, HK2, a0, HB⟩ := hrel
    cases gk with
    | zero => exact absurd HA.out (by simp [spec_LogicOk.l0])
    | succ k2 =>
     have H := HA.out
     clear HA
     simp only [spec_LogicOk.l0] at H
     replace H := os_ H
     rcases H with ⟨d1, H⟩ | ⟨d1, H⟩
     ·
      replace H := od2 H
      obtain ⟨g4, g5, H⟩ := H
      obtain ⟨i1, e9, H⟩ := bd_ H
      try dsimp only at H
      replace H := ox_ H
      rcases H with ⟨rfl, H⟩ | ⟨rfl, H⟩
      ·
       have H' := ak H
       clear H
       have a3 := cz20 a0.out
       have a4 := cz21 a0.out
       have a5 := blk_frozen a0.out 0
       have a6 := blk_frozen a0.out 1
       have b2 : 0 ≤ (a9 : Int) := oa_
       have q629 : a9 < (l0_1.length : Int) := oa_
       obtain ⟨ad629, e629, hx629_0⟩ := Kd.at_int HR0_1.out a9 b2 q629
       cases e629
       replace hx629_0 := (HB.out.cell (World.block_lt_of_cell? w _ hx629_0)).trans hx629_0
       replace b2 := eq_true b2
       replace q629 := eq_true q629
       go_wp2_with (first | (go_at_call 72; (with_reducible refine (spec_l1In.calls (rd l0_1 a9) 0 (wrap64 ((l0_0.length : Int) - 1)) true _ e9.out).mono ?_); rintro e w' ⟨rfl, ⟨nd, rfl⟩⟩; (try first | exact ⟨rfl, _, World.drewN_drewN _ _ _⟩ | exact ⟨rfl, _, Eq.trans (World.drewN_drewN _ _ _) (congrArg (World.drewN _) (Nat.add_assoc _ _ _))⟩)))
       repeat (go_quiet (first | (go_at_call 72; (with_reducible refine (spec_l1In.calls (rd l0_1 a9) 0 (wrap64 ((l0_0.length : Int) - 1)) true _ e9.out).mono ?_); rintro e w' ⟨rfl, ⟨nd, rfl⟩⟩; (try first | exact ⟨rfl, _, World.drewN_drewN _ _ _⟩ | exact ⟨rfl, _, Eq.trans (World.drewN_drewN _ _ _) (congrArg (World.drewN _) (Nat.add_assoc _ _ _))⟩))); try go_wp2_with (first | (go_at_call 72; (with_reducible refine (spec_l1In.calls (rd l0_1 a9) 0 (wrap64 ((l0_0.length : Int) - 1)) true _ e9.out).mono ?_); rintro e w' ⟨rfl, ⟨nd, rfl⟩⟩; (try first | exact ⟨rfl, _, World.drewN_drewN _ _ _⟩ | exact ⟨rfl, _, Eq.trans (World.drewN_drewN _ _ _) (congrArg (World.drewN _) (Nat.add_assoc _ _ _))⟩))))
       go_roundg k2
       case measure => have := e1.out; have := HK2.out; omega
       case rel => exact ⟨(wrap64 (a9 + 1)), z1n_2, H', ⟨(by have := e1.out; have := HK2.out; omega)⟩, ⟨(xb a0.out)⟩, ⟨z1n_0⟩⟩
      obtain rfl := Option.some.inj H
      have a3 := cz20 a0.out
      have a4 := cz21 a0.out
      have a5 := blk_frozen a0.out 0
      have a6 := blk_frozen a0.out 1
      have b2 : 0 ≤ (a9 : Int) := oa_
      have q629 : a9 < (l0_1.length : Int) := oa_
      obtain ⟨ad629, e629, hx629_0⟩ := Kd.at_int HR0_1.out a9 b2 q629
      cases e629
      replace hx629_0 := (HB.out.cell (World.block_lt_of_cell? w _ hx629_0)).trans hx629_0
      replace b2 := eq_true b2
      replace q629 := eq_true q629
      go_wp2_with (first | (go_at_call 72; (with_reducible refine (spec_l1In.calls (rd l0_1 a9) 0 (wrap64 ((l0_0.length : Int) - 1)) false _ e9.out).mono ?_); rintro e w' ⟨rfl, ⟨nd, rfl⟩⟩; (try first | exact ⟨rfl, _, World.drewN_drewN _ _ _⟩ | exact ⟨rfl, _, Eq.trans (World.drewN_drewN _ _ _) (congrArg (World.drewN _) (Nat.add_assoc _ _ _))⟩)))
      repeat (go_quiet (first | (go_at_call 72; (with_reducible refine (spec_l1In.calls (rd l0_1 a9) 0 (wrap64 ((l0_0.length : Int) - 1)) false _ e9.out).mono ?_); rintro e w' ⟨rfl, ⟨nd, rfl⟩⟩; (try first | exact ⟨rfl, _, World.drewN_drewN _ _ _⟩ | exact ⟨rfl, _, Eq.trans (World.drewN_drewN _ _ _) (congrArg (World.drewN _) (Nat.add_assoc _ _ _))⟩))); try go_wp2_with (first | (go_at_call 72; (with_reducible refine (spec_l1In.calls (rd l0_1 a9) 0 (wrap64 ((l0_0.length : Int) - 1)) false _ e9.out).mono ?_); rintro e w' ⟨rfl, ⟨nd, rfl⟩⟩; (try first | exact ⟨rfl, _, World.drewN_drewN _ _ _⟩ | exact ⟨rfl, _, Eq.trans (World.drewN_drewN _ _ _) (congrArg (World.drewN _) (Nat.add_assoc _ _ _))⟩))))
      go_ret
      exact ⟨z1n_3, z1n_0⟩
     obtain ⟨⟨b3, e4⟩, g0, H⟩ := bd_ H
     try dsimp only at H
     have H' := ak H
     clear H
     have a3 := cz20 a0.out
     have a4 := cz21 a0.out
     have a5 := blk_frozen a0.out 0
     have a6 := blk_frozen a0.out 1
     go_wp2_with (first | (go_at_call 81; (with_reducible refine (spec_LeastOf.calls k2 _ _ l0_0 b3 e4 _ (y3 HR0_0.out HB.out) a8.out g0.out).mono ?_); rintro e w' ⟨rfl, ⟨nd, rfl⟩⟩; (try first | exact ⟨rfl, _, World.drewN_drewN _ _ _⟩ | exact ⟨rfl, _, Eq.trans (World.drewN_drewN _ _ _) (congrArg (World.drewN _) (Nat.add_assoc _ _ _))⟩)))
     repeat (go_quiet (first | (go_at_call 81; (with_reducible refine (spec_LeastOf.calls k2 _ _ l0_0 b3 e4 _ (y3 HR0_0.out HB.out) a8.out g0.out).mono ?_); rintro e w' ⟨rfl, ⟨nd, rfl⟩⟩; (try first | exact ⟨rfl, _, World.drewN_drewN _ _ _⟩ | exact ⟨rfl, _, Eq.trans (World.drewN_drewN _ _ _) (congrArg (World.drewN _) (Nat.add_assoc _ _ _))⟩))); try go_wp2_with (first | (go_at_call 81; (with_reducible refine (spec_LeastOf.calls k2 _ _ l0_0 b3 e4 _ (y3 HR0_0.out HB.out) a8.out g0.out).mono ?_); rintro e w' ⟨rfl, ⟨nd, rfl⟩⟩; (try first | exact ⟨rfl, _, World.drewN_drewN _ _ _⟩ | exact ⟨rfl, _, Eq.trans (World.drewN_drewN _ _ _) (congrArg (World.drewN _) (Nat.add_assoc _ _ _))⟩))))
     go_loopg [7] k2 (fun kq v7 w' => ∃ (a1 : Int), v7 = .int .i64 a1 ∧ Aside0 (spec_LogicOk.l1 kq (l0_0.length : Int) b3 a1 l0_0 l0_1 = some r) ∧ Aside0 (kq ≤ k2) ∧ Aside0 (w'.heap[a7]? = some (.cells #[(.slice A0_0 l0_0.length c0_0), (.slice A0_1 l0_1.length c0_1)] 27 (0, 0))) ∧ Aside0 (Below w.heap.size w w'))
     case atStart => exact ⟨(0), z1n_2, H', ⟨Nat.le_refl _⟩, ⟨(xb a0.out)⟩, ⟨z1n_0⟩⟩
     case round =>
      clear H'
      try clear c9
      try clear g6
      try clear d1
      try clear a3
      try clear a4
      try clear a5
      try clear a6
      obtain ⟨a1, rfl, HA, HK3, a0, HB⟩ := hrel
      cases gk with
      | zero => exact absurd HA.out (by simp [spec_LogicOk.l1])
      | succ k3 =>
       have H := HA.out
       clear HA
       simp only [spec_LogicOk.l1] at H
       replace H := os_ H
       rcases H with ⟨d5, H⟩ | ⟨d5, H⟩
       ·
        have e5 := ak H
        clear H
        go_upto_region 13 with (fail)
        repeat (go_quiet (fail); go_upto_region 13 with (fail))
        go_cut [71] (fun i2 wc => ∃ (kq : Nat) (b4 : Bool), i2 = .bool b4 ∧ Aside0 (spec_LogicOk.j3 kq (l0_0.length : Int) b3 a1 b4 l0_0 l0_1 = some r) ∧ Aside0 (kq ≤ k3) ∧ Aside0 (wc.heap[a7]? = some (.cells #[(.slice A0_0 l0_0.length c0_0), (.slice A0_1 l0_1.length c0_1)] 27 (0, 0))) ∧ Aside0 (Below w.heap.size w wc))
        case first =>
         have H := e5.out
         clear e5
         replace H := od_ H
         obtain ⟨e3, H⟩ := H
         (first | rw [e3] | (simp only [i64_w, i32_w]; rw [e3]) | skip)
         replace H := od3 H
         obtain ⟨g7, g8, g9, H⟩ := H
         replace H := oe2 H
         rcases H with ⟨⟨-, f1, f2⟩, H⟩ | ⟨⟨i4, f1, f2⟩, H⟩
         ·
          obtain ⟨d9, g1, H⟩ := bd_ H
          try dsimp only at H
          have H' := ak H
          clear H
          have a3 := cz20 a0.out
          have a4 := cz21 a0.out
          have a5 := blk_frozen a0.out 0
          have a6 := blk_frozen a0.out 1
          have b5 : 0 ≤ (a1 : Int) := oa_
          have q633 : a1 < (l0_1.length : Int) := oa_
          obtain ⟨ad633, e633, hx633_0⟩ := Kd.at_int HR0_1.out a1 b5 q633
          cases e633
          replace hx633_0 := (HB.out.cell (World.block_lt_of_cell? w _ hx633_0)).trans hx633_0
          replace b5 := eq_true b5
          replace q633 := eq_true q633
          have b6 : 0 ≤ ((rd l0_1 a1) : Int) := oa_
          have q634 : (rd l0_1 a1) < (l0_1.length : Int) := oa_
          obtain ⟨ad634, e634, hx634_0⟩ := Kd.at_int HR0_1.out (rd l0_1 a1) b6 q634
          obtain rfl := ij_ e634
          replace hx634_0 := (HB.out.cell (World.block_lt_of_cell? w _ hx634_0)).trans hx634_0
          replace b6 := eq_true b6
          replace q634 := eq_true q634
          have e6 : 0 ≤ (a1 : Int) := oa_
          have q635 : a1 < (l0_1.length : Int) := oa_
          obtain ⟨ad635, e635, hx635_0⟩ := Kd.at_int HR0_1.out a1 e6 q635
          obtain rfl := ij_ e635
          replace hx635_0 := (HB.out.cell (World.block_lt_of_cell? w _ hx635_0)).trans hx635_0
          replace e6 := eq_true e6
          replace q635 := eq_true q635
          go_wp2_with (first | (go_at_call 77; (with_reducible refine (spec_l1Meet.calls k3 _ _ l0_0 a1 (rd l0_1 a1) d9 _ (y3 HR0_0.out HB.out) a8.out g1.out).mono ?_); rintro e w' ⟨rfl, ⟨nd, rfl⟩⟩; (try first | exact ⟨rfl, _, World.drewN_drewN _ _ _⟩ | exact ⟨rfl, _, Eq.trans (World.drewN_drewN _ _ _) (congrArg (World.drewN _) (Nat.add_assoc _ _ _))⟩)))
          repeat (go_quiet (first | (go_at_call 77; (with_reducible refine (spec_l1Meet.calls k3 _ _ l0_0 a1 (rd l0_1 a1) d9 _ (y3 HR0_0.out HB.out) a8.out g1.out).mono ?_); rintro e w' ⟨rfl, ⟨nd, rfl⟩⟩; (try first | exact ⟨rfl, _, World.drewN_drewN _ _ _⟩ | exact ⟨rfl, _, Eq.trans (World.drewN_drewN _ _ _) (congrArg (World.drewN _) (Nat.add_assoc _ _ _))⟩))); try go_wp2_with (first | (go_at_call 77; (with_reducible refine (spec_l1Meet.calls k3 _ _ l0_0 a1 (rd l0_1 a1) d9 _ (y3 HR0_0.out HB.out) a8.out g1.out).mono ?_); rintro e w' ⟨rfl, ⟨nd, rfl⟩⟩; (try first | exact ⟨rfl, _, World.drewN_drewN _ _ _⟩ | exact ⟨rfl, _, Eq.trans (World.drewN_drewN _ _ _) (congrArg (World.drewN _) (Nat.add_assoc _ _ _))⟩))))
          go_meet
          case rel => exact ⟨_, ((d9 != b3)), z1n_2, H', ⟨(by have := e1.out; have := HK2.out; have := HK3.out; first | omega | exact Nat.le_refl _)⟩, ⟨(xb a0.out)⟩, ⟨z1n_0⟩⟩
         have H' := ak H
         clear H
         have a3 := cz20 a0.out
         have a4 := cz21 a0.out
         have a5 := blk_frozen a0.out 0
         have a6 := blk_frozen a0.out 1
         have b5 : 0 ≤ (a1 : Int) := oa_
         have q633 : a1 < (l0_1.length : Int) := oa_
         obtain ⟨ad633, e633, hx633_0⟩ := Kd.at_int HR0_1.out a1 b5 q633
         cases e633
         replace hx633_0 := (HB.out.cell (World.block_lt_of_cell? w _ hx633_0)).trans hx633_0
         replace b5 := eq_true b5
         replace q633 := eq_true q633
         have b6 : 0 ≤ ((rd l0_1 a1) : Int) := oa_
         have q634 : (rd l0_1 a1) < (l0_1.length : Int) := oa_
         obtain ⟨ad634, e634, hx634_0⟩ := Kd.at_int HR0_1.out (rd l0_1 a1) b6 q634
         obtain rfl := ij_ e634
         replace hx634_0 := (HB.out.cell (World.block_lt_of_cell? w _ hx634_0)).trans hx634_0
         replace b6 := eq_true b6
         replace q634 := eq_true q634
         go_wp2
         repeat (go_quiet (fail); try go_wp2)
         go_meet
         case rel => exact ⟨_, (true), z1n_2, H', ⟨(by have := e1.out; have := HK2.out; have := HK3.out; first | omega | exact Nat.le_refl _)⟩, ⟨(xb a0.out)⟩, ⟨z1n_0⟩⟩
        case rest =>
         clear e5
         try clear c9
         try clear g6
         try clear d1
         try clear i3
         try clear d5
         try clear a3
         try clear a4
         try clear a5
         try clear a6
         obtain ⟨kq, b4, rfl, HA, d8, a0, HB⟩ := hcut
         cases kq with
         | zero => exact absurd HA.out (by simp [spec_LogicOk.j3])
         | succ f3 =>
          have H := HA.out
          clear HA
          simp only [spec_LogicOk.j3] at H
          replace H := ox_ H
          rcases H with ⟨rfl, H⟩ | ⟨rfl, H⟩
          ·
           obtain rfl := Option.some.inj H
           go_wp2
           repeat (go_quiet (fail); try go_wp2)
           go_ret
           exact ⟨z1n_3, z1n_0⟩
          have H' := ak H
          clear H
          go_wp2
          repeat (go_quiet (fail); try go_wp2)
          go_loopg [8] f3 (fun kq v8 w' => ∃ (a2 : Int), v8 = .int .i64 a2 ∧ Aside0 (spec_LogicOk.l2 kq (l0_0.length : Int) b3 a1 a2 l0_0 l0_1 = some r) ∧ Aside0 (kq ≤ f3) ∧ Aside0 (w'.heap[a7]? = some (.cells #[(.slice A0_0 l0_0.length c0_0), (.slice A0_1 l0_1.length c0_1)] 27 (0, 0))) ∧ Aside0 (Below w.heap.size w w'))
          case atStart => exact ⟨(0), z1n_2, H', ⟨Nat.le_refl _⟩, ⟨(xb a0.out)⟩, ⟨z1n_0⟩⟩
          case round =>
           clear H'
           try clear c9
           try clear g6
           try clear d1
           try clear i3
           try clear d5
           try clear i5
           try clear a3
           try clear a4
           try clear a5
           try clear a6
           obtain ⟨a2, rfl, HA, HK5, a0, HB⟩ := hrel
           cases gk with
           | zero => exact absurd HA.out (by simp [spec_LogicOk.l2])
           | succ k5 =>
            have H := HA.out
            clear HA
            simp only [spec_LogicOk.l2] at H
            replace H := os_ H
            rcases H with ⟨f4, H⟩ | ⟨f4, H⟩
            ·
             replace H := od4 H
             obtain ⟨h0, h1, h2, h3, H⟩ := H
             replace H := oe2 H
             rcases H with ⟨⟨-, f5, f6⟩, H⟩ | ⟨⟨i6, f5, f6⟩, H⟩
             ·
              replace H := od6 H
              obtain ⟨h4, h5, h6, h7, h8, h9, H⟩ := H
              replace H := oe2 H
              rcases H with ⟨⟨-, f7, f8⟩, H⟩ | ⟨⟨i7, f7, f8⟩, H⟩
              ·
               obtain rfl := Option.some.inj H
               have a3 := cz20 a0.out
               have a4 := cz21 a0.out
               have a5 := blk_frozen a0.out 0
               have a6 := blk_frozen a0.out 1
               have b0 : 0 ≤ (a1 : Int) := oa_
               have q637 : a1 < (l0_0.length : Int) := oa_
               obtain ⟨ad637, d6, d7, e637, hx637_0, hl637_0, hi637_0⟩ := at_L1 HR0_0.out a1 b0 q637
               cases e637
               replace hx637_0 := (HB.out.cell (World.block_lt_of_cell? w _ hx637_0)).trans hx637_0
               have HR637_0 := ak hi637_0
               have d2 := ak hl637_0
               clear hi637_0 hl637_0
               replace b0 := eq_true b0
               replace q637 := eq_true q637
               have b1 : 0 ≤ (a2 : Int) := oa_
               have q638 : a2 < ((rd_L1 l0_0 a1).length : Int) := oa_
               obtain ⟨ad638, e638, hx638_0⟩ := Kd.at_int HR637_0.out a2 b1 q638
               cases e638
               replace hx638_0 := (HB.out.cell (World.block_lt_of_cell? w _ hx638_0)).trans hx638_0
               replace b1 := eq_true b1
               replace q638 := eq_true q638
               have b7 : 0 ≤ (a2 : Int) := oa_
               have q639 : a2 < (l0_1.length : Int) := oa_
               obtain ⟨ad639, e639, hx639_0⟩ := Kd.at_int HR0_1.out a2 b7 q639
               cases e639
               replace hx639_0 := (HB.out.cell (World.block_lt_of_cell? w _ hx639_0)).trans hx639_0
               replace b7 := eq_true b7
               replace q639 := eq_true q639
               have b8 : 0 ≤ ((rd l0_1 a2) : Int) := oa_
               have q640 : (rd l0_1 a2) < (l0_0.length : Int) := oa_
               obtain ⟨ad640, e7, e8, e640, hx640_0, hl640_0, hi640_0⟩ := at_L1 HR0_0.out (rd l0_1 a2) b8 q640
               obtain rfl := ij_ e640
               replace hx640_0 := (HB.out.cell (World.block_lt_of_cell? w _ hx640_0)).trans hx640_0
               have HR640_0 := ak hi640_0
               have e0 := ak hl640_0
               clear hi640_0 hl640_0
               replace b8 := eq_true b8
               replace q640 := eq_true q640
               have b9 : 0 ≤ (a1 : Int) := oa_
               have q641 : a1 < (l0_1.length : Int) := oa_
               obtain ⟨ad641, e641, hx641_0⟩ := Kd.at_int HR0_1.out a1 b9 q641
               obtain rfl := ij_ e641
               replace hx641_0 := (HB.out.cell (World.block_lt_of_cell? w _ hx641_0)).trans hx641_0
               replace b9 := eq_true b9
               replace q641 := eq_true q641
               have d0 : 0 ≤ ((rd l0_1 a1) : Int) := oa_
               have q642 : (rd l0_1 a1) < ((rd_L1 l0_0 (rd l0_1 a2)).length : Int) := oa_
               obtain ⟨ad642, e642, hx642_0⟩ := Kd.at_int HR640_0.out (rd l0_1 a1) d0 q642
               cases e642
               replace hx642_0 := (HB.out.cell (World.block_lt_of_cell? w _ hx642_0)).trans hx642_0
               replace d0 := eq_true d0
               replace q642 := eq_true q642
               go_wp2
               repeat (go_quiet (fail); try go_wp2)
               go_ret
               exact ⟨z1n_3, z1n_0⟩
              have H' := ak H
              clear H
              have a3 := cz20 a0.out
              have a4 := cz21 a0.out
              have a5 := blk_frozen a0.out 0
              have a6 := blk_frozen a0.out 1
              have b0 : 0 ≤ (a1 : Int) := oa_
              have q637 : a1 < (l0_0.length : Int) := oa_
              obtain ⟨ad637, d6, d7, e637, hx637_0, hl637_0, hi637_0⟩ := at_L1 HR0_0.out a1 b0 q637
              cases e637
              replace hx637_0 := (HB.out.cell (World.block_lt_of_cell? w _ hx637_0)).trans hx637_0
              have HR637_0 := ak hi637_0
              have d2 := ak hl637_0
              clear hi637_0 hl637_0
              replace b0 := eq_true b0
              replace q637 := eq_true q637
              have b1 : 0 ≤ (a2 : Int) := oa_
              have q638 : a2 < ((rd_L1 l0_0 a1).length : Int) := oa_
              obtain ⟨ad638, e638, hx638_0⟩ := Kd.at_int HR637_0.out a2 b1 q638
              cases e638
              replace hx638_0 := (HB.out.cell (World.block_lt_of_cell? w _ hx638_0)).trans hx638_0
              replace b1 := eq_true b1
              replace q638 := eq_true q638
              have b7 : 0 ≤ (a2 : Int) := oa_
              have q639 : a2 < (l0_1.length : Int) := oa_
              obtain ⟨ad639, e639, hx639_0⟩ := Kd.at_int HR0_1.out a2 b7 q639
              cases e639
              replace hx639_0 := (HB.out.cell (World.block_lt_of_cell? w _ hx639_0)).trans hx639_0
              replace b7 := eq_true b7
              replace q639 := eq_true q639
              have b8 : 0 ≤ ((rd l0_1 a2) : Int) := oa_
              have q640 : (rd l0_1 a2) < (l0_0.length : Int) := oa_
              obtain ⟨ad640, e7, e8, e640, hx640_0, hl640_0, hi640_0⟩ := at_L1 HR0_0.out (rd l0_1 a2) b8 q640
              obtain rfl := ij_ e640
              replace hx640_0 := (HB.out.cell (World.block_lt_of_cell? w _ hx640_0)).trans hx640_0
              have HR640_0 := ak hi640_0
              have e0 := ak hl640_0
              clear hi640_0 hl640_0
              replace b8 := eq_true b8
              replace q640 := eq_true q640
              have b9 : 0 ≤ (a1 : Int) := oa_
              have q641 : a1 < (l0_1.length : Int) := oa_
              obtain ⟨ad641, e641, hx641_0⟩ := Kd.at_int HR0_1.out a1 b9 q641
              obtain rfl := ij_ e641
              replace hx641_0 := (HB.out.cell (World.block_lt_of_cell? w _ hx641_0)).trans hx641_0
              replace b9 := eq_true b9
              replace q641 := eq_true q641
              have d0 : 0 ≤ ((rd l0_1 a1) : Int) := oa_
              have q642 : (rd l0_1 a1) < ((rd_L1 l0_0 (rd l0_1 a2)).length : Int) := oa_
              obtain ⟨ad642, e642, hx642_0⟩ := Kd.at_int HR640_0.out (rd l0_1 a1) d0 q642
              cases e642
              replace hx642_0 := (HB.out.cell (World.block_lt_of_cell? w _ hx642_0)).trans hx642_0
              replace d0 := eq_true d0
              replace q642 := eq_true q642
              go_wp2
              repeat (go_quiet (fail); try go_wp2)
              go_roundg k5
              case measure => have := e1.out; have := HK2.out; have := HK3.out; have := d8.out; have := HK5.out; omega
              case rel => exact ⟨(wrap64 (a2 + 1)), z1n_2, H', ⟨z1n_4⟩, ⟨(xb a0.out)⟩, ⟨z1n_0⟩⟩
             have H' := ak H
             clear H
             have a3 := cz20 a0.out
             have a4 := cz21 a0.out
             have a5 := blk_frozen a0.out 0
             have a6 := blk_frozen a0.out 1
             have b0 : 0 ≤ (a1 : Int) := oa_
             have q637 : a1 < (l0_0.length : Int) := oa_
             obtain ⟨ad637, d6, d7, e637, hx637_0, hl637_0, hi637_0⟩ := at_L1 HR0_0.out a1 b0 q637
             cases e637
             replace hx637_0 := (HB.out.cell (World.block_lt_of_cell? w _ hx637_0)).trans hx637_0
             have HR637_0 := ak hi637_0
             have d2 := ak hl637_0
             clear hi637_0 hl637_0
             replace b0 := eq_true b0
             replace q637 := eq_true q637
             have b1 : 0 ≤ (a2 : Int) := oa_
             have q638 : a2 < ((rd_L1 l0_0 a1).length : Int) := oa_
             obtain ⟨ad638, e638, hx638_0⟩ := Kd.at_int HR637_0.out a2 b1 q638
             cases e638
             replace hx638_0 := (HB.out.cell (World.block_lt_of_cell? w _ hx638_0)).trans hx638_0
             replace b1 := eq_true b1
             replace q638 := eq_true q638
             go_wp2
             repeat (go_quiet (fail); try go_wp2)
             go_roundg k5
             case measure => have := e1.out; have := HK2.out; have := HK3.out; have := d8.out; have := HK5.out; omega
             case rel => exact ⟨(wrap64 (a2 + 1)), z1n_2, H', ⟨z1n_4⟩, ⟨(xb a0.out)⟩, ⟨z1n_0⟩⟩
            have H' := ak H
            clear H
            go_wp2
            repeat (go_quiet (fail); try go_wp2)
            go_roundg k5
            case measure => have := e1.out; have := HK2.out; have := HK3.out; have := d8.out; have := HK5.out; omega
            case rel => exact ⟨(wrap64 (a1 + 1)), z1n_2, H', ⟨z1n_4⟩, ⟨(xb a0.out)⟩, ⟨z1n_0⟩⟩
       obtain rfl := Option.some.inj H
       go_wp2
       repeat (go_quiet (fail); try go_wp2)
       go_ret
       exact ⟨z1n_3, z1n_0⟩

end Go.Proofs.Ytacifhahfamipaa.P

namespace Go.Proofs.Ytacifhahfamipaa.P
open Go.RowKit Go.Proofs.YtacifhahfamipaaW.PrintWords Go.Proofs.YtacifhahfamipaaW.PrintLast Go.Proofs.YtacifhahfamipaaW.PrintMore
attribute [local go_sem] max2_int min2_int max_two min_two max_three min_three max_four min_four
set_option linter.unusedVariables false
set_option linter.unusedSimpArgs false
theorem z1w_2 {p : Prop} (h : p := by repeat (first | (with_reducible first | exact HB.out | apply below_alloc | apply pw_below_drewN | apply below_drew1) | exact HB.out)) : p := h
theorem z1w_1 {p : Prop} (h : p := by first | rfl | (simp; done) | (simp [*]; done)) : p := h
theorem z1w_0 {p : Prop} (h : p := by repeat (first | (with_reducible first | exact HB.out | apply below_alloc | apply pw_below_drewN | apply below_drew1 | refine below_set ?_ b9.out) | exact HB.out)) : p := h
set_option maxHeartbeats 8000000 in
set_option maxRecDepth 100000 in
theorem spec_SubOk.calls (k : Nat) (A0_0 : Option Addr) (c0_0 : Nat) (l0_0 : List (List Int)) (A0_1 : Option Addr) (c0_1 : Nat) (l0_1 : List Int) (a1 : Int) (r : Bool) (w : World) (hr0_0 : Kd.C (Kd.slice 3 (Kd.int .i64)) w A0_0 l0_0.length l0_0) (hc0_0 : l0_0.length ≤ c0_0) (hr0_1 : Kd.C (Kd.int .i64) w A0_1 l0_1.length l0_1) (hc0_1 : l0_1.length ≤ c0_1) (h : spec_SubOk.f k l0_0 l0_1 a1 = some r) :
 Calls Try.prog 36 #[.agg #[.slice A0_0 l0_0.length c0_0, .slice A0_1 l0_1.length c0_1], .int .i64 a1] w fun e w' => e = .returned (.bool r) ∧ Below w.heap.size w w' := by
 have hu27 := Try.underlying27
 have HR0_0 := ak hr0_0
 have b1 := ak hc0_0
 clear hr0_0 hc0_0
 have HR0_1 := ak hr0_1
 have b4 := ak hc0_1
 clear hr0_1 hc0_1
 have HB := ak (Below.refl w.heap.size w)
 have H : ((spec_LogicOk.f k l0_0 l0_1).bind fun d0 => (if d0 = true then ((spec_l1In.f a1 1 (wrap64 ((shl .i64 1 (l0_1.length : Int)) - 1))).bind fun b2 => (spec_SubOk.j0 k a1 (l0_1.length : Int) (!b2) l0_0 l0_1)) else (spec_SubOk.j0 k a1 (l0_1.length : Int) true l0_0 l0_1))) = some r := h
 clear h
 have e1 := ak H
 clear H
 go_enter Try.func36, Try.ntmps36
 go_upto_region 2 with (first | ((with_reducible refine gate_dst (N := 2) rfl ?_); refine bx_ (N := 2) (cs := #[.slice A0_0 l0_0.length c0_0, .slice A0_1 l0_1.length c0_1]) (t := 27) ?_; intro a8 hg w4 hbox hb; have a0 := ak (hbox); have e6 := ak ((by rw [hg]; exact (below_size z1w_2) : w.heap.size ≤ a8)); have b9 := ak ((by rw [hg]; exact (below_size z1w_2) : w.heap.size ≤ a8)); replace HB := ak (below_step z1w_2 hb); clear hb hbox hg; have a4 := cz20 a0.out; have a5 := cz21 a0.out; have a6 := blk_frozen a0.out 0; have a7 := blk_frozen a0.out 1))
 (try simp only [Act.put, List.setIfInBounds_toArray, List.set_cons_zero, List.set_cons_succ])
 go_cut [21] (fun f6 wc => ∃ (kq : Nat) (b3 : Bool), f6 = .bool b3 ∧ Aside0 (spec_SubOk.j0 kq a1 (l0_1.length : Int) b3 l0_0 l0_1 = some r) ∧ Aside0 (kq ≤ k) ∧ Aside0 (wc.heap[a8]? = some (.cells #[(.slice A0_0 l0_0.length c0_0), (.slice A0_1 l0_1.length c0_1)] 27 (0, 0))) ∧ Aside0 (Below w.heap.size w wc))
 case first =>
  have H := e1.out
  clear e1
  obtain ⟨d0, A6, H⟩ := bd_ H
  try dsimp only at H
  replace H := ox_ H
  rcases H with ⟨rfl, H⟩ | ⟨rfl, H⟩
  ·
   obtain ⟨ji8, hji8⟩ : ∃ j_ : Int, (shl .i64 1 (l0_1.length : Int)) = j_ := ⟨_, rfl⟩
   replace H : ((spec_l1In.f a1 1 (wrap64 ((ji8) - 1))).bind fun b2 => (spec_SubOk.j0 k a1 (l0_1.length : Int) (!b2) l0_0 l0_1)) = some r := by first | (rw [hji8] at H; exact H) | (simp only [hji8] at H ⊢; exact H)
   (try rw [hji8] at A6)
   have hji8_ : (IntKind.i64.wrap (1 * 2 ^ min (l0_1.length : Int).toNat 64)) = ji8 := hji8
   have hji8z : (l0_1.length : Int) ≤ 64 → (IntKind.i64.wrap (1 * 2 ^ (l0_1.length : Int).toNat)) = ji8 := shl_small hji8
   have hji8p : (IntKind.i64.wrap (1 * 2 ^ min l0_1.length 64)) = ji8 := hji8_
   have hji8q : (l0_1.length : Int) ≤ 64 → (IntKind.i64.wrap (1 * 2 ^ l0_1.length)) = ji8 := hji8z
   have hji8r : (IntKind.i64.wrap (2 ^ min l0_1.length 64)) = ji8 := by have h_ := hji8p; rw [Int.one_mul] at h_; exact h_
   have hji8s : (l0_1.length : Int) ≤ 64 → (IntKind.i64.wrap (2 ^ l0_1.length)) = ji8 := fun hle_ => by have h_ := hji8q hle_; rw [Int.one_mul] at h_; exact h_
   have hji8u : (IntKind.i64.wrap (2 ^ min (l0_1.length : Int).toNat 64)) = ji8 := by have h_ := hji8_; rw [Int.one_mul] at h_; exact h_
   have hji8v : (l0_1.length : Int) ≤ 64 → (IntKind.i64.wrap (2 ^ (l0_1.length : Int).toNat)) = ji8 := fun hle_ => by have h_ := hji8z hle_; rw [Int.one_mul] at h_; exact h_
   have hji8y : (wrap64 (1 * 2 ^ min (l0_1.length : Int).toNat 64)) = ji8 := (i64_w _).symm.trans hji8_
   have hji8x : (l0_1.length : Int) ≤ 64 → (wrap64 (1 * 2 ^ (l0_1.length : Int).toNat)) = ji8 := fun h_ => (i64_w _).symm.trans (hji8z h_)
   obtain ⟨b2, A9, H⟩ := bd_ H
   try dsimp only at H
   have H' := ak H
   clear H
   have a4 := cz20 a0.out
   have a5 := cz21 a0.out
   have a6 := blk_frozen a0.out 0
   have a7 := blk_frozen a0.out 1
   go_wp2_with (first | ((with_reducible refine gate_callee (f := 30) rfl ?_); refine gl_ (some 12) Try.func30 #[.agg #[.slice A0_0 l0_0.length c0_0, .slice A0_1 l0_1.length c0_1]] ?_; (with_reducible refine (spec_LogicOk.calls k _ _ l0_0 _ _ l0_1 true _ (y3 HR0_0.out HB.out) b1.out (y3 HR0_1.out HB.out) b4.out A6.out).mono ?_); rintro e w' ⟨rfl, hb⟩; refine ⟨_, rfl, ?_⟩; replace a0 := ak (blk_below (g := a8) (o := .cells #[.slice A0_0 l0_0.length c0_0, .slice A0_1 l0_1.length c0_1] 27 (0, 0)) (xb a0.out) hb); replace HB := ak (below_step z1w_0 hb); (try clear hb); (try clear hb2); (try clear hk); (try clear hi)) | (go_at_call 72; (with_reducible refine (spec_l1In.calls a1 1 (wrap64 ((ji8) - 1)) b2 _ A9.out).mono ?_); rintro e w' ⟨rfl, ⟨nd, rfl⟩⟩))
   go_meet
   case rel => exact ⟨_, (!b2), z1w_1, H', ⟨(by first | omega | exact Nat.le_refl _)⟩, ⟨(xb a0.out)⟩, ⟨z1w_0⟩⟩
  have H' := ak H
  clear H
  have a4 := cz20 a0.out
  have a5 := cz21 a0.out
  have a6 := blk_frozen a0.out 0
  have a7 := blk_frozen a0.out 1
  go_wp2_with (first | ((with_reducible refine gate_callee (f := 30) rfl ?_); refine gl_ (some 12) Try.func30 #[.agg #[.slice A0_0 l0_0.length c0_0, .slice A0_1 l0_1.length c0_1]] ?_; (with_reducible refine (spec_LogicOk.calls k _ _ l0_0 _ _ l0_1 false _ (y3 HR0_0.out HB.out) b1.out (y3 HR0_1.out HB.out) b4.out A6.out).mono ?_); rintro e w' ⟨rfl, hb⟩; refine ⟨_, rfl, ?_⟩; replace a0 := ak (blk_below (g := a8) (o := .cells #[.slice A0_0 l0_0.length c0_0, .slice A0_1 l0_1.length c0_1] 27 (0, 0)) (xb a0.out) hb); replace HB := ak (below_step z1w_0 hb); (try clear hb); (try clear hb2); (try clear hk); (try clear hi)))
  go_meet
  case rel => exact ⟨_, (true), z1w_1, H', ⟨(by first | omega | exact Nat.le_refl _)⟩, ⟨(xb a0.out)⟩, ⟨z1w_0⟩⟩
 case rest =>
  clear e1
  try clear a4
  try clear a5
  try clear a6
  try clear a7
  obtain ⟨kq, b3, rfl, HA, b5, a0, HB⟩ := hcut
  cases kq with
  | zero => exact absurd HA.out (by simp [spec_SubOk.j0])
  | succ e7 =>
   have H := HA.out
   clear HA
   simp only [spec_SubOk.j0] at H
   replace H := ox_ H
   rcases H with ⟨rfl, H⟩ | ⟨rfl, H⟩
   ·
    obtain rfl := Option.some.inj H
    go_wp2
    go_ret
    exact ⟨(by first | rfl | (simp [errW_none, errW_some] <;> rfl) | (simp [*, errW_none, errW_some] <;> rfl)), z1w_0⟩
   have H' := ak H
   clear H
   go_wp2
   go_loopg [6] e7 (fun kq v6 w' => ∃ (a2 : Int), v6 = .int .i64 a2 ∧ Aside0 (spec_SubOk.l0 kq a1 (l0_1.length : Int) a2 l0_0 l0_1 = some r) ∧ Aside0 (kq ≤ e7) ∧ Aside0 (w'.heap[a8]? = some (.cells #[(.slice A0_0 l0_0.length c0_0), (.slice A0_1 l0_1.length c0_1)] 27 (0, 0))) ∧ Aside0 (Below w.heap.size w w'))
   case atStart => exact ⟨(0), z1w_1, H', ⟨Nat.le_refl _⟩, ⟨(xb a0.out)⟩, ⟨z1w_0⟩⟩
   case round =>
    clear H'
    try clear f7
    try clear a4
    try clear a5
    try clear a6
    try clear a7
    obtain ⟨a2, rfl, HA, HK2, a0, HB⟩ := hrel
    cases gk with
    | zero => exact absurd HA.out (by simp [spec_SubOk.l0])
    | succ k2 =>
     have H := HA.out
     clear HA
     simp only [spec_SubOk.l0] at H
     replace H := os_ H
     rcases H with ⟨b6, H⟩ | ⟨b6, H⟩
     ·
      replace H := ok_ H
      obtain ⟨e0, H⟩ := H
      have d1 := eq_true e0
      have d2 : decide (0 ≤ a2) = true := dT_ e0
      clear e0
      obtain ⟨ji17, hji17⟩ : ∃ j_ : Int, (shr .i64 a1 a2) = j_ := ⟨_, rfl⟩
      replace H : (if (Int.tmod (ji17) 2) = 0 then (spec_SubOk.l0 k2 a1 (l0_1.length : Int) (wrap64 (a2 + 1)) l0_0 l0_1) else (spec_SubOk.l1 k2 a1 (l0_1.length : Int) a2 0 l0_0 l0_1)) = some r := by first | (rw [hji17] at H; exact H) | (simp only [hji17] at H ⊢; exact H)
      have hji17_ : (a1 / 2 ^ min a2.toNat 64) = ji17 := hji17
      have hji17z : a2 ≤ 64 → (a1 / 2 ^ a2.toNat) = ji17 := shr_small hji17
      replace H := oe2 H
      rcases H with ⟨⟨-, b7, b8⟩, H⟩ | ⟨⟨f8, b7, b8⟩, H⟩
      ·
       have H' := ak H
       clear H
       go_wp2
       go_roundg k2
       case measure => have := b5.out; have := HK2.out; omega
       case rel => exact ⟨(wrap64 (a2 + 1)), z1w_1, H', ⟨(by have := b5.out; have := HK2.out; omega)⟩, ⟨(xb a0.out)⟩, ⟨z1w_0⟩⟩
      have H' := ak H
      clear H
      go_wp2
      go_loopg [7] k2 (fun kq v7 w' => ∃ (a3 : Int), v7 = .int .i64 a3 ∧ Aside0 (spec_SubOk.l1 kq a1 (l0_1.length : Int) a2 a3 l0_0 l0_1 = some r) ∧ Aside0 (kq ≤ k2) ∧ Aside0 (w'.heap[a8]? = some (.cells #[(.slice A0_0 l0_0.length c0_0), (.slice A0_1 l0_1.length c0_1)] 27 (0, 0))) ∧ Aside0 (Below w.heap.size w w'))
      case atStart => exact ⟨(0), z1w_1, H', ⟨Nat.le_refl _⟩, ⟨(xb a0.out)⟩, ⟨z1w_0⟩⟩
      case round =>
       clear H'
       try clear f7
       try clear f9
       try clear b6
       try clear e0
       try clear d1
       try clear d2
       try clear f8
       try clear b7
       try clear b8
       try clear a4
       try clear a5
       try clear a6
       try clear a7
       obtain ⟨a3, rfl, HA, HK3, a0, HB⟩ := hrel
       cases gk with
       | zero => exact absurd HA.out (by simp [spec_SubOk.l1])
       | succ k3 =>
        have H := HA.out
        clear HA
        simp only [spec_SubOk.l1] at H
        replace H := os_ H
        rcases H with ⟨d3, H⟩ | ⟨d3, H⟩
        ·
         replace H := ok_ H
         obtain ⟨e2, H⟩ := H
         have e8 := eq_true e2
         have e9 : decide (0 ≤ a3) = true := dT_ e2
         clear e2
         obtain ⟨ji21, hji21⟩ : ∃ j_ : Int, (shr .i64 a1 a3) = j_ := ⟨_, rfl⟩
         replace H : (if (Int.tmod (ji21) 2) = 1 then ((spec_l1Meet.f k3 l0_0 a2 a3).bind fun a9 => (if 0 ≤ a9 then (if (Int.tmod (shr .i64 a1 a9) 2) = 0 then (some false) else (spec_SubOk.l1 k3 a1 (l0_1.length : Int) a2 (wrap64 (a3 + 1)) l0_0 l0_1)) else (none))) else (spec_SubOk.l1 k3 a1 (l0_1.length : Int) a2 (wrap64 (a3 + 1)) l0_0 l0_1)) = some r := by first | (rw [hji21] at H; exact H) | (simp only [hji21] at H ⊢; exact H)
         have hji21_ : (a1 / 2 ^ min a3.toNat 64) = ji21 := hji21
         have hji21z : a3 ≤ 64 → (a1 / 2 ^ a3.toNat) = ji21 := shr_small hji21
         replace H := oe2 H
         rcases H with ⟨⟨-, d4, d5⟩, H⟩ | ⟨⟨g0, d4, d5⟩, H⟩
         ·
          obtain ⟨a9, e3, H⟩ := bd_ H
          replace H := ok_ H
          obtain ⟨e4, H⟩ := H
          have f0 := eq_true e4
          have f1 : decide (0 ≤ a9) = true := dT_ e4
          clear e4
          obtain ⟨ji25, hji25⟩ : ∃ j_ : Int, (shr .i64 a1 a9) = j_ := ⟨_, rfl⟩
          replace H : (if (Int.tmod (ji25) 2) = 0 then (some false) else (spec_SubOk.l1 k3 a1 (l0_1.length : Int) a2 (wrap64 (a3 + 1)) l0_0 l0_1)) = some r := by first | (rw [hji25] at H; exact H) | (simp only [hji25] at H ⊢; exact H)
          (try rw [hji25] at e3)
          have hji25_ : (a1 / 2 ^ min a9.toNat 64) = ji25 := hji25
          have hji25z : a9 ≤ 64 → (a1 / 2 ^ a9.toNat) = ji25 := shr_small hji25
          replace H := oe2 H
          rcases H with ⟨⟨-, d6, d7⟩, H⟩ | ⟨⟨g1, d6, d7⟩, H⟩
          ·
           obtain rfl := Option.some.inj H
           have a4 := cz20 a0.out
           have a5 := cz21 a0.out
           have a6 := blk_frozen a0.out 0
           have a7 := blk_frozen a0.out 1
           go_wp2_with (first | (go_at_call 77; (with_reducible refine (spec_l1Meet.calls k3 _ _ l0_0 a2 a3 a9 _ (y3 HR0_0.out HB.out) b1.out e3.out).mono ?_); rintro e w' ⟨rfl, ⟨nd, rfl⟩⟩))
           go_ret
           exact ⟨(by first | rfl | (simp [errW_none, errW_some] <;> rfl) | (simp only [← hji17, ← hji21, ← hji25]; first | rfl | (simp [errW_none, errW_some] <;> rfl)) | (simp [*, errW_none, errW_some] <;> rfl)), z1w_0⟩
          have H' := ak H
          clear H
          have a4 := cz20 a0.out
          have a5 := cz21 a0.out
          have a6 := blk_frozen a0.out 0
          have a7 := blk_frozen a0.out 1
          go_wp2_with (first | (go_at_call 77; (with_reducible refine (spec_l1Meet.calls k3 _ _ l0_0 a2 a3 a9 _ (y3 HR0_0.out HB.out) b1.out e3.out).mono ?_); rintro e w' ⟨rfl, ⟨nd, rfl⟩⟩))
          go_roundg k3
          case measure => have := b5.out; have := HK2.out; have := HK3.out; omega
          case rel => exact ⟨(wrap64 (a3 + 1)), z1w_1, H', ⟨(by have := b5.out; have := HK2.out; have := HK3.out; omega)⟩, ⟨(xb a0.out)⟩, ⟨z1w_0⟩⟩
         have H' := ak H
         clear H
         go_wp2
         go_roundg k3
         case measure => have := b5.out; have := HK2.out; have := HK3.out; omega
         case rel => exact ⟨(wrap64 (a3 + 1)), z1w_1, H', ⟨(by have := b5.out; have := HK2.out; have := HK3.out; omega)⟩, ⟨(xb a0.out)⟩, ⟨z1w_0⟩⟩
        replace H := od2 H
        obtain ⟨f2, f3, H⟩ := H
        replace H := ok_ H
        obtain ⟨e5, H⟩ := H
        have f4 := eq_true e5
        have f5 : decide (0 ≤ (rd l0_1 a2)) = true := dT_ e5
        clear e5
        obtain ⟨ji32, hji32⟩ : ∃ j_ : Int, (shr .i64 a1 (rd l0_1 a2)) = j_ := ⟨_, rfl⟩
        replace H : (if (Int.tmod (ji32) 2) = 0 then (some false) else (spec_SubOk.l0 k3 a1 (l0_1.length : Int) (wrap64 (a2 + 1)) l0_0 l0_1)) = some r := by first | (rw [hji32] at H; exact H) | (simp only [hji32] at H ⊢; exact H)
        have hji32_ : (a1 / 2 ^ min (rd l0_1 a2).toNat 64) = ji32 := hji32
        have hji32z : (rd l0_1 a2) ≤ 64 → (a1 / 2 ^ (rd l0_1 a2).toNat) = ji32 := shr_small hji32
        replace H := oe2 H
        rcases H with ⟨⟨-, d8, d9⟩, H⟩ | ⟨⟨g2, d8, d9⟩, H⟩
        ·
         obtain rfl := Option.some.inj H
         have a4 := cz20 a0.out
         have a5 := cz21 a0.out
         have a6 := blk_frozen a0.out 0
         have a7 := blk_frozen a0.out 1
         have b0 : 0 ≤ (a2 : Int) := oa_
         have q694 : a2 < (l0_1.length : Int) := oa_
         obtain ⟨ad694, e694, hx694_0⟩ := Kd.at_int HR0_1.out a2 b0 q694
         cases e694
         replace hx694_0 := (HB.out.cell (World.block_lt_of_cell? w _ hx694_0)).trans hx694_0
         replace b0 := eq_true b0
         replace q694 := eq_true q694
         go_wp2
         go_ret
         exact ⟨(by first | rfl | (simp [errW_none, errW_some] <;> rfl) | (simp only [← hji17, ← hji32]; first | rfl | (simp [errW_none, errW_some] <;> rfl)) | (simp [*, errW_none, errW_some] <;> rfl)), z1w_0⟩
        have H' := ak H
        clear H
        have a4 := cz20 a0.out
        have a5 := cz21 a0.out
        have a6 := blk_frozen a0.out 0
        have a7 := blk_frozen a0.out 1
        have b0 : 0 ≤ (a2 : Int) := oa_
        have q694 : a2 < (l0_1.length : Int) := oa_
        obtain ⟨ad694, e694, hx694_0⟩ := Kd.at_int HR0_1.out a2 b0 q694
        cases e694
        replace hx694_0 := (HB.out.cell (World.block_lt_of_cell? w _ hx694_0)).trans hx694_0
        replace b0 := eq_true b0
        replace q694 := eq_true q694
        go_wp2
        go_roundg k3
        case measure => have := b5.out; have := HK2.out; have := HK3.out; omega
        case rel => exact ⟨(wrap64 (a2 + 1)), z1w_1, H', ⟨(by have := b5.out; have := HK2.out; have := HK3.out; omega)⟩, ⟨(xb a0.out)⟩, ⟨z1w_0⟩⟩
     obtain rfl := Option.some.inj H
     go_wp2
     go_ret
     exact ⟨(by first | rfl | (simp [errW_none, errW_some] <;> rfl) | (simp [*, errW_none, errW_some] <;> rfl)), z1w_0⟩

end Go.Proofs.Ytacifhahfamipaa.P

namespace Go.Proofs.Ytacifhahfamipaa.P
open Go.RowKit Go.Proofs.YtacifhahfamipaaW.PrintWords Go.Proofs.YtacifhahfamipaaW.PrintLast Go.Proofs.YtacifhahfamipaaW.PrintMore
attribute [local go_sem] max2_int min2_int max_two min_two max_three min_three max_four min_four
set_option linter.unusedVariables false
set_option linter.unusedSimpArgs false
theorem z1o_3 {p : Prop} (h : p := by have := d1.out; have := HK2.out; have := HK3.out; have := HK4.out; omega) : p := h
theorem z1o_2 {p : Prop} (h : p := by first | rfl | (simp; done) | (simp [*]; done)) : p := h
theorem z1o_1 {p : Prop} (h : p := by repeat (first | (with_reducible first | exact HB.out | apply below_alloc | apply pw_below_drewN | apply below_drew1) | exact HB.out)) : p := h
theorem z1o_0 {p : Prop} (h : p := by repeat (first | (with_reducible first | exact HB.out | apply below_alloc | apply pw_below_drewN | apply below_drew1 | refine below_set ?_ b6.out) | exact HB.out)) : p := h
set_option maxHeartbeats 8000000 in
set_option maxRecDepth 100000 in
theorem spec_MadeBy.calls (k : Nat) (A0_0 : Option Addr) (c0_0 : Nat) (l0_0 : List (List Int)) (A0_1 : Option Addr) (c0_1 : Nat) (l0_1 : List Int) (a1 : Int) (r : Int) (w : World) (hr0_0 : Kd.C (Kd.slice 3 (Kd.int .i64)) w A0_0 l0_0.length l0_0) (hc0_0 : l0_0.length ≤ c0_0) (hr0_1 : Kd.C (Kd.int .i64) w A0_1 l0_1.length l0_1) (hc0_1 : l0_1.length ≤ c0_1) (h : spec_MadeBy.f k l0_0 l0_1 a1 = some r) :
 Calls Try.prog 33 #[.agg #[.slice A0_0 l0_0.length c0_0, .slice A0_1 l0_1.length c0_1], .int .i64 a1] w fun e w' => e = .returned (.int .i64 r) ∧ Below w.heap.size w w' := by
 have hu27 := Try.underlying27
 have HR0_0 := ak hr0_0
 have a6 := ak hc0_0
 clear hr0_0 hc0_0
 have HR0_1 := ak hr0_1
 have a8 := ak hc0_1
 clear hr0_1 hc0_1
 have HB := ak (Below.refl w.heap.size w)
 have H : ((spec_LogicOk.f k l0_0 l0_1).bind fun d3 => (if d3 = true then ((spec_l1In.f a1 1 (wrap64 ((shl .i64 1 (l0_1.length : Int)) - 1))).bind fun b5 => (spec_MadeBy.j0 k a1 (l0_1.length : Int) (!b5) l0_0 l0_1)) else (spec_MadeBy.j0 k a1 (l0_1.length : Int) true l0_0 l0_1))) = some r := h
 clear h
 have e0 := ak H
 clear H
 go_enter Try.func33, Try.ntmps33
 go_upto_region 2 with (first | ((with_reducible refine gate_dst (N := 2) rfl ?_); refine bx_ (N := 2) (cs := #[.slice A0_0 l0_0.length c0_0, .slice A0_1 l0_1.length c0_1]) (t := 27) ?_; intro a3 hg w4 hbox hb; have a0 := ak (hbox); have b9 := ak ((by rw [hg]; exact (below_size z1o_1) : w.heap.size ≤ a3)); have b6 := ak ((by rw [hg]; exact (below_size z1o_1) : w.heap.size ≤ a3)); replace HB := ak (below_step z1o_1 hb); clear hb hbox hg; have a9 := cz20 a0.out; have b0 := cz21 a0.out; have b1 := blk_frozen a0.out 0; have b2 := blk_frozen a0.out 1))
 repeat (go_quiet (first | ((with_reducible refine gate_dst (N := 2) rfl ?_); refine bx_ (N := 2) (cs := #[.slice A0_0 l0_0.length c0_0, .slice A0_1 l0_1.length c0_1]) (t := 27) ?_; intro a3 hg w4 hbox hb; have a0 := ak (hbox); have b9 := ak ((by rw [hg]; exact (below_size z1o_1) : w.heap.size ≤ a3)); have b6 := ak ((by rw [hg]; exact (below_size z1o_1) : w.heap.size ≤ a3)); replace HB := ak (below_step z1o_1 hb); clear hb hbox hg; have a9 := cz20 a0.out; have b0 := cz21 a0.out; have b1 := blk_frozen a0.out 0; have b2 := blk_frozen a0.out 1)); go_upto_region 2 with (first | ((with_reducible refine gate_dst (N := 2) rfl ?_); refine bx_ (N := 2) (cs := #[.slice A0_0 l0_0.length c0_0, .slice A0_1 l0_1.length c0_1]) (t := 27) ?_; intro a3 hg w4 hbox hb; have a0 := ak (hbox); have b9 := ak ((by rw [hg]; exact (below_size z1o_1) : w.heap.size ≤ a3)); have b6 := ak ((by rw [hg]; exact (below_size z1o_1) : w.heap.size ≤ a3)); replace HB := ak (below_step z1o_1 hb); clear hb hbox hg; have a9 := cz20 a0.out; have b0 := cz21 a0.out; have b1 := blk_frozen a0.out 0; have b2 := blk_frozen a0.out 1)))
 (try simp only [Act.put, List.setIfInBounds_toArray, List.set_cons_zero, List.set_cons_succ])
 go_cut [23] (fun g0 wc => ∃ (kq : Nat) (b7 : Bool), g0 = .bool b7 ∧ Aside0 (spec_MadeBy.j0 kq a1 (l0_1.length : Int) b7 l0_0 l0_1 = some r) ∧ Aside0 (kq ≤ k) ∧ Aside0 (wc.heap[a3]? = some (.cells #[(.slice A0_0 l0_0.length c0_0), (.slice A0_1 l0_1.length c0_1)] 27 (0, 0))) ∧ Aside0 (Below w.heap.size w wc))
 case first =>
  have H := e0.out
  clear e0
  obtain ⟨d3, A6, H⟩ := bd_ H
  try dsimp only at H
  replace H := ox_ H
  rcases H with ⟨rfl, H⟩ | ⟨rfl, H⟩
  ·
   obtain ⟨ji8, hji8⟩ : ∃ j_ : Int, (shl .i64 1 (l0_1.length : Int)) = j_ := ⟨_, rfl⟩
   replace H : ((spec_l1In.f a1 1 (wrap64 ((ji8) - 1))).bind fun b5 => (spec_MadeBy.j0 k a1 (l0_1.length : Int) (!b5) l0_0 l0_1)) = some r := by first | (rw [hji8] at H; exact H) | (simp only [hji8] at H ⊢; exact H)
   (try rw [hji8] at A6)
   have hji8_ : (IntKind.i64.wrap (1 * 2 ^ min (l0_1.length : Int).toNat 64)) = ji8 := hji8
   have hji8z : (l0_1.length : Int) ≤ 64 → (IntKind.i64.wrap (1 * 2 ^ (l0_1.length : Int).toNat)) = ji8 := shl_small hji8
   have hji8p : (IntKind.i64.wrap (1 * 2 ^ min l0_1.length 64)) = ji8 := hji8_
   have hji8q : (l0_1.length : Int) ≤ 64 → (IntKind.i64.wrap (1 * 2 ^ l0_1.length)) = ji8 := hji8z
   have hji8r : (IntKind.i64.wrap (2 ^ min l0_1.length 64)) = ji8 := by have h_ := hji8p; rw [Int.one_mul] at h_; exact h_
   have hji8s : (l0_1.length : Int) ≤ 64 → (IntKind.i64.wrap (2 ^ l0_1.length)) = ji8 := fun hle_ => by have h_ := hji8q hle_; rw [Int.one_mul] at h_; exact h_
   have hji8u : (IntKind.i64.wrap (2 ^ min (l0_1.length : Int).toNat 64)) = ji8 := by have h_ := hji8_; rw [Int.one_mul] at h_; exact h_
   have hji8v : (l0_1.length : Int) ≤ 64 → (IntKind.i64.wrap (2 ^ (l0_1.length : Int).toNat)) = ji8 := fun hle_ => by have h_ := hji8z hle_; rw [Int.one_mul] at h_; exact h_
   have hji8y : (wrap64 (1 * 2 ^ min (l0_1.length : Int).toNat 64)) = ji8 := (i64_w _).symm.trans hji8_
   have hji8x : (l0_1.length : Int) ≤ 64 → (wrap64 (1 * 2 ^ (l0_1.length : Int).toNat)) = ji8 := fun h_ => (i64_w _).symm.trans (hji8z h_)
   obtain ⟨b5, A9, H⟩ := bd_ H
   try dsimp only at H
   have H' := ak H
   clear H
   have a9 := cz20 a0.out
   have b0 := cz21 a0.out
   have b1 := blk_frozen a0.out 0
   have b2 := blk_frozen a0.out 1
   go_wp2_with (first | (go_at_call 30; (with_reducible refine (spec_LogicOk.calls k _ _ l0_0 _ _ l0_1 true _ (y3 HR0_0.out HB.out) a6.out (y3 HR0_1.out HB.out) a8.out A6.out).mono ?_); rintro e e5 ⟨rfl, hb⟩; replace a0 := ak (blk_below (g := a3) (o := .cells #[.slice A0_0 l0_0.length c0_0, .slice A0_1 l0_1.length c0_1] 27 (0, 0)) (xb a0.out) hb); replace HB := ak (below_step z1o_0 hb); (try clear hb); (try clear hb2); (try clear hk); (try clear hi)) | (go_at_call 72; (with_reducible refine (spec_l1In.calls a1 1 (wrap64 ((ji8) - 1)) b5 _ A9.out).mono ?_); rintro e w' ⟨rfl, ⟨nd, rfl⟩⟩; (try first | exact ⟨rfl, _, World.drewN_drewN _ _ _⟩ | exact ⟨rfl, _, Eq.trans (World.drewN_drewN _ _ _) (congrArg (World.drewN _) (Nat.add_assoc _ _ _))⟩)))
   repeat (go_quiet (first | (go_at_call 30; (with_reducible refine (spec_LogicOk.calls k _ _ l0_0 _ _ l0_1 true _ (y3 HR0_0.out HB.out) a6.out (y3 HR0_1.out HB.out) a8.out A6.out).mono ?_); rintro e e5 ⟨rfl, hb⟩; replace a0 := ak (blk_below (g := a3) (o := .cells #[.slice A0_0 l0_0.length c0_0, .slice A0_1 l0_1.length c0_1] 27 (0, 0)) (xb a0.out) hb); replace HB := ak (below_step z1o_0 hb); (try clear hb); (try clear hb2); (try clear hk); (try clear hi)) | (go_at_call 72; (with_reducible refine (spec_l1In.calls a1 1 (wrap64 ((ji8) - 1)) b5 _ A9.out).mono ?_); rintro e w' ⟨rfl, ⟨nd, rfl⟩⟩; (try first | exact ⟨rfl, _, World.drewN_drewN _ _ _⟩ | exact ⟨rfl, _, Eq.trans (World.drewN_drewN _ _ _) (congrArg (World.drewN _) (Nat.add_assoc _ _ _))⟩))); try go_wp2_with (first | (go_at_call 30; (with_reducible refine (spec_LogicOk.calls k _ _ l0_0 _ _ l0_1 true _ (y3 HR0_0.out HB.out) a6.out (y3 HR0_1.out HB.out) a8.out A6.out).mono ?_); rintro e e5 ⟨rfl, hb⟩; replace a0 := ak (blk_below (g := a3) (o := .cells #[.slice A0_0 l0_0.length c0_0, .slice A0_1 l0_1.length c0_1] 27 (0, 0)) (xb a0.out) hb); replace HB := ak (below_step z1o_0 hb); (try clear hb); (try clear hb2); (try clear hk); (try clear hi)) | (go_at_call 72; (with_reducible refine (spec_l1In.calls a1 1 (wrap64 ((ji8) - 1)) b5 _ A9.out).mono ?_); rintro e w' ⟨rfl, ⟨nd, rfl⟩⟩; (try first | exact ⟨rfl, _, World.drewN_drewN _ _ _⟩ | exact ⟨rfl, _, Eq.trans (World.drewN_drewN _ _ _) (congrArg (World.drewN _) (Nat.add_assoc _ _ _))⟩))))
   go_meet
   case rel => exact ⟨_, (!b5), z1o_2, H', ⟨(by first | omega | exact Nat.le_refl _)⟩, ⟨(xb a0.out)⟩, ⟨z1o_0⟩⟩
  have H' := ak H
  clear H
  have a9 := cz20 a0.out
  have b0 := cz21 a0.out
  have b1 := blk_frozen a0.out 0
  have b2 := blk_frozen a0.out 1
  go_wp2_with (first | (go_at_call 30; (with_reducible refine (spec_LogicOk.calls k _ _ l0_0 _ _ l0_1 false _ (y3 HR0_0.out HB.out) a6.out (y3 HR0_1.out HB.out) a8.out A6.out).mono ?_); rintro e e6 ⟨rfl, hb⟩; replace a0 := ak (blk_below (g := a3) (o := .cells #[.slice A0_0 l0_0.length c0_0, .slice A0_1 l0_1.length c0_1] 27 (0, 0)) (xb a0.out) hb); replace HB := ak (below_step z1o_0 hb); (try clear hb); (try clear hb2); (try clear hk); (try clear hi)))
  repeat (go_quiet (first | (go_at_call 30; (with_reducible refine (spec_LogicOk.calls k _ _ l0_0 _ _ l0_1 false _ (y3 HR0_0.out HB.out) a6.out (y3 HR0_1.out HB.out) a8.out A6.out).mono ?_); rintro e e6 ⟨rfl, hb⟩; replace a0 := ak (blk_below (g := a3) (o := .cells #[.slice A0_0 l0_0.length c0_0, .slice A0_1 l0_1.length c0_1] 27 (0, 0)) (xb a0.out) hb); replace HB := ak (below_step z1o_0 hb); (try clear hb); (try clear hb2); (try clear hk); (try clear hi))); try go_wp2_with (first | (go_at_call 30; (with_reducible refine (spec_LogicOk.calls k _ _ l0_0 _ _ l0_1 false _ (y3 HR0_0.out HB.out) a6.out (y3 HR0_1.out HB.out) a8.out A6.out).mono ?_); rintro e e6 ⟨rfl, hb⟩; replace a0 := ak (blk_below (g := a3) (o := .cells #[.slice A0_0 l0_0.length c0_0, .slice A0_1 l0_1.length c0_1] 27 (0, 0)) (xb a0.out) hb); replace HB := ak (below_step z1o_0 hb); (try clear hb); (try clear hb2); (try clear hk); (try clear hi))))
  go_meet
  case rel => exact ⟨_, (true), z1o_2, H', ⟨(by first | omega | exact Nat.le_refl _)⟩, ⟨(xb a0.out)⟩, ⟨z1o_0⟩⟩
 case rest =>
  clear e0
  try clear a9
  try clear b0
  try clear b1
  try clear b2
  obtain ⟨kq, b7, rfl, HA, d1, a0, HB⟩ := hcut
  cases kq with
  | zero => exact absurd HA.out (by simp [spec_MadeBy.j0])
  | succ e7 =>
   have H := HA.out
   clear HA
   simp only [spec_MadeBy.j0] at H
   replace H := ox_ H
   rcases H with ⟨rfl, H⟩ | ⟨rfl, H⟩
   ·
    obtain rfl := Option.some.inj H
    go_wp2
    repeat (go_quiet (fail); try go_wp2)
    go_ret
    exact ⟨(by first | rfl | (simp [errW_none, errW_some] <;> rfl) | (simp [*, errW_none, errW_some] <;> rfl)), z1o_0⟩
   have H' := ak H
   clear H
   go_wp2
   repeat (go_quiet (fail); try go_wp2)
   go_loopg [6] e7 (fun kq v6 w' => ∃ (a4 : Int), v6 = .int .i64 a4 ∧ Aside0 (spec_MadeBy.l0 kq (l0_1.length : Int) a4 l0_0 l0_1 = some r) ∧ Aside0 (kq ≤ e7) ∧ Aside0 (w'.heap[a3]? = some (.cells #[(.slice A0_0 l0_0.length c0_0), (.slice A0_1 l0_1.length c0_1)] 27 (0, 0))) ∧ Aside0 (Below w.heap.size w w'))
   case atStart => exact ⟨(a1), z1o_2, H', ⟨Nat.le_refl _⟩, ⟨(xb a0.out)⟩, ⟨z1o_0⟩⟩
   case round =>
    clear H'
    try clear e8
    try clear a9
    try clear b0
    try clear b1
    try clear b2
    obtain ⟨a4, rfl, HA, HK2, a0, HB⟩ := hrel
    cases gk with
    | zero => exact absurd HA.out (by simp [spec_MadeBy.l0])
    | succ k2 =>
     have H := HA.out
     clear HA
     simp only [spec_MadeBy.l0] at H
     obtain ⟨g1, d2, H⟩ := bd_ H
     try dsimp only at H
     replace H := ox_ H
     rcases H with ⟨rfl, H⟩ | ⟨rfl, H⟩
     ·
      obtain rfl := Option.some.inj H
      have a9 := cz20 a0.out
      have b0 := cz21 a0.out
      have b1 := blk_frozen a0.out 0
      have b2 := blk_frozen a0.out 1
      go_wp2_with (first | (go_at_call 36; (with_reducible refine (spec_SubOk.calls k2 _ _ l0_0 _ _ l0_1 a4 true _ (y3 HR0_0.out HB.out) a6.out (y3 HR0_1.out HB.out) a8.out d2.out).mono ?_); rintro e e9 ⟨rfl, hb⟩; replace a0 := ak (blk_below (g := a3) (o := .cells #[.slice A0_0 l0_0.length c0_0, .slice A0_1 l0_1.length c0_1] 27 (0, 0)) (xb a0.out) hb); replace HB := ak (below_step z1o_0 hb); (try clear hb); (try clear hb2); (try clear hk); (try clear hi)))
      repeat (go_quiet (first | (go_at_call 36; (with_reducible refine (spec_SubOk.calls k2 _ _ l0_0 _ _ l0_1 a4 true _ (y3 HR0_0.out HB.out) a6.out (y3 HR0_1.out HB.out) a8.out d2.out).mono ?_); rintro e e9 ⟨rfl, hb⟩; replace a0 := ak (blk_below (g := a3) (o := .cells #[.slice A0_0 l0_0.length c0_0, .slice A0_1 l0_1.length c0_1] 27 (0, 0)) (xb a0.out) hb); replace HB := ak (below_step z1o_0 hb); (try clear hb); (try clear hb2); (try clear hk); (try clear hi))); try go_wp2_with (first | (go_at_call 36; (with_reducible refine (spec_SubOk.calls k2 _ _ l0_0 _ _ l0_1 a4 true _ (y3 HR0_0.out HB.out) a6.out (y3 HR0_1.out HB.out) a8.out d2.out).mono ?_); rintro e e9 ⟨rfl, hb⟩; replace a0 := ak (blk_below (g := a3) (o := .cells #[.slice A0_0 l0_0.length c0_0, .slice A0_1 l0_1.length c0_1] 27 (0, 0)) (xb a0.out) hb); replace HB := ak (below_step z1o_0 hb); (try clear hb); (try clear hb2); (try clear hk); (try clear hi))))
      go_ret
      exact ⟨(by first | rfl | (simp [errW_none, errW_some] <;> rfl) | (simp [*, errW_none, errW_some] <;> rfl)), z1o_0⟩
     have H' := ak H
     clear H
     have a9 := cz20 a0.out
     have b0 := cz21 a0.out
     have b1 := blk_frozen a0.out 0
     have b2 := blk_frozen a0.out 1
     go_wp2_with (first | (go_at_call 36; (with_reducible refine (spec_SubOk.calls k2 _ _ l0_0 _ _ l0_1 a4 false _ (y3 HR0_0.out HB.out) a6.out (y3 HR0_1.out HB.out) a8.out d2.out).mono ?_); rintro e f0 ⟨rfl, hb⟩; replace a0 := ak (blk_below (g := a3) (o := .cells #[.slice A0_0 l0_0.length c0_0, .slice A0_1 l0_1.length c0_1] 27 (0, 0)) (xb a0.out) hb); replace HB := ak (below_step z1o_0 hb); (try clear hb); (try clear hb2); (try clear hk); (try clear hi)))
     repeat (go_quiet (first | (go_at_call 36; (with_reducible refine (spec_SubOk.calls k2 _ _ l0_0 _ _ l0_1 a4 false _ (y3 HR0_0.out HB.out) a6.out (y3 HR0_1.out HB.out) a8.out d2.out).mono ?_); rintro e f0 ⟨rfl, hb⟩; replace a0 := ak (blk_below (g := a3) (o := .cells #[.slice A0_0 l0_0.length c0_0, .slice A0_1 l0_1.length c0_1] 27 (0, 0)) (xb a0.out) hb); replace HB := ak (below_step z1o_0 hb); (try clear hb); (try clear hb2); (try clear hk); (try clear hi))); try go_wp2_with (first | (go_at_call 36; (with_reducible refine (spec_SubOk.calls k2 _ _ l0_0 _ _ l0_1 a4 false _ (y3 HR0_0.out HB.out) a6.out (y3 HR0_1.out HB.out) a8.out d2.out).mono ?_); rintro e f0 ⟨rfl, hb⟩; replace a0 := ak (blk_below (g := a3) (o := .cells #[.slice A0_0 l0_0.length c0_0, .slice A0_1 l0_1.length c0_1] 27 (0, 0)) (xb a0.out) hb); replace HB := ak (below_step z1o_0 hb); (try clear hb); (try clear hb2); (try clear hk); (try clear hi))))
     go_loopg [7, 8] k2 (fun kq v7 v8 w' => ∃ (b8 : Int) (a2 : Int), v7 = .int .i64 b8 ∧ v8 = .int .i64 a2 ∧ Aside0 (spec_MadeBy.l1 kq (l0_1.length : Int) a4 b8 a2 l0_0 l0_1 = some r) ∧ Aside0 (kq ≤ k2) ∧ Aside0 (w'.heap[a3]? = some (.cells #[(.slice A0_0 l0_0.length c0_0), (.slice A0_1 l0_1.length c0_1)] 27 (0, 0))) ∧ Aside0 (Below w.heap.size w w'))
     case atStart => exact ⟨(a4), (0), z1o_2, z1o_2, H', ⟨Nat.le_refl _⟩, ⟨(xb a0.out)⟩, ⟨z1o_0⟩⟩
     case round =>
      clear H'
      try clear e8
      try clear g2
      try clear a9
      try clear b0
      try clear b1
      try clear b2
      obtain ⟨b8, a2, rfl, rfl, HA, HK3, a0, HB⟩ := hrel
      cases gk with
      | zero => exact absurd HA.out (by simp [spec_MadeBy.l1])
      | succ k3 =>
       have H := HA.out
       clear HA
       simp only [spec_MadeBy.l1] at H
       replace H := os_ H
       rcases H with ⟨d0, H⟩ | ⟨d0, H⟩
       ·
        have H' := ak H
        clear H
        go_wp2
        repeat (go_quiet (fail); try go_wp2)
        go_loopg [7, 9] k3 (fun kq v7 v9 w' => ∃ (b3 : Int) (a5 : Int), v7 = .int .i64 b3 ∧ v9 = .int .i64 a5 ∧ Aside0 (spec_MadeBy.l2 kq (l0_1.length : Int) a4 b3 a2 a5 l0_0 l0_1 = some r) ∧ Aside0 (kq ≤ k3) ∧ Aside0 (w'.heap[a3]? = some (.cells #[(.slice A0_0 l0_0.length c0_0), (.slice A0_1 l0_1.length c0_1)] 27 (0, 0))) ∧ Aside0 (Below w.heap.size w w'))
        case atStart => exact ⟨(b8), (0), z1o_2, z1o_2, H', ⟨Nat.le_refl _⟩, ⟨(xb a0.out)⟩, ⟨z1o_0⟩⟩
        case round =>
         clear H'
         try clear e8
         try clear g2
         try clear g3
         try clear d0
         try clear a9
         try clear b0
         try clear b1
         try clear b2
         obtain ⟨b3, a5, rfl, rfl, HA, HK4, a0, HB⟩ := hrel
         cases gk with
         | zero => exact absurd HA.out (by simp [spec_MadeBy.l2])
         | succ k4 =>
          have H := HA.out
          clear HA
          simp only [spec_MadeBy.l2] at H
          replace H := os_ H
          rcases H with ⟨d4, H⟩ | ⟨d4, H⟩
          ·
           replace H := ok_ H
           obtain ⟨e1, H⟩ := H
           have f1 := eq_true e1
           have f2 : decide (0 ≤ a2) = true := dT_ e1
           clear e1
           obtain ⟨ji24, hji24⟩ : ∃ j_ : Int, (shr .i64 a4 a2) = j_ := ⟨_, rfl⟩
           replace H : (if (Int.tmod (ji24) 2) = 1 then (if 0 ≤ a5 then (if (Int.tmod (shr .i64 a4 a5) 2) = 1 then ((spec_l1Meet.f k4 l0_0 a2 a5).bind fun a7 => (if 0 ≤ a7 then (if a2 < (l0_1.length : Int) then (if 0 ≤ (rd l0_1 a2) then (spec_MadeBy.l2 k4 (l0_1.length : Int) a4 (Go.bits .or .i64 (Go.bits .or .i64 b3 (shl .i64 1 a7)) (shl .i64 1 (rd l0_1 a2))) a2 (wrap64 (a5 + 1)) l0_0 l0_1) else (none)) else (none)) else (none))) else (spec_MadeBy.l2 k4 (l0_1.length : Int) a4 b3 a2 (wrap64 (a5 + 1)) l0_0 l0_1)) else (none)) else (spec_MadeBy.l2 k4 (l0_1.length : Int) a4 b3 a2 (wrap64 (a5 + 1)) l0_0 l0_1)) = some r := by first | (rw [hji24] at H; exact H) | (simp only [hji24] at H ⊢; exact H)
           have hji24_ : (a4 / 2 ^ min a2.toNat 64) = ji24 := hji24
           have hji24z : a2 ≤ 64 → (a4 / 2 ^ a2.toNat) = ji24 := shr_small hji24
           replace H := oe2 H
           rcases H with ⟨⟨-, d5, d6⟩, H⟩ | ⟨⟨g4, d5, d6⟩, H⟩
           ·
            replace H := ok_ H
            obtain ⟨e2, H⟩ := H
            have f3 := eq_true e2
            have f4 : decide (0 ≤ a5) = true := dT_ e2
            clear e2
            obtain ⟨ji27, hji27⟩ : ∃ j_ : Int, (shr .i64 a4 a5) = j_ := ⟨_, rfl⟩
            replace H : (if (Int.tmod (ji27) 2) = 1 then ((spec_l1Meet.f k4 l0_0 a2 a5).bind fun a7 => (if 0 ≤ a7 then (if a2 < (l0_1.length : Int) then (if 0 ≤ (rd l0_1 a2) then (spec_MadeBy.l2 k4 (l0_1.length : Int) a4 (Go.bits .or .i64 (Go.bits .or .i64 b3 (shl .i64 1 a7)) (shl .i64 1 (rd l0_1 a2))) a2 (wrap64 (a5 + 1)) l0_0 l0_1) else (none)) else (none)) else (none))) else (spec_MadeBy.l2 k4 (l0_1.length : Int) a4 b3 a2 (wrap64 (a5 + 1)) l0_0 l0_1)) = some r := by first | (rw [hji27] at H; exact H) | (simp only [hji27] at H ⊢; exact H)
            have hji27_ : (a4 / 2 ^ min a5.toNat 64) = ji27 := hji27
            have hji27z : a5 ≤ 64 → (a4 / 2 ^ a5.toNat) = ji27 := shr_small hji27
            replace H := oe2 H
            rcases H with ⟨⟨-, d7, d8⟩, H⟩ | ⟨⟨g5, d7, d8⟩, H⟩
            ·
             obtain ⟨a7, d9, H⟩ := bd_ H
             replace H := ok_ H
             obtain ⟨e3, H⟩ := H
             have f5 := eq_true e3
             have f6 : decide (0 ≤ a7) = true := dT_ e3
             clear e3
             obtain ⟨ji31, hji31⟩ : ∃ j_ : Int, (shl .i64 1 a7) = j_ := ⟨_, rfl⟩
             replace H : (if a2 < (l0_1.length : Int) then (if 0 ≤ (rd l0_1 a2) then (spec_MadeBy.l2 k4 (l0_1.length : Int) a4 (Go.bits .or .i64 (Go.bits .or .i64 b3 (ji31)) (shl .i64 1 (rd l0_1 a2))) a2 (wrap64 (a5 + 1)) l0_0 l0_1) else (none)) else (none)) = some r := by first | (rw [hji31] at H; exact H) | (simp only [hji31] at H ⊢; exact H)
             (try rw [hji31] at d9)
             have hji31_ : (IntKind.i64.wrap (1 * 2 ^ min a7.toNat 64)) = ji31 := hji31
             have hji31z : a7 ≤ 64 → (IntKind.i64.wrap (1 * 2 ^ a7.toNat)) = ji31 := shl_small hji31
             have hji31u : (IntKind.i64.wrap (2 ^ min a7.toNat 64)) = ji31 := by have h_ := hji31_; rw [Int.one_mul] at h_; exact h_
             have hji31v : a7 ≤ 64 → (IntKind.i64.wrap (2 ^ a7.toNat)) = ji31 := fun hle_ => by have h_ := hji31z hle_; rw [Int.one_mul] at h_; exact h_
             have hji31y : (wrap64 (1 * 2 ^ min a7.toNat 64)) = ji31 := (i64_w _).symm.trans hji31_
             have hji31x : a7 ≤ 64 → (wrap64 (1 * 2 ^ a7.toNat)) = ji31 := fun h_ => (i64_w _).symm.trans (hji31z h_)
             replace H := od_ H
             obtain ⟨f7, H⟩ := H
             replace H := ok_ H
             obtain ⟨e4, H⟩ := H
             have f8 := eq_true e4
             have f9 : decide (0 ≤ (rd l0_1 a2)) = true := dT_ e4
             clear e4
             obtain ⟨ji34, hji34⟩ : ∃ j_ : Int, (shl .i64 1 (rd l0_1 a2)) = j_ := ⟨_, rfl⟩
             replace H : (spec_MadeBy.l2 k4 (l0_1.length : Int) a4 (Go.bits .or .i64 (Go.bits .or .i64 b3 (ji31)) (ji34)) a2 (wrap64 (a5 + 1)) l0_0 l0_1) = some r := by first | (rw [hji34] at H; exact H) | (simp only [hji34] at H ⊢; exact H)
             (try rw [hji34] at d9)
             have hji34_ : (IntKind.i64.wrap (1 * 2 ^ min (rd l0_1 a2).toNat 64)) = ji34 := hji34
             have hji34z : (rd l0_1 a2) ≤ 64 → (IntKind.i64.wrap (1 * 2 ^ (rd l0_1 a2).toNat)) = ji34 := shl_small hji34
             have hji34u : (IntKind.i64.wrap (2 ^ min (rd l0_1 a2).toNat 64)) = ji34 := by have h_ := hji34_; rw [Int.one_mul] at h_; exact h_
             have hji34v : (rd l0_1 a2) ≤ 64 → (IntKind.i64.wrap (2 ^ (rd l0_1 a2).toNat)) = ji34 := fun hle_ => by have h_ := hji34z hle_; rw [Int.one_mul] at h_; exact h_
             have hji34y : (wrap64 (1 * 2 ^ min (rd l0_1 a2).toNat 64)) = ji34 := (i64_w _).symm.trans hji34_
             have hji34x : (rd l0_1 a2) ≤ 64 → (wrap64 (1 * 2 ^ (rd l0_1 a2).toNat)) = ji34 := fun h_ => (i64_w _).symm.trans (hji34z h_)
             have H' := ak H
             clear H
             have a9 := cz20 a0.out
             have b0 := cz21 a0.out
             have b1 := blk_frozen a0.out 0
             have b2 := blk_frozen a0.out 1
             go_wp2_with (first | (go_at_call 77; (with_reducible refine (spec_l1Meet.calls k4 _ _ l0_0 a2 a5 a7 _ (y3 HR0_0.out HB.out) a6.out d9.out).mono ?_); rintro e w' ⟨rfl, ⟨nd, rfl⟩⟩; (try first | exact ⟨rfl, _, World.drewN_drewN _ _ _⟩ | exact ⟨rfl, _, Eq.trans (World.drewN_drewN _ _ _) (congrArg (World.drewN _) (Nat.add_assoc _ _ _))⟩); have b4 : 0 ≤ (a2 : Int) := oa_; have q700 : a2 < (l0_1.length : Int) := oa_; obtain ⟨ad700, e700, hx700_0⟩ := Kd.at_int HR0_1.out a2 b4 q700; cases e700; replace hx700_0 := (HB.out.cell (World.block_lt_of_cell? w _ hx700_0)).trans hx700_0; replace b4 := eq_true b4; replace q700 := eq_true q700))
             repeat (go_quiet (first | (go_at_call 77; (with_reducible refine (spec_l1Meet.calls k4 _ _ l0_0 a2 a5 a7 _ (y3 HR0_0.out HB.out) a6.out d9.out).mono ?_); rintro e w' ⟨rfl, ⟨nd, rfl⟩⟩; (try first | exact ⟨rfl, _, World.drewN_drewN _ _ _⟩ | exact ⟨rfl, _, Eq.trans (World.drewN_drewN _ _ _) (congrArg (World.drewN _) (Nat.add_assoc _ _ _))⟩); have b4 : 0 ≤ (a2 : Int) := oa_; have q700 : a2 < (l0_1.length : Int) := oa_; obtain ⟨ad700, e700, hx700_0⟩ := Kd.at_int HR0_1.out a2 b4 q700; cases e700; replace hx700_0 := (HB.out.cell (World.block_lt_of_cell? w _ hx700_0)).trans hx700_0; replace b4 := eq_true b4; replace q700 := eq_true q700)); try go_wp2_with (first | (go_at_call 77; (with_reducible refine (spec_l1Meet.calls k4 _ _ l0_0 a2 a5 a7 _ (y3 HR0_0.out HB.out) a6.out d9.out).mono ?_); rintro e w' ⟨rfl, ⟨nd, rfl⟩⟩; (try first | exact ⟨rfl, _, World.drewN_drewN _ _ _⟩ | exact ⟨rfl, _, Eq.trans (World.drewN_drewN _ _ _) (congrArg (World.drewN _) (Nat.add_assoc _ _ _))⟩); have b4 : 0 ≤ (a2 : Int) := oa_; have q700 : a2 < (l0_1.length : Int) := oa_; obtain ⟨ad700, e700, hx700_0⟩ := Kd.at_int HR0_1.out a2 b4 q700; cases e700; replace hx700_0 := (HB.out.cell (World.block_lt_of_cell? w _ hx700_0)).trans hx700_0; replace b4 := eq_true b4; replace q700 := eq_true q700)))
             go_roundg k4
             case measure => have := d1.out; have := HK2.out; have := HK3.out; have := HK4.out; omega
             case rel => exact ⟨(Go.bits .or .i64 (Go.bits .or .i64 b3 (ji31)) (ji34)), (wrap64 (a5 + 1)), (by first | rfl | (simp; done) | (simp only [← hji31, ← hji34] <;> (first | rfl | simp)) | (simp [*]; done)), z1o_2, H', ⟨z1o_3⟩, ⟨(xb a0.out)⟩, ⟨z1o_0⟩⟩
            have H' := ak H
            clear H
            go_wp2
            repeat (go_quiet (fail); try go_wp2)
            go_roundg k4
            case measure => have := d1.out; have := HK2.out; have := HK3.out; have := HK4.out; omega
            case rel => exact ⟨(b3), (wrap64 (a5 + 1)), z1o_2, z1o_2, H', ⟨z1o_3⟩, ⟨(xb a0.out)⟩, ⟨z1o_0⟩⟩
           have H' := ak H
           clear H
           go_wp2
           repeat (go_quiet (fail); try go_wp2)
           go_roundg k4
           case measure => have := d1.out; have := HK2.out; have := HK3.out; have := HK4.out; omega
           case rel => exact ⟨(b3), (wrap64 (a5 + 1)), z1o_2, z1o_2, H', ⟨z1o_3⟩, ⟨(xb a0.out)⟩, ⟨z1o_0⟩⟩
          have H' := ak H
          clear H
          go_wp2
          repeat (go_quiet (fail); try go_wp2)
          go_roundg k4
          case measure => have := d1.out; have := HK2.out; have := HK3.out; have := HK4.out; omega
          case rel => exact ⟨(b3), (wrap64 (a2 + 1)), z1o_2, z1o_2, H', ⟨z1o_3⟩, ⟨(xb a0.out)⟩, ⟨z1o_0⟩⟩
       have H' := ak H
       clear H
       go_wp2
       repeat (go_quiet (fail); try go_wp2)
       go_roundg k3
       case measure => have := d1.out; have := HK2.out; have := HK3.out; omega
       case rel => exact ⟨(b8), z1o_2, H', ⟨(by have := d1.out; have := HK2.out; have := HK3.out; omega)⟩, ⟨(xb a0.out)⟩, ⟨z1o_0⟩⟩

end Go.Proofs.Ytacifhahfamipaa.P

namespace Go.Proofs.Ytacifhahfamipaa.P
open Go.RowKit Go.Proofs.YtacifhahfamipaaW.PrintWords Go.Proofs.YtacifhahfamipaaW.PrintLast Go.Proofs.YtacifhahfamipaaW.PrintMore
attribute [local go_sem] max2_int min2_int max_two min_two max_three min_three max_four min_four
set_option linter.unusedVariables false
set_option linter.unusedSimpArgs false
def spec_PartOf.T17 : Bool × List (List Nat × List Nat) := (true, [([], []), ([], []), ([1], [1]), ([], []), ([], []), ([3, 4], [3, 4]), ([5], [5]), ([2, 6], [2, 6]), ([7], [7]), ([], []), ([], []), ([9, 10], [9, 10]), ([11], [11]), ([8, 12], [8, 12]), ([13], [13]), ([14], [14]), ([0, 15], [0, 15]), ([16, 16, 0, 1, 2, 3, 4, 5, 6, 7, 8, 9, 10, 11, 12, 13, 14, 15, 16], [0, 16])])
def spec_PartOf.B17 : List Nat := [0, 0, 2, 0, 0, 24, 56, 126, 254, 0, 0, 1536, 3584, 8190, 16382, 32766, 65535, 131071]
theorem spec_PartOf.tab17 : rtab .any (opsOf Try.f43 17) = spec_PartOf.T17 := by kernel_rfl
theorem spec_PartOf.bits17 : waitsOk spec_PartOf.T17.2 spec_PartOf.B17 = true := by kernel_rfl
def spec_PartOf.T18 : Bool × List (List Nat × List Nat) := (true, [([], []), ([0], [0]), ([], []), ([], []), ([2, 3], [2, 3]), ([4], [4]), ([1, 5], [1, 5]), ([6], [6]), ([], []), ([], []), ([8, 9], [8, 9]), ([10], [10]), ([7, 11], [7, 11])])
def spec_PartOf.B18 : List Nat := [0, 1, 0, 0, 12, 28, 63, 127, 0, 0, 768, 1792, 4095]
theorem spec_PartOf.tab18 : rtab .any (opsOf Try.f43 18) = spec_PartOf.T18 := by kernel_rfl
theorem spec_PartOf.bits18 : waitsOk spec_PartOf.T18.2 spec_PartOf.B18 = true := by kernel_rfl
theorem z1s_15 {p : Prop} (h : p := by first | exact Kd.R_nil _ _ _ _ _ | exact Kd.N_nil _ _ _ _ _ | exact Kd.V_nil _ _ _ _ _ | exact Kd.Q_nil _ _ _ _ _ | exact Kd.S_nil _ _ _ _ _) : p := h
theorem z1s_14 {p : Prop} (h : p := by first | exact Kd.S_nil _ _ _ _ _ | exact Kd.N_nil _ _ _ _ _ | exact Kd.V_nil _ _ _ _ _ | exact Kd.Q_nil _ _ _ _ _ | exact Kd.R_nil _ _ _ _ _) : p := h
theorem z1s_13 {p : Prop} (h : p := by decide) : p := h
theorem z1s_12 {p : Prop} (h : p := by (with_reducible repeat (first | apply Kd.S_alloc | apply Kd.S_drewN | apply Kd.S_drew)); exact Kd.S_mono a4.out (fun _ hk => ⟨hk.1.1, ⟨hk.2, hk.1.2⟩⟩)) : p := h
theorem z1s_11 {p : Prop} (h : p := by (with_reducible repeat (first | apply Kd.S_alloc | apply Kd.S_drewN | apply Kd.S_drew)); exact Kd.S_mono a4.out (fun _ hk => ⟨⟨hk.1, hk.2.2⟩, hk.2.1⟩)) : p := h
theorem z1s_10 {p : Prop} (h : p := by (with_reducible repeat (first | refine blk_drewN ?_ _ | refine blk_drew ?_ | refine blk_alloc ?_ _)); refine blk_far ?_ b4.out _; (with_reducible repeat (first | refine blk_drewN ?_ _ | refine blk_drew ?_ | refine blk_alloc ?_ _)); exact a0.out) : p := h
theorem z1s_9 {p : Prop} (h : p := by (with_reducible repeat (first | refine blk_drewN ?_ _ | refine blk_drew ?_ | refine blk_alloc ?_ _)); refine blk_far ?_ b6.out _; (with_reducible repeat (first | refine blk_drewN ?_ _ | refine blk_drew ?_ | refine blk_alloc ?_ _)); exact a5.out) : p := h
theorem z1s_8 {p : Prop} (h : p := by first | rfl | (simp; done) | (simp [*]; done)) : p := h
theorem z1s_7 {p : Prop} (h : p := by (with_reducible repeat (first | refine blk_drewN ?_ _ | refine blk_drew ?_ | refine blk_alloc ?_ _)); refine blk_far ?_ b4.out _; (with_reducible repeat (first | refine blk_drewN ?_ _ | refine blk_drew ?_ | refine blk_alloc ?_ _)); refine blk_far ?_ b4.out _; (with_reducible repeat (first | refine blk_drewN ?_ _ | refine blk_drew ?_ | refine blk_alloc ?_ _)); exact a0.out) : p := h
theorem z1s_6 {p : Prop} (h : p := by (with_reducible repeat (first | refine blk_drewN ?_ _ | refine blk_drew ?_ | refine blk_alloc ?_ _)); refine blk_far ?_ b6.out _; (with_reducible repeat (first | refine blk_drewN ?_ _ | refine blk_drew ?_ | refine blk_alloc ?_ _)); refine blk_far ?_ b6.out _; (with_reducible repeat (first | refine blk_drewN ?_ _ | refine blk_drew ?_ | refine blk_alloc ?_ _)); exact a5.out) : p := h
theorem z1s_5 {p : Prop} (h : p := by (with_reducible repeat (first | refine blk_drewN ?_ _ | refine blk_drew ?_ | refine blk_alloc ?_ _)); refine blk_put (cs := #[.slice none 0 0, .slice none 0 0]) ?_ 1 _ rfl; (with_reducible repeat (first | refine blk_drewN ?_ _ | refine blk_drew ?_ | refine blk_alloc ?_ _)); refine blk_put (cs := #[.slice none 0 0, .slice none 0 0]) ?_ 0 _ rfl; (with_reducible repeat (first | refine blk_drewN ?_ _ | refine blk_drew ?_ | refine blk_alloc ?_ _)); exact a2.out) : p := h
theorem z1s_4 {p : Prop} (h : p := by (with_reducible repeat (first | apply Kd.R_alloc | apply Kd.R_drewN | apply Kd.R_drew)); exact Kd.R_mono b3.out (fun _ hk => ⟨hk.2, hk.1⟩)) : p := h
theorem z1s_3 {p : Prop} (h : p := by repeat (first | (with_reducible first | exact HB.out | apply below_alloc | apply pw_below_drewN | apply below_drew1) | exact HB.out)) : p := h
theorem z1s_2 {p : Prop} (h : p := by repeat (first | (with_reducible first | exact HB.out | apply below_alloc | apply pw_below_drewN | apply below_drew1 | refine below_set ?_ e6.out) | exact HB.out)) : p := h
theorem z1s_1 {p : Prop} (h : p := by repeat (first | (with_reducible first | exact HB.out | apply below_alloc | apply pw_below_drewN | apply below_drew1 | refine below_set ?_ e6.out | refine below_set ?_ e7.out) | exact HB.out)) : p := h
theorem z1s_0 {p : Prop} (h : p := by repeat (first | (with_reducible first | exact HB.out | apply below_alloc | apply pw_below_drewN | apply below_drew1 | refine below_set ?_ e6.out | refine below_set ?_ e7.out | refine below_set ?_ f7.out) | exact HB.out)) : p := h
set_option maxHeartbeats 8000000 in
set_option maxRecDepth 100000 in
theorem spec_PartOf.calls (k : Nat) (A0_0 : Option Addr) (c0_0 : Nat) (l0_0 : List (List Int)) (A0_1 : Option Addr) (c0_1 : Nat) (l0_1 : List Int) (a1 : Int) (r1 : List (List Int)) (r2 : List Int) (w : World) (hr0_0 : Kd.C (Kd.slice 3 (Kd.int .i64)) w A0_0 l0_0.length l0_0) (hc0_0 : l0_0.length ≤ c0_0) (hr0_1 : Kd.C (Kd.int .i64) w A0_1 l0_1.length l0_1) (hc0_1 : l0_1.length ≤ c0_1) (h : spec_PartOf.f k l0_0 l0_1 a1 = some (r1, r2)) :
 Calls Try.prog 43 #[.agg #[.slice A0_0 l0_0.length c0_0, .slice A0_1 l0_1.length c0_1], .int .i64 a1] w fun e w' => ∃ v0_ v1_ : Value, e = .returned (.agg #[v0_, v1_]) ∧ Kd.S (Kd.slice 3 (Kd.int .i64)) 25 w' w.heap.size (fun k_ => some k_ ≠ (v1_ : Value).ownBlock) v0_ r1 ∧ Kd.R (Kd.int .i64) 3 w' w.heap.size (fun _ => True) v1_ r2 ∧ Below w.heap.size w w' := by
 have hu27 := Try.underlying27
 have HR0_0 := ak hr0_0
 have f8 := ak hc0_0
 clear hr0_0 hc0_0
 have HR0_1 := ak hr0_1
 have f9 := ak hc0_1
 clear hr0_1 hc0_1
 have HB := ak (Below.refl w.heap.size w)
 have H : ((spec_SubOk.f k l0_0 l0_1 a1).bind fun g6 => (if g6 = true then (spec_PartOf.l0 k a1 (([] : List Int)) 0 l0_0 l0_1) else (some (([] : List (List Int)), ([] : List Int))))) = some (r1, r2) := h
 clear h
 obtain ⟨g6, A3, H⟩ := bd_ H
 try dsimp only at H
 replace H := ox_ H
 rcases H with ⟨rfl, H⟩ | ⟨rfl, H⟩
 ·
  obtain ⟨y866, hy866⟩ : ∃ y_ : List Int, y_ = (([] : List Int)) := ⟨_, rfl⟩
  replace H : (spec_PartOf.l0 k a1 y866 0 l0_0 l0_1) = some (r1, r2) := by first | (rw [hy866]; with_reducible exact H) | (have H2_ := (Option.bind_some _ _).symm.trans H; rw [hy866]; with_reducible exact H2_) | (have H2_ := (Option.bind_some _ _).symm.trans H; with_reducible exact H2_) | with_reducible exact H | (rw [hy866]; exact H) | exact H
  have Ny866 := ak hy866
  clear hy866
  have H' := ak H
  clear H
  go_enter Try.func43, Try.ntmps43
  go_wp2_with (first | ((with_reducible refine gate_dst (N := 2) rfl ?_); refine bx_ (N := 2) (cs := #[.slice A0_0 l0_0.length c0_0, .slice A0_1 l0_1.length c0_1]) (t := 27) ?_; intro a7 hg w5 hbox hb; have a0 := ak (hbox); have g7 := ak ((by rw [hg]; exact (below_size z1s_3) : w.heap.size ≤ a7)); have e6 := ak ((by rw [hg]; exact (below_size z1s_3) : w.heap.size ≤ a7)); replace HB := ak (below_step z1s_3 hb); clear hb hbox hg) | ((with_reducible refine gate_dst (N := 4) rfl ?_); refine bx_ (N := 4) (cs := #[.slice none 0 0, .slice none 0 0]) (t := 27) ?_; intro a9 hg w6 hbox hb; have a5 := ak (hbox); have g8 := ak ((by rw [hg]; exact (below_size z1s_2) : w.heap.size ≤ a9)); have e7 := ak ((by rw [hg]; exact (below_size z1s_2) : w.heap.size ≤ a9)); replace HB := ak (below_step z1s_2 hb); have b9 := ak ((by rw [hg]; exact Nat.ne_of_lt (blk_lt (g := a7) (o := .cells #[.slice A0_0 l0_0.length c0_0, .slice A0_1 l0_1.length c0_1] 27 (0, 0)) (xb a0.out)) : a7 ≠ a9)); have d0 := ak ((by rw [hg]; exact Nat.ne_of_gt (blk_lt (g := a7) (o := .cells #[.slice A0_0 l0_0.length c0_0, .slice A0_1 l0_1.length c0_1] 27 (0, 0)) (xb a0.out)) : a9 ≠ a7)); replace a0 := ak (blk_below (g := a7) (o := .cells #[.slice A0_0 l0_0.length c0_0, .slice A0_1 l0_1.length c0_1] 27 (0, 0)) (xb a0.out) hb); clear hb hbox hg) | ((with_reducible refine gate_dst (N := 5) rfl ?_); refine bx_ (N := 5) (cs := #[.slice none 0 0, .slice none 0 0]) (t := 27) ?_; intro b2 hg w7 hbox hb; have a2 := ak (hbox); have g9 := ak ((by rw [hg]; exact (below_size z1s_1) : w.heap.size ≤ b2)); have f7 := ak ((by rw [hg]; exact (below_size z1s_1) : w.heap.size ≤ b2)); replace HB := ak (below_step z1s_1 hb); have b4 := ak ((by rw [hg]; exact Nat.ne_of_lt (blk_lt (g := a7) (o := .cells #[.slice A0_0 l0_0.length c0_0, .slice A0_1 l0_1.length c0_1] 27 (0, 0)) (xb a0.out)) : a7 ≠ b2)); have b7 := ak ((by rw [hg]; exact Nat.ne_of_gt (blk_lt (g := a7) (o := .cells #[.slice A0_0 l0_0.length c0_0, .slice A0_1 l0_1.length c0_1] 27 (0, 0)) (xb a0.out)) : b2 ≠ a7)); replace a0 := ak (blk_below (g := a7) (o := .cells #[.slice A0_0 l0_0.length c0_0, .slice A0_1 l0_1.length c0_1] 27 (0, 0)) (xb a0.out) hb); have b6 := ak ((by rw [hg]; exact Nat.ne_of_lt (blk_lt (g := a9) (o := .cells #[.slice none 0 0, .slice none 0 0] 27 (0, 0)) (xb a5.out)) : a9 ≠ b2)); have d5 := ak ((by rw [hg]; exact Nat.ne_of_gt (blk_lt (g := a9) (o := .cells #[.slice none 0 0, .slice none 0 0] 27 (0, 0)) (xb a5.out)) : b2 ≠ a9)); replace a5 := ak (blk_below (g := a9) (o := .cells #[.slice none 0 0, .slice none 0 0] 27 (0, 0)) (xb a5.out) hb); clear hb hbox hg; have o6 := b7.out; have o7 := b4.out; have o8 := d5.out; have o9 := b6.out; have d1 := cz20 a2.out; have d2 := cz21 a2.out; have d3 := blk_frozen a2.out 0; have d4 := blk_frozen a2.out 1; have j2 := b9.out; have j3 := d0.out; have d1 := cz20 a0.out; have d2 := cz21 a0.out; have d3 := blk_frozen a0.out 0; have d4 := blk_frozen a0.out 1) | ((with_reducible refine gate_callee (f := 36) rfl ?_); refine gl_ (some 14) Try.func36 #[.agg #[.slice A0_0 l0_0.length c0_0, .slice A0_1 l0_1.length c0_1], .int .i64 a1] ?_; (with_reducible refine (spec_SubOk.calls k _ _ l0_0 _ _ l0_1 a1 true _ (by exact Kd.C_below HR0_0.out z1s_0) f8.out (by exact Kd.C_below HR0_1.out z1s_0) f9.out A3.out).mono ?_); rintro e w' ⟨rfl, hb⟩; refine ⟨_, rfl, ?_⟩; replace a0 := ak (blk_below (g := a7) (o := .cells #[.slice A0_0 l0_0.length c0_0, .slice A0_1 l0_1.length c0_1] 27 (0, 0)) z1s_7 hb); replace a5 := ak (blk_below (g := a9) (o := .cells #[.slice none 0 0, .slice none 0 0] 27 (0, 0)) z1s_6 hb); replace a2 := ak (blk_below (g := b2) (o := .cells #[.slice none 0 0, .slice none 0 0] 27 (0, 0)) z1s_5 hb); replace HB := ak (below_step z1s_0 hb); (try clear hb); (try clear hb2); (try clear hk); (try clear hi)) | ((with_reducible refine gate_dst (N := 17) rfl ?_); refine Kd.R_lit (Kd.int .i64) _ 3 ?hg (N := 17) ?hd (xs := ([] : List Int)) (inner := []) (ok := fun _ => True) (okp := fun _ => True) ?hr ?hp (fun _ hk => hk) trivial (Below.refl _ _) (Nat.le_refl _) (by simp) ?_; (case hd => rfl); (case hg => rfl); (case hr => first | (go_simp; done) | (go_simp; rfl)); (case hp => exact (Reps.none _ _)); intro q0 s1 ho15 hb hg_ hnew_; clear hg_ hnew_; (first | rw [← Ny866.out] at ho15 | (simp only [Int.reduceToNat] at ho15; rw [← Ny866.out] at ho15)); have h0 := ak (Kd.R_lower ho15 (below_size z1s_0)); replace a0 := ak (blk_below (g := a7) (o := .cells #[.slice A0_0 l0_0.length c0_0, .slice A0_1 l0_1.length c0_1] 27 (0, 0)) (xb a0.out) hb); replace a5 := ak (blk_below (g := a9) (o := .cells #[.slice none 0 0, .slice none 0 0] 27 (0, 0)) (xb a5.out) hb); replace a2 := ak (blk_below (g := b2) (o := .cells #[.slice none 0 0, .slice none 0 0] 27 (0, 0)) (xb a2.out) hb); replace HB := ak (below_step z1s_0 hb); clear hb ho15))
  go_loopg [6, 7] k (fun kq v6 v7 w' => ∃ (a6 : List Int) (d8 : Int), v7 = .int .i64 d8 ∧ Aside0 (spec_PartOf.l0 kq a1 a6 d8 l0_0 l0_1 = some (r1, r2)) ∧ Aside0 (kq ≤ k) ∧ Aside0 (Kd.R (Kd.int .i64) 3 w' w.heap.size (fun _ => True) v6 a6) ∧ Aside0 (w'.heap[a7]? = some (.cells #[(.slice A0_0 l0_0.length c0_0), (.slice A0_1 l0_1.length c0_1)] 27 (0, 0))) ∧ Aside0 (w'.heap[a9]? = some (.cells #[(.slice none 0 0), (.slice none 0 0)] 27 (0, 0))) ∧ Aside0 (w'.heap[b2]? = some (.cells #[(.slice none 0 0), (.slice none 0 0)] 27 (0, 0))) ∧ Aside0 (Below w.heap.size w w'))
  case atStart => exact ⟨(y866), (0), z1s_8, H', ⟨Nat.le_refl _⟩, ⟨(xR h0.out)⟩, ⟨(xb a0.out)⟩, ⟨(xb a5.out)⟩, ⟨(xb a2.out)⟩, ⟨z1s_0⟩⟩
  case round =>
   clear H'
   try clear c4
   try clear d1
   try clear d2
   try clear d3
   try clear d4
   obtain ⟨a6, d8, rfl, HA, HK1, b3, a0, a5, a2, HB⟩ := hrel
   cases gk with
   | zero => exact absurd HA.out (by simp [spec_PartOf.l0])
   | succ k1 =>
    have H := HA.out
    clear HA
    simp only [spec_PartOf.l0] at H
    replace H := os_ H
    rcases H with ⟨e8, H⟩ | ⟨e8, H⟩
    ·
     replace H := ok_ H
     obtain ⟨i0, H⟩ := H
     have j4 := eq_true i0
     have j5 : decide (0 ≤ d8) = true := dT_ i0
     clear i0
     obtain ⟨ji18, hji18⟩ : ∃ j_ : Int, (shr .i64 a1 d8) = j_ := ⟨_, rfl⟩
     replace H : (if (Int.tmod (ji18) 2) = 1 then (if a6.length < 17592186044416 then (spec_PartOf.l0 k1 a1 (a6 ++ [d8]) (wrap64 (d8 + 1)) l0_0 l0_1) else (none)) else (spec_PartOf.l0 k1 a1 a6 (wrap64 (d8 + 1)) l0_0 l0_1)) = some (r1, r2) := by first | (rw [hji18] at H; exact H) | (simp only [hji18] at H ⊢; exact H)
     have hji18_ : (a1 / 2 ^ min d8.toNat 64) = ji18 := hji18
     have hji18z : d8 ≤ 64 → (a1 / 2 ^ d8.toNat) = ji18 := shr_small hji18
     replace H := oe2 H
     rcases H with ⟨⟨-, h1, h2⟩, H⟩ | ⟨⟨s2, h1, h2⟩, H⟩
     ·
      replace H := ok_ H
      obtain ⟨j6, H⟩ := H
      have LMc20 := ak j6
      clear j6
      obtain ⟨y869, hy869⟩ : ∃ y_ : List Int, y_ = (a6 ++ [d8]) := ⟨_, rfl⟩
      replace H : (spec_PartOf.l0 k1 a1 y869 (wrap64 (d8 + 1)) l0_0 l0_1) = some (r1, r2) := by first | (rw [hy869]; with_reducible exact H) | (have H2_ := (Option.bind_some _ _).symm.trans H; rw [hy869]; with_reducible exact H2_) | (have H2_ := (Option.bind_some _ _).symm.trans H; with_reducible exact H2_) | with_reducible exact H | (rw [hy869]; exact H) | exact H
      have Ny869 := ak hy869
      clear hy869
      have H' := ak H
      clear H
      have j7 := b9.out
      have j8 := d0.out
      have j9 := b4.out
      have k0 := b7.out
      have d1 := cz20 a0.out
      have d2 := cz21 a0.out
      have d3 := blk_frozen a0.out 0
      have d4 := blk_frozen a0.out 1
      go_wp2_with (first | ((with_reducible refine gate_builtin (b := .append) (xs := #[.tmp 30, .tmp 32]) rfl ?_); at_builtin; refine Kd.R_append (Kd.int .i64) (w0 := w) w.heap.size rfl (.tmp 30) (.tmp 32) 25 3 (.int .i64 0) 8 rfl Try.underlying25 info3 rfl z1s_13 (by omega) u6 a6 d8 [.int .i64 d8] (fun _ => True) (fun _ => False) rfl rfl ?aP (fun _ hk => hk.elim) ?aF ?aO ?aB ?aS ?aL ?_; (case aP => exact rfl); (case aB => exact z1s_0); (case aF => exact (fun _ _ => trivial)); (case aO => exact (xR b3.out)); (case aS => exact (below_size z1s_0)); (case aL => have := LMc20.out; omega); intro q1 s3 ho hb hg hat; rw [← Ny869.out] at ho; replace a0 := ak (blk_grown (g := a7) (o := .cells #[.slice A0_0 l0_0.length c0_0, .slice A0_1 l0_1.length c0_1] 27 (0, 0)) (xb a0.out) hg (Kd.R_ne b3.out a0.out z1s_13)); replace a5 := ak (blk_grown (g := a9) (o := .cells #[.slice none 0 0, .slice none 0 0] 27 (0, 0)) (xb a5.out) hg (Kd.R_ne b3.out a5.out z1s_13)); replace a2 := ak (blk_grown (g := b2) (o := .cells #[.slice none 0 0, .slice none 0 0] 27 (0, 0)) (xb a2.out) hg (Kd.R_ne b3.out a2.out z1s_13)); replace HB := ak (hb); have h3 := ak (ho); clear b3; clear ho hb hg hat))
      go_roundg k1
      case measure => have := HK1.out; omega
      case rel => exact ⟨(y869), (wrap64 (d8 + 1)), z1s_8, H', ⟨(by have := HK1.out; omega)⟩, ⟨(xR h3.out)⟩, ⟨(xb a0.out)⟩, ⟨(xb a5.out)⟩, ⟨(xb a2.out)⟩, ⟨z1s_0⟩⟩
     have H' := ak H
     clear H
     have k4 := b9.out
     have k5 := d0.out
     have k6 := b4.out
     have k7 := b7.out
     have d1 := cz20 a0.out
     have d2 := cz21 a0.out
     have d3 := blk_frozen a0.out 0
     have d4 := blk_frozen a0.out 1
     go_wp2
     go_roundg k1
     case measure => have := HK1.out; omega
     case rel => exact ⟨(a6), (wrap64 (d8 + 1)), z1s_8, H', ⟨(by have := HK1.out; omega)⟩, ⟨(xR b3.out)⟩, ⟨(xb a0.out)⟩, ⟨(xb a5.out)⟩, ⟨(xb a2.out)⟩, ⟨z1s_0⟩⟩
    have H' := ak H
    clear H
    have k8 := b9.out
    have k9 := d0.out
    have l3 := b4.out
    have l4 := b7.out
    have d1 := cz20 a0.out
    have d2 := cz21 a0.out
    have d3 := blk_frozen a0.out 0
    have d4 := blk_frozen a0.out 1
    go_wp2
    go_loopg [8] k1 (fun kq v8 w' => ∃ (b1 : Int) (b0 : List (List Int)) (b8 : List Int) (u865000 : Value) (u865001 : Value), v8 = .int .i64 b1 ∧ Aside0 (spec_PartOf.l1 kq a6 b1 l0_0 l0_1 b0 b8 = some (r1, r2)) ∧ Aside0 (kq ≤ k1) ∧ Aside0 (Kd.R (Kd.int .i64) 3 w' w.heap.size (fun k_ => some k_ ≠ (u865001 : Value).ownBlock) u6 a6) ∧ Aside0 (Kd.S (Kd.slice 3 (Kd.int .i64)) 25 w' w.heap.size (fun k_ => some k_ ≠ (u6 : Value).ownBlock ∧ some k_ ≠ (u865001 : Value).ownBlock) u865000 b0) ∧ Aside0 (Kd.R (Kd.int .i64) 3 w' w.heap.size (fun k_ => some k_ ≠ (u6 : Value).ownBlock) u865001 b8) ∧ Aside0 (w'.heap[a7]? = some (.cells #[(.slice A0_0 l0_0.length c0_0), (.slice A0_1 l0_1.length c0_1)] 27 (0, 0))) ∧ Aside0 (w'.heap[a9]? = some (.cells #[(.slice none 0 0), (.slice none 0 0)] 27 (0, 0))) ∧ Aside0 (w'.heap[b2]? = some (.cells #[u865000, u865001] 27 (0, 0))) ∧ Aside0 (Below w.heap.size w w'))
    case atStart => exact ⟨(0), (([] : List (List Int))), (([] : List Int)), (.slice none 0 0), (.slice none 0 0), z1s_8, H', ⟨Nat.le_refl _⟩, ⟨(by (with_reducible repeat (first | apply Kd.R_alloc | apply Kd.R_drewN | apply Kd.R_drew)); exact Kd.R_mono b3.out (fun _ hk => (by simp [Value.ownBlock])))⟩, ⟨z1s_14⟩, ⟨z1s_15⟩, ⟨(xb a0.out)⟩, ⟨(xb a5.out)⟩, ⟨(xb a2.out)⟩, ⟨z1s_0⟩⟩
    case round =>
     clear H'
     try clear c4
     try clear q2
     try clear e8
     try clear d1
     try clear d2
     try clear d3
     try clear d4
     obtain ⟨b1, b0, b8, u865000, u865001, rfl, HA, HK2, b3, a4, a3, a0, a5, a2, HB⟩ := hrel
     cases gk with
     | zero => exact absurd HA.out (by simp [spec_PartOf.l1])
     | succ k2 =>
      have H := HA.out
      clear HA
      simp only [spec_PartOf.l1] at H
      replace H := os_ H
      rcases H with ⟨g0, H⟩ | ⟨g0, H⟩
      ·
       obtain ⟨y872, hy872⟩ : ∃ y_ : List Int, y_ = (([] : List Int)) := ⟨_, rfl⟩
       replace H : (spec_PartOf.l2 k2 a6 b1 y872 0 l0_0 l0_1 b0 b8) = some (r1, r2) := by first | (rw [hy872]; with_reducible exact H) | (have H2_ := (Option.bind_some _ _).symm.trans H; rw [hy872]; with_reducible exact H2_) | (have H2_ := (Option.bind_some _ _).symm.trans H; with_reducible exact H2_) | with_reducible exact H | (rw [hy872]; exact H) | exact H
       have Ny872 := ak hy872
       clear hy872
       have H' := ak H
       clear H
       obtain ⟨e1, d9, i1⟩ := Kd.R_slice b3.out
       subst i1
       go_wp2_with (first | ((with_reducible refine gate_dst (N := 40) rfl ?_); refine Kd.R_lit (Kd.int .i64) _ 3 ?hg (N := 40) ?hd (xs := ([] : List Int)) (inner := []) (ok := fun _ => True) (okp := fun _ => True) ?hr ?hp (fun _ hk => hk) trivial (Below.refl _ _) (Nat.le_refl _) (by simp) ?_; (case hd => rfl); (case hg => rfl); (case hr => first | (go_simp; done) | (go_simp; rfl)); (case hp => exact (Reps.none _ _)); intro q3 s4 ho34 hb hg_ hnew_; clear hg_ hnew_; (first | rw [← Ny872.out] at ho34 | (simp only [Int.reduceToNat] at ho34; rw [← Ny872.out] at ho34)); replace a4 := ak (Kd.S_elder' (xS a4.out) (Kd.R_base ho34) hb); have h4 := ak (Kd.R_lower (Kd.R_new' (Kd.R_new' ho34 (Kd.R_lt (xR b3.out))) (Kd.R_lt (xR a3.out))) (below_size z1s_0)); replace b3 := ak (Kd.R_elder' (xR b3.out) (Kd.R_base ho34) hb); replace a3 := ak (Kd.R_elder' (xR a3.out) (Kd.R_base ho34) hb); replace a0 := ak (blk_below (g := a7) (o := .cells #[.slice A0_0 l0_0.length c0_0, .slice A0_1 l0_1.length c0_1] 27 (0, 0)) (xb a0.out) hb); replace a5 := ak (blk_below (g := a9) (o := .cells #[.slice none 0 0, .slice none 0 0] 27 (0, 0)) (xb a5.out) hb); replace a2 := ak (blk_below (g := b2) (o := .cells #[u865000, u865001] 27 (0, 0)) (xb a2.out) hb); replace HB := ak (below_step z1s_0 hb); clear hb ho34))
       go_loopg [9, 10] k2 (fun kq v9 q4 w' => ∃ (e0 : List Int) (a8 : Int) (b5 : List Int) (u865001 : Value), q4 = .int .i64 a8 ∧ Aside0 (spec_PartOf.l2 kq a6 b1 e0 a8 l0_0 l0_1 b0 b5 = some (r1, r2)) ∧ Aside0 (kq ≤ k2) ∧ Aside0 (Kd.R (Kd.int .i64) 3 w' w.heap.size (fun k_ => some k_ ≠ (v9 : Value).ownBlock ∧ some k_ ≠ (u865001 : Value).ownBlock) (.slice e1 a6.length d9) a6) ∧ Aside0 (Kd.R (Kd.int .i64) 3 w' w.heap.size (fun k_ => some k_ ≠ ((.slice e1 a6.length d9) : Value).ownBlock ∧ some k_ ≠ (u865001 : Value).ownBlock) v9 e0) ∧ Aside0 (Kd.S (Kd.slice 3 (Kd.int .i64)) 25 w' w.heap.size (fun k_ => some k_ ≠ ((.slice e1 a6.length d9) : Value).ownBlock ∧ some k_ ≠ (v9 : Value).ownBlock ∧ some k_ ≠ (u865001 : Value).ownBlock) u865000 b0) ∧ Aside0 (Kd.R (Kd.int .i64) 3 w' w.heap.size (fun k_ => some k_ ≠ ((.slice e1 a6.length d9) : Value).ownBlock ∧ some k_ ≠ (v9 : Value).ownBlock) u865001 b5) ∧ Aside0 (w'.heap[a7]? = some (.cells #[(.slice A0_0 l0_0.length c0_0), (.slice A0_1 l0_1.length c0_1)] 27 (0, 0))) ∧ Aside0 (w'.heap[a9]? = some (.cells #[(.slice none 0 0), (.slice none 0 0)] 27 (0, 0))) ∧ Aside0 (w'.heap[b2]? = some (.cells #[u865000, u865001] 27 (0, 0))) ∧ Aside0 (Below w.heap.size w w'))
       case atStart => exact ⟨(y872), (0), (b8), (u865001), z1s_8, H', ⟨Nat.le_refl _⟩, ⟨z1s_4⟩, ⟨(by (with_reducible repeat (first | apply Kd.R_alloc | apply Kd.R_drewN | apply Kd.R_drew)); exact Kd.R_mono h4.out (fun _ hk => ⟨hk.1.2, hk.2⟩))⟩, ⟨z1s_12⟩, ⟨(xR a3.out)⟩, ⟨(xb a0.out)⟩, ⟨(xb a5.out)⟩, ⟨(xb a2.out)⟩, ⟨z1s_0⟩⟩
       case round =>
        clear H'
        try clear c4
        try clear q2
        try clear e8
        try clear s5
        try clear g0
        try clear d1
        try clear d2
        try clear d3
        try clear d4
        obtain ⟨e0, a8, b5, u865001, rfl, HA, HK3, b3, d6, a4, a3, a0, a5, a2, HB⟩ := hrel
        cases gk with
        | zero => exact absurd HA.out (by simp [spec_PartOf.l2])
        | succ k3 =>
         have H := HA.out
         clear HA
         simp only [spec_PartOf.l2] at H
         replace H := os_ H
         rcases H with ⟨h5, H⟩ | ⟨h5, H⟩
         ·
          replace H := od6 H
          obtain ⟨l5, l6, l7, l8, l9, m0, H⟩ := H
          replace H := od_ H
          obtain ⟨m1, H⟩ := H
          replace H := ok_ H
          obtain ⟨m2, H⟩ := H
          have LMc43 := ak m2
          clear m2
          obtain ⟨y879, hy879⟩ : ∃ y_ : List Int, y_ = (e0 ++ [rd (rd_L1 l0_0 (rd a6 b1)) (rd a6 a8)]) := ⟨_, rfl⟩
          replace H : (if (rd a6 b1) < (l0_1.length : Int) then (if (rd l0_1 (rd a6 b1)) = (rd a6 a8) then (if b5.length < 17592186044416 then (spec_PartOf.l2 k3 a6 b1 y879 (wrap64 (a8 + 1)) l0_0 l0_1 b0 (b5 ++ [a8])) else (none)) else (spec_PartOf.l2 k3 a6 b1 y879 (wrap64 (a8 + 1)) l0_0 l0_1 b0 b5)) else (none)) = some (r1, r2) := by first | (rw [hy879]; with_reducible exact H) | (have H2_ := (Option.bind_some _ _).symm.trans H; rw [hy879]; with_reducible exact H2_) | (have H2_ := (Option.bind_some _ _).symm.trans H; with_reducible exact H2_) | with_reducible exact H | (rw [hy879]; exact H) | exact H
          have Ny879 := ak hy879
          clear hy879
          replace H := od_ H
          obtain ⟨m3, H⟩ := H
          replace H := oe2 H
          rcases H with ⟨⟨-, h6, h7⟩, H⟩ | ⟨⟨s6, h6, h7⟩, H⟩
          ·
           replace H := ok_ H
           obtain ⟨m4, H⟩ := H
           have LMc46 := ak m4
           clear m4
           obtain ⟨y885, hy885⟩ : ∃ y_ : List Int, y_ = (b5 ++ [a8]) := ⟨_, rfl⟩
           replace H : (spec_PartOf.l2 k3 a6 b1 y879 (wrap64 (a8 + 1)) l0_0 l0_1 b0 y885) = some (r1, r2) := by first | (rw [hy885]; with_reducible exact H) | (have H2_ := (Option.bind_some _ _).symm.trans H; rw [hy885]; with_reducible exact H2_) | (have H2_ := (Option.bind_some _ _).symm.trans H; with_reducible exact H2_) | with_reducible exact H | (rw [hy885]; exact H) | exact H
           have Ny885 := ak hy885
           clear hy885
           have H' := ak H
           clear H
           try go_wp2
           replace b3 := ak (Kd.R_drew b3.out)
           replace d6 := ak (Kd.R_drew d6.out)
           replace a4 := ak (Kd.S_drew a4.out)
           replace a3 := ak (Kd.R_drew a3.out)
           replace a0 := ak (blk_drew a0.out)
           replace a5 := ak (blk_drew a5.out)
           replace a2 := ak (blk_drew a2.out)
           replace HB := ak (below_drew1 HB.out)
           obtain ⟨ad875, e875, hx875_0, i2, q875⟩ := ai_ (Kd.R_reads' b3.out).2.2 b1
           cases e875
           have e2 : 0 ≤ ((rd a6 b1) : Int) := oa_
           have q876 : (rd a6 b1) < (l0_0.length : Int) := oa_
           obtain ⟨ad876, g3, e3, e876, hx876_0, hl876_0, hi876_0⟩ := at_L1 HR0_0.out (rd a6 b1) e2 q876
           have hw876_0 := hx876_0
           cases e876
           replace hx876_0 := (HB.out.cell (World.block_lt_of_cell? w _ hx876_0)).trans hx876_0
           have HR876_0 := ak hi876_0
           have f1 := ak hl876_0
           clear hi876_0 hl876_0
           replace e2 := eq_true e2
           replace q876 := eq_true q876
           obtain ⟨ad877, e877, hx877_0, i3, q877⟩ := ai_ (Kd.R_reads' b3.out).2.2 a8
           obtain rfl := ij_ e877
           have e4 : 0 ≤ ((rd a6 a8) : Int) := oa_
           have q878 : (rd a6 a8) < ((rd_L1 l0_0 (rd a6 b1)).length : Int) := oa_
           obtain ⟨ad878, e878, hx878_0⟩ := Kd.at_int HR876_0.out (rd a6 a8) e4 q878
           have hw878_0 := hx878_0
           cases e878
           replace hx878_0 := (HB.out.cell (World.block_lt_of_cell? w _ hx878_0)).trans hx878_0
           replace e4 := eq_true e4
           replace q878 := eq_true q878
           refine start_ (n := 18) (S := fun w' => w'.cell? ⟨a7, 0, none⟩ = some (.slice (some ad876) l0_0.length c0_0) ∧ w'.cell? ⟨a7, 1, none⟩ = some (.slice A0_1 l0_1.length c0_1) ∧ w'.cell? (ad875.add (b1).toNat) = some (.int .i64 (rd a6 b1)) ∧ w'.cell? (ad876.add ((rd a6 b1)).toNat) = some (.slice (some ad878) (rd_L1 l0_0 (rd a6 b1)).length e3) ∧ w'.cell? (ad875.add (a8).toNat) = some (.int .i64 (rd a6 a8)) ∧ w'.cell? (ad878.add ((rd a6 a8)).toNat) = some (.int .i64 (rd (rd_L1 l0_0 (rd a6 b1)) (rd a6 a8)))) (ds := [15, 16]) (bA 18 0) (by kernel_rfl) rfl rfl ⟨(blk_cell a0.out 0).trans rfl, (blk_cell a0.out 1).trans rfl, hx875_0, ((HB.out.cell (World.block_lt_of_cell? w _ hw876_0)).trans hw876_0), hx877_0, ((HB.out.cell (World.block_lt_of_cell? w _ hw878_0)).trans hw878_0)⟩ (fun hHeld => ?_); refine with_tabW spec_PartOf.tab17 spec_PartOf.bits17 (fun HT_ HW_ => ?_)
           generalize wr.drew = s7 at b3 d6 a4 a3 a0 a5 a2 HB HR876_0 hx875_0 hx876_0 hx877_0 hx878_0 hHeld ⊢
           refine pu_ (i := 0) (N := some 47) (bA 18 1) ?_
           refine pu_ (i := 1) (N := some 48) (bA 18 3) ?_
           refine pu_ (i := 3) (N := some 50) (bA 18 11) ?_
           refine pu_ (i := 4) (N := some 51) (bA 18 27) ?_
           refine pu_ (i := 5) (N := some 52) (bA 18 59) ?_
           refine pu_ (i := 9) (N := some 56) (bA 18 571) ?_
           refine pu_ (i := 10) (N := some 57) (bA 18 1595) ?_
           refine pu_ (i := 11) (N := some 58) (bA 18 3643) ?_
           refine tk_ (i := 2) (N := some 49) (bA 18 3647) ?_
           refine tk_ (i := 6) (N := some 53) (bA 18 3711) ?_
           refine pu_ (i := 7) (N := some 54) (bA 18 3839) ?_
           refine tk_ (i := 8) (N := some 55) (bA 18 4095) ?_
           refine tk_ (i := 12) (N := some 59) (bA 18 8191) ?_
           refine pu_ (i := 13) (N := some 60) (bA 18 16383) ?_
           refine tk_ (i := 14) (N := some 61) (bA 18 32767) ?_
           refine last_ (i := 15) (N := some 62) (bA 18 65535) rfl rfl (one_of HT_.out (by kernel_rfl)) z1s_13 (fun K hK => ?_)
           refine value_ (w1 := ?_) (v := ?_) (by rfl) rfl ?_ ?_
           rotate_left 2
           ·
            go_simp
            constructor
            ·
             rfl
            rfl
           refine hK.out _ _ ?_
           clear hK K
           refine no_ (N := some 62) ?_
           refine last_ (i := 16) (N := some 63) (bA 18 131071) rfl rfl (one_of HT_.out (by kernel_rfl)) z1s_13 (fun K hK => ?_)
           refine Kd.R_append_step (Kd.int .i64) (w0 := w) w.heap.size (by rfl) (.tmp 47) (.tmp 62) 25 3 (.int .i64 0) 8 rfl Try.underlying25 info3 rfl z1s_13 (by omega) u9 e0 (rd (rd_L1 l0_0 (rd a6 b1)) (rd a6 a8)) [.int .i64 (rd (rd_L1 l0_0 (rd a6 b1)) (rd a6 a8))] (fun k_ => some k_ ≠ (.slice (some ad875) a6.length d9 : Value).ownBlock ∧ some k_ ≠ (u865001 : Value).ownBlock) (fun _ => False) rfl rfl ?aP (fun _ hk => hk.elim) ?aF ?aO ?aB ?aS ?aL ?_
           (case aP => exact rfl)
           (case aB => exact z1s_0)
           (case aF => exact (fun k_ hk => ⟨Kd.fresh' (Kd.R_lt (xR b3.out)) k_ hk, Kd.fresh' (Kd.R_lt (xR a3.out)) k_ hk⟩))
           (case aO => exact (xR d6.out))
           (case aS => exact (below_size z1s_0))
           (case aL => have := LMc43.out; omega)
           intro f2 q5 ho hb hg hat
           rw [← Ny879.out] at ho
           replace b3 := ak (Kd.R_after (ok := (fun k_ => some k_ ≠ (u865001 : Value).ownBlock)) z1s_4 hg hat)
           replace a4 := ak (Kd.S_after (ok := (fun k_ => some k_ ≠ (.slice (some ad875) a6.length d9 : Value).ownBlock ∧ some k_ ≠ (u865001 : Value).ownBlock)) z1s_11 hg hat)
           replace a3 := ak (Kd.R_after (ok := (fun k_ => some k_ ≠ (.slice (some ad875) a6.length d9 : Value).ownBlock)) (xR a3.out) hg hat)
           replace a0 := ak (blk_grown (g := a7) (o := .cells #[.slice (some ad876) l0_0.length c0_0, .slice A0_1 l0_1.length c0_1] 27 (0, 0)) (xb a0.out) hg (Kd.R_ne d6.out a0.out z1s_13))
           replace a5 := ak (blk_grown (g := a9) (o := .cells #[.slice none 0 0, .slice none 0 0] 27 (0, 0)) (xb a5.out) hg (Kd.R_ne d6.out a5.out z1s_13))
           replace a2 := ak (blk_grown (g := b2) (o := .cells #[u865000, u865001] 27 (0, 0)) (xb a2.out) hg (Kd.R_ne d6.out a2.out z1s_13))
           replace HB := ak (hb)
           have d7 := ak (ho)
           clear d6 ho hb hg hat
           refine hK.out _ _ ?_
           clear hK K
           refine no_ (N := some 63) ?_
           refine pu_ (i := 17) (N := some 9) (bA 18 262143) ?_
           refine done_ (done_of HT_.out (by kernel_rfl)) ?_
           try go_wp2
           replace b3 := ak (Kd.R_drew b3.out)
           replace a4 := ak (Kd.S_drew a4.out)
           replace a3 := ak (Kd.R_drew a3.out)
           replace d7 := ak (Kd.R_drew d7.out)
           replace a0 := ak (blk_drew a0.out)
           replace a5 := ak (blk_drew a5.out)
           replace a2 := ak (blk_drew a2.out)
           replace HB := ak (below_drew1 HB.out)
           obtain ⟨ad882, e882, hx882_0, i4, q882⟩ := ai_ (Kd.R_reads' b3.out).2.2 b1
           obtain rfl := ij_ e882
           have e5 : 0 ≤ ((rd a6 b1) : Int) := oa_
           have q883 : (rd a6 b1) < (l0_1.length : Int) := oa_
           obtain ⟨ad883, e883, hx883_0⟩ := Kd.at_int HR0_1.out (rd a6 b1) e5 q883
           have hw883_0 := hx883_0
           cases e883
           replace hx883_0 := (HB.out.cell (World.block_lt_of_cell? w _ hx883_0)).trans hx883_0
           replace e5 := eq_true e5
           replace q883 := eq_true q883
           obtain ⟨ad884, e884, hx884_0, i5, q884⟩ := ai_ (Kd.R_reads' b3.out).2.2 a8
           obtain rfl := ij_ e884
           refine start_ (n := 13) (S := fun w' => w'.cell? ⟨a7, 0, none⟩ = some (.slice (some ad876) l0_0.length c0_0) ∧ w'.cell? ⟨a7, 1, none⟩ = some (.slice (some ad883) l0_1.length c0_1) ∧ w'.cell? (ad875.add (b1).toNat) = some (.int .i64 (rd a6 b1)) ∧ w'.cell? (ad883.add ((rd a6 b1)).toNat) = some (.int .i64 (rd l0_1 (rd a6 b1))) ∧ w'.cell? (ad875.add (a8).toNat) = some (.int .i64 (rd a6 a8))) (ds := []) (bA 13 0) (by kernel_rfl) rfl rfl ⟨(blk_cell a0.out 0).trans rfl, (blk_cell a0.out 1).trans rfl, hx882_0, ((HB.out.cell (World.block_lt_of_cell? w _ hw883_0)).trans hw883_0), hx884_0⟩ (fun hHeld => ?_); refine with_tabW spec_PartOf.tab18 spec_PartOf.bits18 (fun HT_ HW_ => ?_)
           generalize q5.drew = s8 at b3 a4 a3 d7 a0 a5 a2 HB hx882_0 hx883_0 hx884_0 hHeld ⊢
           refine pu_ (i := 0) (N := some 64) (bA 13 1) ?_
           refine pu_ (i := 2) (N := some 66) (bA 13 5) ?_
           refine pu_ (i := 3) (N := some 67) (bA 13 13) ?_
           refine pu_ (i := 4) (N := some 68) (bA 13 29) ?_
           refine pu_ (i := 8) (N := some 72) (bA 13 285) ?_
           refine pu_ (i := 9) (N := some 73) (bA 13 797) ?_
           refine pu_ (i := 10) (N := some 74) (bA 13 1821) ?_
           refine tk_ (i := 1) (N := some 65) (bA 13 1823) ?_
           refine tk_ (i := 5) (N := some 69) (bA 13 1855) ?_
           refine pu_ (i := 6) (N := some 70) (bA 13 1919) ?_
           refine tk_ (i := 7) (N := some 71) (bA 13 2047) ?_
           refine tk_ (i := 11) (N := some 75) (bA 13 4095) ?_
           refine pu_ (i := 12) (N := some 76) (bA 13 8191) ?_
           refine done_ (done_of HT_.out (by kernel_rfl)) ?_
           have m5 := b7.out
           have m6 := b4.out
           have m7 := d5.out
           have m8 := b6.out
           have d1 := cz20 a2.out
           have d2 := cz21 a2.out
           have d3 := blk_frozen a2.out 0
           have d4 := blk_frozen a2.out 1
           try go_wp2_with (first | ((with_reducible refine gate_builtin (b := .append) (xs := #[.tmp 78, .tmp 80]) rfl ?_); at_builtin; refine Kd.R_append (Kd.int .i64) (w0 := w) w.heap.size rfl (.tmp 78) (.tmp 80) 25 3 (.int .i64 0) 8 rfl Try.underlying25 info3 rfl z1s_13 (by omega) u865001 b5 a8 [.int .i64 a8] (fun k_ => some k_ ≠ (.slice (some ad875) a6.length d9 : Value).ownBlock ∧ some k_ ≠ (f2 : Value).ownBlock) (fun _ => False) rfl rfl ?aP (fun _ hk => hk.elim) ?aF ?aO ?aB ?aS ?aL ?_; (case aP => exact rfl); (case aB => exact z1s_0); (case aF => exact (fun k_ hk => ⟨Kd.fresh' (Kd.R_lt (xR b3.out)) k_ hk, Kd.fresh' (Kd.R_lt (xR d7.out)) k_ hk⟩)); (case aO => exact (xR a3.out)); (case aS => exact (below_size z1s_0)); (case aL => have := LMc46.out; omega); intro q6 s9 ho hb hg hat; rw [← Ny885.out] at ho; replace b3 := ak (Kd.R_after (ok := (fun k_ => some k_ ≠ (f2 : Value).ownBlock)) z1s_4 hg hat); replace a4 := ak (Kd.S_after (ok := (fun k_ => some k_ ≠ (.slice (some ad875) a6.length d9 : Value).ownBlock ∧ some k_ ≠ (f2 : Value).ownBlock)) (by (with_reducible repeat (first | apply Kd.S_alloc | apply Kd.S_drewN | apply Kd.S_drew)); exact Kd.S_mono a4.out (fun _ hk => ⟨⟨hk.1.1, hk.2⟩, hk.1.2⟩)) hg hat); replace a0 := ak (blk_grown (g := a7) (o := .cells #[.slice (some ad876) l0_0.length c0_0, .slice (some ad883) l0_1.length c0_1] 27 (0, 0)) (xb a0.out) hg (Kd.R_ne a3.out a0.out z1s_13)); replace a5 := ak (blk_grown (g := a9) (o := .cells #[.slice none 0 0, .slice none 0 0] 27 (0, 0)) (xb a5.out) hg (Kd.R_ne a3.out a5.out z1s_13)); replace a2 := ak (blk_grown (g := b2) (o := .cells #[u865000, u865001] 27 (0, 0)) (xb a2.out) hg (Kd.R_ne a3.out a2.out z1s_13)); replace d7 := ak (Kd.R_after (ok := (fun k_ => some k_ ≠ (.slice (some ad875) a6.length d9 : Value).ownBlock)) (xR d7.out) hg hat); replace HB := ak (hb); have g1 := ak (ho); clear a3; clear ho hb hg hat; obtain ⟨e9, f0, i6⟩ := Kd.R_slice g1.out; subst i6; have d1 := cz20 a2.out; have d2 := cz21 a2.out; have d3 := blk_frozen a2.out 0; have d4 := blk_frozen a2.out 1))
           go_roundg k3
           case measure => have := HK1.out; have := HK2.out; have := HK3.out; omega
           case rel => exact ⟨(y879), (wrap64 (a8 + 1)), (y885), (.slice e9 y885.length f0), z1s_8, H', ⟨(by have := HK1.out; have := HK2.out; have := HK3.out; omega)⟩, ⟨(by (with_reducible repeat (first | apply Kd.R_alloc | apply Kd.R_drewN | apply Kd.R_drew)); exact Kd.R_mono (Kd.R_far (p := ⟨b2, 1, none⟩) (Kd.R_types b3.out a2.out z1s_13) (fun _ hk => hk.2) (.slice e9 y885.length f0)) (fun _ hk => ⟨hk.1.1, hk.1.2⟩))⟩, ⟨(by (with_reducible repeat (first | apply Kd.R_alloc | apply Kd.R_drewN | apply Kd.R_drew)); exact Kd.R_mono (Kd.R_far (p := ⟨b2, 1, none⟩) (Kd.R_types d7.out a2.out z1s_13) (fun _ hk => hk.2) (.slice e9 y885.length f0)) (fun _ hk => ⟨hk.1.1, hk.1.2⟩))⟩, ⟨(by (with_reducible repeat (first | apply Kd.S_alloc | apply Kd.S_drewN | apply Kd.S_drew)); exact Kd.S_mono (Kd.S_far (p := ⟨b2, 1, none⟩) (Kd.S_types a4.out a2.out z1s_13) (fun _ hk => hk.2) (.slice e9 y885.length f0)) (fun _ hk => ⟨hk.1.1.1, ⟨hk.1.1.2, hk.1.2⟩⟩))⟩, ⟨(by (with_reducible repeat (first | apply Kd.R_alloc | apply Kd.R_drewN | apply Kd.R_drew)); exact Kd.R_mono (Kd.R_far (p := ⟨b2, 1, none⟩) (Kd.R_types g1.out a2.out z1s_13) (fun _ hk => hk.2) (.slice e9 y885.length f0)) (fun _ hk => ⟨hk.1.1, hk.1.2⟩))⟩, ⟨z1s_10⟩, ⟨z1s_9⟩, ⟨(by (with_reducible repeat (first | refine blk_drewN ?_ _ | refine blk_drew ?_ | refine blk_alloc ?_ _)); refine blk_put (cs := #[u865000, u865001]) ?_ 1 _ rfl; (with_reducible repeat (first | refine blk_drewN ?_ _ | refine blk_drew ?_ | refine blk_alloc ?_ _)); exact a2.out)⟩, ⟨z1s_0⟩⟩
          have H' := ak H
          clear H
          try go_wp2
          replace b3 := ak (Kd.R_drew b3.out)
          replace d6 := ak (Kd.R_drew d6.out)
          replace a4 := ak (Kd.S_drew a4.out)
          replace a3 := ak (Kd.R_drew a3.out)
          replace a0 := ak (blk_drew a0.out)
          replace a5 := ak (blk_drew a5.out)
          replace a2 := ak (blk_drew a2.out)
          replace HB := ak (below_drew1 HB.out)
          obtain ⟨ad875, e875, hx875_0, i2, q875⟩ := ai_ (Kd.R_reads' b3.out).2.2 b1
          cases e875
          have e2 : 0 ≤ ((rd a6 b1) : Int) := oa_
          have q876 : (rd a6 b1) < (l0_0.length : Int) := oa_
          obtain ⟨ad876, g3, e3, e876, hx876_0, hl876_0, hi876_0⟩ := at_L1 HR0_0.out (rd a6 b1) e2 q876
          have hw876_0 := hx876_0
          cases e876
          replace hx876_0 := (HB.out.cell (World.block_lt_of_cell? w _ hx876_0)).trans hx876_0
          have HR876_0 := ak hi876_0
          have f1 := ak hl876_0
          clear hi876_0 hl876_0
          replace e2 := eq_true e2
          replace q876 := eq_true q876
          obtain ⟨ad877, e877, hx877_0, i3, q877⟩ := ai_ (Kd.R_reads' b3.out).2.2 a8
          obtain rfl := ij_ e877
          have e4 : 0 ≤ ((rd a6 a8) : Int) := oa_
          have q878 : (rd a6 a8) < ((rd_L1 l0_0 (rd a6 b1)).length : Int) := oa_
          obtain ⟨ad878, e878, hx878_0⟩ := Kd.at_int HR876_0.out (rd a6 a8) e4 q878
          have hw878_0 := hx878_0
          cases e878
          replace hx878_0 := (HB.out.cell (World.block_lt_of_cell? w _ hx878_0)).trans hx878_0
          replace e4 := eq_true e4
          replace q878 := eq_true q878
          refine start_ (n := 18) (S := fun w' => w'.cell? ⟨a7, 0, none⟩ = some (.slice (some ad876) l0_0.length c0_0) ∧ w'.cell? ⟨a7, 1, none⟩ = some (.slice A0_1 l0_1.length c0_1) ∧ w'.cell? (ad875.add (b1).toNat) = some (.int .i64 (rd a6 b1)) ∧ w'.cell? (ad876.add ((rd a6 b1)).toNat) = some (.slice (some ad878) (rd_L1 l0_0 (rd a6 b1)).length e3) ∧ w'.cell? (ad875.add (a8).toNat) = some (.int .i64 (rd a6 a8)) ∧ w'.cell? (ad878.add ((rd a6 a8)).toNat) = some (.int .i64 (rd (rd_L1 l0_0 (rd a6 b1)) (rd a6 a8)))) (ds := [15, 16]) (bA 18 0) (by kernel_rfl) rfl rfl ⟨(blk_cell a0.out 0).trans rfl, (blk_cell a0.out 1).trans rfl, hx875_0, ((HB.out.cell (World.block_lt_of_cell? w _ hw876_0)).trans hw876_0), hx877_0, ((HB.out.cell (World.block_lt_of_cell? w _ hw878_0)).trans hw878_0)⟩ (fun hHeld => ?_); refine with_tabW spec_PartOf.tab17 spec_PartOf.bits17 (fun HT_ HW_ => ?_)
          generalize wr.drew = u0 at b3 d6 a4 a3 a0 a5 a2 HB HR876_0 hx875_0 hx876_0 hx877_0 hx878_0 hHeld ⊢
          refine pu_ (i := 0) (N := some 47) (bA 18 1) ?_
          refine pu_ (i := 1) (N := some 48) (bA 18 3) ?_
          refine pu_ (i := 3) (N := some 50) (bA 18 11) ?_
          refine pu_ (i := 4) (N := some 51) (bA 18 27) ?_
          refine pu_ (i := 5) (N := some 52) (bA 18 59) ?_
          refine pu_ (i := 9) (N := some 56) (bA 18 571) ?_
          refine pu_ (i := 10) (N := some 57) (bA 18 1595) ?_
          refine pu_ (i := 11) (N := some 58) (bA 18 3643) ?_
          refine tk_ (i := 2) (N := some 49) (bA 18 3647) ?_
          refine tk_ (i := 6) (N := some 53) (bA 18 3711) ?_
          refine pu_ (i := 7) (N := some 54) (bA 18 3839) ?_
          refine tk_ (i := 8) (N := some 55) (bA 18 4095) ?_
          refine tk_ (i := 12) (N := some 59) (bA 18 8191) ?_
          refine pu_ (i := 13) (N := some 60) (bA 18 16383) ?_
          refine tk_ (i := 14) (N := some 61) (bA 18 32767) ?_
          refine last_ (i := 15) (N := some 62) (bA 18 65535) rfl rfl (one_of HT_.out (by kernel_rfl)) z1s_13 (fun K hK => ?_)
          refine value_ (w1 := ?_) (v := ?_) (by rfl) rfl ?_ ?_
          rotate_left 2
          ·
           go_simp
           constructor
           ·
            rfl
           rfl
          refine hK.out _ _ ?_
          clear hK K
          refine no_ (N := some 62) ?_
          refine last_ (i := 16) (N := some 63) (bA 18 131071) rfl rfl (one_of HT_.out (by kernel_rfl)) z1s_13 (fun K hK => ?_)
          refine Kd.R_append_step (Kd.int .i64) (w0 := w) w.heap.size (by rfl) (.tmp 47) (.tmp 62) 25 3 (.int .i64 0) 8 rfl Try.underlying25 info3 rfl z1s_13 (by omega) u9 e0 (rd (rd_L1 l0_0 (rd a6 b1)) (rd a6 a8)) [.int .i64 (rd (rd_L1 l0_0 (rd a6 b1)) (rd a6 a8))] (fun k_ => some k_ ≠ (.slice (some ad875) a6.length d9 : Value).ownBlock ∧ some k_ ≠ (u865001 : Value).ownBlock) (fun _ => False) rfl rfl ?aP (fun _ hk => hk.elim) ?aF ?aO ?aB ?aS ?aL ?_
          (case aP => exact rfl)
          (case aB => exact z1s_0)
          (case aF => exact (fun k_ hk => ⟨Kd.fresh' (Kd.R_lt (xR b3.out)) k_ hk, Kd.fresh' (Kd.R_lt (xR a3.out)) k_ hk⟩))
          (case aO => exact (xR d6.out))
          (case aS => exact (below_size z1s_0))
          (case aL => have := LMc43.out; omega)
          intro f2 q7 ho hb hg hat
          rw [← Ny879.out] at ho
          replace b3 := ak (Kd.R_after (ok := (fun k_ => some k_ ≠ (u865001 : Value).ownBlock)) z1s_4 hg hat)
          replace a4 := ak (Kd.S_after (ok := (fun k_ => some k_ ≠ (.slice (some ad875) a6.length d9 : Value).ownBlock ∧ some k_ ≠ (u865001 : Value).ownBlock)) z1s_11 hg hat)
          replace a3 := ak (Kd.R_after (ok := (fun k_ => some k_ ≠ (.slice (some ad875) a6.length d9 : Value).ownBlock)) (xR a3.out) hg hat)
          replace a0 := ak (blk_grown (g := a7) (o := .cells #[.slice (some ad876) l0_0.length c0_0, .slice A0_1 l0_1.length c0_1] 27 (0, 0)) (xb a0.out) hg (Kd.R_ne d6.out a0.out z1s_13))
          replace a5 := ak (blk_grown (g := a9) (o := .cells #[.slice none 0 0, .slice none 0 0] 27 (0, 0)) (xb a5.out) hg (Kd.R_ne d6.out a5.out z1s_13))
          replace a2 := ak (blk_grown (g := b2) (o := .cells #[u865000, u865001] 27 (0, 0)) (xb a2.out) hg (Kd.R_ne d6.out a2.out z1s_13))
          replace HB := ak (hb)
          have d7 := ak (ho)
          clear d6 ho hb hg hat
          refine hK.out _ _ ?_
          clear hK K
          refine no_ (N := some 63) ?_
          refine pu_ (i := 17) (N := some 9) (bA 18 262143) ?_
          refine done_ (done_of HT_.out (by kernel_rfl)) ?_
          try go_wp2
          replace b3 := ak (Kd.R_drew b3.out)
          replace a4 := ak (Kd.S_drew a4.out)
          replace a3 := ak (Kd.R_drew a3.out)
          replace d7 := ak (Kd.R_drew d7.out)
          replace a0 := ak (blk_drew a0.out)
          replace a5 := ak (blk_drew a5.out)
          replace a2 := ak (blk_drew a2.out)
          replace HB := ak (below_drew1 HB.out)
          obtain ⟨ad882, e882, hx882_0, i4, q882⟩ := ai_ (Kd.R_reads' b3.out).2.2 b1
          obtain rfl := ij_ e882
          have e5 : 0 ≤ ((rd a6 b1) : Int) := oa_
          have q883 : (rd a6 b1) < (l0_1.length : Int) := oa_
          obtain ⟨ad883, e883, hx883_0⟩ := Kd.at_int HR0_1.out (rd a6 b1) e5 q883
          have hw883_0 := hx883_0
          cases e883
          replace hx883_0 := (HB.out.cell (World.block_lt_of_cell? w _ hx883_0)).trans hx883_0
          replace e5 := eq_true e5
          replace q883 := eq_true q883
          obtain ⟨ad884, e884, hx884_0, i5, q884⟩ := ai_ (Kd.R_reads' b3.out).2.2 a8
          obtain rfl := ij_ e884
          refine start_ (n := 13) (S := fun w' => w'.cell? ⟨a7, 0, none⟩ = some (.slice (some ad876) l0_0.length c0_0) ∧ w'.cell? ⟨a7, 1, none⟩ = some (.slice (some ad883) l0_1.length c0_1) ∧ w'.cell? (ad875.add (b1).toNat) = some (.int .i64 (rd a6 b1)) ∧ w'.cell? (ad883.add ((rd a6 b1)).toNat) = some (.int .i64 (rd l0_1 (rd a6 b1))) ∧ w'.cell? (ad875.add (a8).toNat) = some (.int .i64 (rd a6 a8))) (ds := []) (bA 13 0) (by kernel_rfl) rfl rfl ⟨(blk_cell a0.out 0).trans rfl, (blk_cell a0.out 1).trans rfl, hx882_0, ((HB.out.cell (World.block_lt_of_cell? w _ hw883_0)).trans hw883_0), hx884_0⟩ (fun hHeld => ?_); refine with_tabW spec_PartOf.tab18 spec_PartOf.bits18 (fun HT_ HW_ => ?_)
          generalize q7.drew = u1 at b3 a4 a3 d7 a0 a5 a2 HB hx882_0 hx883_0 hx884_0 hHeld ⊢
          refine pu_ (i := 0) (N := some 64) (bA 13 1) ?_
          refine pu_ (i := 2) (N := some 66) (bA 13 5) ?_
          refine pu_ (i := 3) (N := some 67) (bA 13 13) ?_
          refine pu_ (i := 4) (N := some 68) (bA 13 29) ?_
          refine pu_ (i := 8) (N := some 72) (bA 13 285) ?_
          refine pu_ (i := 9) (N := some 73) (bA 13 797) ?_
          refine pu_ (i := 10) (N := some 74) (bA 13 1821) ?_
          refine tk_ (i := 1) (N := some 65) (bA 13 1823) ?_
          refine tk_ (i := 5) (N := some 69) (bA 13 1855) ?_
          refine pu_ (i := 6) (N := some 70) (bA 13 1919) ?_
          refine tk_ (i := 7) (N := some 71) (bA 13 2047) ?_
          refine tk_ (i := 11) (N := some 75) (bA 13 4095) ?_
          refine pu_ (i := 12) (N := some 76) (bA 13 8191) ?_
          refine done_ (done_of HT_.out (by kernel_rfl)) ?_
          try go_wp2
          go_roundg k3
          case measure => have := HK1.out; have := HK2.out; have := HK3.out; omega
          case rel => exact ⟨(y879), (wrap64 (a8 + 1)), (b5), (u865001), z1s_8, H', ⟨(by have := HK1.out; have := HK2.out; have := HK3.out; omega)⟩, ⟨z1s_4⟩, ⟨(xR d7.out)⟩, ⟨z1s_12⟩, ⟨(xR a3.out)⟩, ⟨(xb a0.out)⟩, ⟨(xb a5.out)⟩, ⟨(xb a2.out)⟩, ⟨z1s_0⟩⟩
         replace H := ok_ H
         obtain ⟨m9, H⟩ := H
         have LMc59 := ak m9
         clear m9
         obtain ⟨y888, hy888⟩ : ∃ y_ : List (List Int), y_ = (b0 ++ [e0]) := ⟨_, rfl⟩
         replace H : (spec_PartOf.l1 k3 a6 (wrap64 (b1 + 1)) l0_0 l0_1 y888 b5) = some (r1, r2) := by first | (rw [hy888]; with_reducible exact H) | (have H2_ := (Option.bind_some _ _).symm.trans H; rw [hy888]; with_reducible exact H2_) | (have H2_ := (Option.bind_some _ _).symm.trans H; with_reducible exact H2_) | with_reducible exact H | (rw [hy888]; exact H) | exact H
         have Ny888 := ak hy888
         clear hy888
         have H' := ak H
         clear H
         have n0 := b7.out
         have n1 := b4.out
         have n2 := d5.out
         have n3 := b6.out
         have d1 := cz20 a2.out
         have d2 := cz21 a2.out
         have d3 := blk_frozen a2.out 0
         have d4 := blk_frozen a2.out 1
         obtain ⟨h8, h9, i7⟩ := Kd.R_slice d6.out
         subst i7
         go_wp2_with (first | ((with_reducible refine gate_builtin (b := .append) (xs := #[.tmp 84, .tmp 86]) rfl ?_); at_builtin; refine Kd.S_append (Kd.slice 3 (Kd.int .i64)) (w0 := w) w.heap.size rfl (.tmp 84) (.tmp 86) 24 25 (.slice none 0 0) 24 rfl Try.underlying24 info25 rfl z1s_13 (by omega) u865000 b0 e0 [.slice h8 e0.length h9] (fun k_ => some k_ ≠ (.slice e1 a6.length d9 : Value).ownBlock ∧ some k_ ≠ (u865001 : Value).ownBlock) (fun k_ => some k_ = (.slice h8 e0.length h9 : Value).ownBlock) rfl rfl ?aP (fun k_ hk_ => ((Kd.R_mono (ok' := fun k_ => ((fun k_ => some k_ ≠ (.slice e1 a6.length d9 : Value).ownBlock ∧ some k_ ≠ (u865001 : Value).ownBlock)) k_ ∧ some k_ ≠ (u865000 : Value).ownBlock) (Kd.R_apart' (d6.out) (Kd.S_typed a4.out) z1s_13) (fun k_ hk => ⟨⟨hk.1.1, hk.1.2⟩, hk.2⟩))).1 k_ hk_.symm) ?aF ?aO ?aB ?aS ?aL ?_; (case aP => exact Kd.M_row (Kd.R_mono (Kd.R_tight rfl (Kd.R_mono (ok' := fun k_ => ((fun k_ => some k_ ≠ (.slice e1 a6.length d9 : Value).ownBlock ∧ some k_ ≠ (u865001 : Value).ownBlock)) k_ ∧ some k_ ≠ (u865000 : Value).ownBlock) (Kd.R_apart' (d6.out) (Kd.S_typed a4.out) z1s_13) (fun k_ hk => ⟨⟨hk.1.1, hk.1.2⟩, hk.2⟩))) (fun _ h_ => h_))); (case aB => exact z1s_0); (case aF => exact (fun k_ hk => ⟨Kd.fresh' (Kd.R_lt (xR b3.out)) k_ hk, Kd.fresh' (Kd.R_lt (xR a3.out)) k_ hk⟩)); (case aO => exact (by (with_reducible repeat (first | apply Kd.S_alloc | apply Kd.S_drewN | apply Kd.S_drew)); exact Kd.S_mono a4.out (fun k_ hk => ⟨⟨hk.1, hk.2.2⟩, fun e_ => hk.2.1 e_⟩))); (case aS => exact (below_size z1s_0)); (case aL => have := LMc59.out; omega); intro q8 u2 ho hb hg hat; rw [← Ny888.out] at ho; replace b3 := ak (Kd.R_over' (xR b3.out) (Kd.S_typed (xS a4.out)) z1s_13 hg); replace a3 := ak (Kd.R_over' (xR a3.out) (Kd.S_typed (xS a4.out)) z1s_13 hg); replace a0 := ak (blk_grown (g := a7) (o := .cells #[.slice A0_0 l0_0.length c0_0, .slice A0_1 l0_1.length c0_1] 27 (0, 0)) (xb a0.out) hg (Kd.S_ne a4.out a0.out z1s_13)); replace a5 := ak (blk_grown (g := a9) (o := .cells #[.slice none 0 0, .slice none 0 0] 27 (0, 0)) (xb a5.out) hg (Kd.S_ne a4.out a5.out z1s_13)); replace a2 := ak (blk_grown (g := b2) (o := .cells #[u865000, u865001] 27 (0, 0)) (xb a2.out) hg (Kd.S_ne a4.out a2.out z1s_13)); replace HB := ak (hb); have g2 := ak (ho); clear a4 d6; clear ho hb hg hat; obtain ⟨f3, f4, i8⟩ := Kd.S_slice g2.out; subst i8; have d1 := cz20 a2.out; have d2 := cz21 a2.out; have d3 := blk_frozen a2.out 0; have d4 := blk_frozen a2.out 1))
         go_roundg k3
         case measure => have := HK1.out; have := HK2.out; have := HK3.out; omega
         case rel => exact ⟨(wrap64 (b1 + 1)), (y888), (b5), (.slice f3 y888.length f4), (u865001), z1s_8, H', ⟨(by have := HK1.out; have := HK2.out; have := HK3.out; omega)⟩, ⟨(by (with_reducible repeat (first | apply Kd.R_alloc | apply Kd.R_drewN | apply Kd.R_drew)); exact Kd.R_mono (Kd.R_far (p := ⟨b2, 0, none⟩) (Kd.R_types b3.out a2.out z1s_13) (fun _ hk => hk.2) (.slice f3 y888.length f4)) (fun _ hk => hk.1.2))⟩, ⟨(by (with_reducible repeat (first | apply Kd.S_alloc | apply Kd.S_drewN | apply Kd.S_drew)); exact Kd.S_mono (Kd.S_far (p := ⟨b2, 0, none⟩) (Kd.S_types g2.out a2.out z1s_13) (fun _ hk => hk.2) (.slice f3 y888.length f4)) (fun _ hk => ⟨hk.1.1, hk.1.2⟩))⟩, ⟨(by (with_reducible repeat (first | apply Kd.R_alloc | apply Kd.R_drewN | apply Kd.R_drew)); exact Kd.R_mono (Kd.R_far (p := ⟨b2, 0, none⟩) (Kd.R_types a3.out a2.out z1s_13) (fun _ hk => hk.2) (.slice f3 y888.length f4)) (fun _ hk => hk.1.1))⟩, ⟨z1s_10⟩, ⟨z1s_9⟩, ⟨(by (with_reducible repeat (first | refine blk_drewN ?_ _ | refine blk_drew ?_ | refine blk_alloc ?_ _)); refine blk_put (cs := #[u865000, u865001]) ?_ 0 _ rfl; (with_reducible repeat (first | refine blk_drewN ?_ _ | refine blk_drew ?_ | refine blk_alloc ?_ _)); exact a2.out)⟩, ⟨z1s_0⟩⟩
      simp only [Option.some.injEq, Prod.mk.injEq] at H
      obtain ⟨rfl, rfl⟩ := H
      obtain ⟨q9, s0, i9⟩ := Kd.R_slice b3.out
      subst i9
      have n4 := b7.out
      have n5 := b4.out
      have n6 := d5.out
      have n7 := b6.out
      have d1 := cz20 a2.out
      have d2 := cz21 a2.out
      have d3 := blk_frozen a2.out 0
      have d4 := blk_frozen a2.out 1
      obtain ⟨f5, f6, j0⟩ := Kd.S_slice a4.out
      subst j0
      have n8 := d0.out
      have n9 := b9.out
      have d1 := cz20 a5.out
      have d2 := cz21 a5.out
      have d3 := blk_frozen a5.out 0
      have d4 := blk_frozen a5.out 1
      obtain ⟨g4, g5, j1⟩ := Kd.R_slice a3.out
      subst j1
      go_wp2
      refine bodyPost_ret (results_cell_row rfl _ _ a9 27 #[.slice f5 b0.length f6, .slice g4 b8.length g5] (0, 0) _ rfl (by (with_reducible repeat (first | refine blk_drewN ?_ _ | refine blk_drew ?_ | refine blk_alloc ?_ _)); refine blk_put (cs := #[.slice f5 b0.length f6, .slice none 0 0]) ?_ 1 _ rfl; (with_reducible repeat (first | refine blk_drewN ?_ _ | refine blk_drew ?_ | refine blk_alloc ?_ _)); refine blk_put (cs := #[.slice none 0 0, .slice none 0 0]) ?_ 0 _ rfl; (with_reducible repeat (first | refine blk_drewN ?_ _ | refine blk_drew ?_ | refine blk_alloc ?_ _)); exact a5.out) Try.underlying27 rfl (by kernel_rfl)) rfl ?_
      exact ⟨_, _, (by first | rfl | (simp [errW_none, errW_some] <;> rfl) | (simp [*, errW_none, errW_some] <;> rfl)), (by (with_reducible repeat (first | apply Kd.S_alloc | apply Kd.S_drewN | apply Kd.S_drew)); exact Kd.S_mono (Kd.S_far (p := ⟨a9, 1, none⟩) (Kd.S_far (p := ⟨a9, 0, none⟩) (Kd.S_types a4.out a5.out z1s_13) (fun _ hk => hk.2) (.slice f5 b0.length f6)) (fun _ hk => hk.2) (.slice g4 b8.length g5)) (fun _ hk => hk.1.2)), (by (with_reducible repeat (first | apply Kd.R_alloc | apply Kd.R_drewN | apply Kd.R_drew)); exact Kd.R_mono (Kd.R_far (p := ⟨a9, 1, none⟩) (Kd.R_far (p := ⟨a9, 0, none⟩) (Kd.R_types a3.out a5.out z1s_13) (fun _ hk => hk.2) (.slice f5 b0.length f6)) (fun _ hk => hk.2) (.slice g4 b8.length g5)) (fun _ hk => trivial)), z1s_0⟩
 simp only [Option.some.injEq, Prod.mk.injEq] at H
 obtain ⟨rfl, rfl⟩ := H
 go_enter Try.func43, Try.ntmps43
 go_wp2_with (first | ((with_reducible refine gate_dst (N := 2) rfl ?_); refine bx_ (N := 2) (cs := #[.slice A0_0 l0_0.length c0_0, .slice A0_1 l0_1.length c0_1]) (t := 27) ?_; intro a7 hg u3 hbox hb; have a0 := ak (hbox); have g7 := ak ((by rw [hg]; exact (below_size z1s_3) : w.heap.size ≤ a7)); have e6 := ak ((by rw [hg]; exact (below_size z1s_3) : w.heap.size ≤ a7)); replace HB := ak (below_step z1s_3 hb); clear hb hbox hg) | ((with_reducible refine gate_dst (N := 4) rfl ?_); refine bx_ (N := 4) (cs := #[.slice none 0 0, .slice none 0 0]) (t := 27) ?_; intro a9 hg u4 hbox hb; have a5 := ak (hbox); have g8 := ak ((by rw [hg]; exact (below_size z1s_2) : w.heap.size ≤ a9)); have e7 := ak ((by rw [hg]; exact (below_size z1s_2) : w.heap.size ≤ a9)); replace HB := ak (below_step z1s_2 hb); have b9 := ak ((by rw [hg]; exact Nat.ne_of_lt (blk_lt (g := a7) (o := .cells #[.slice A0_0 l0_0.length c0_0, .slice A0_1 l0_1.length c0_1] 27 (0, 0)) (xb a0.out)) : a7 ≠ a9)); have d0 := ak ((by rw [hg]; exact Nat.ne_of_gt (blk_lt (g := a7) (o := .cells #[.slice A0_0 l0_0.length c0_0, .slice A0_1 l0_1.length c0_1] 27 (0, 0)) (xb a0.out)) : a9 ≠ a7)); replace a0 := ak (blk_below (g := a7) (o := .cells #[.slice A0_0 l0_0.length c0_0, .slice A0_1 l0_1.length c0_1] 27 (0, 0)) (xb a0.out) hb); clear hb hbox hg) | ((with_reducible refine gate_dst (N := 5) rfl ?_); refine bx_ (N := 5) (cs := #[.slice none 0 0, .slice none 0 0]) (t := 27) ?_; intro b2 hg u5 hbox hb; have a2 := ak (hbox); have g9 := ak ((by rw [hg]; exact (below_size z1s_1) : w.heap.size ≤ b2)); have f7 := ak ((by rw [hg]; exact (below_size z1s_1) : w.heap.size ≤ b2)); replace HB := ak (below_step z1s_1 hb); have b4 := ak ((by rw [hg]; exact Nat.ne_of_lt (blk_lt (g := a7) (o := .cells #[.slice A0_0 l0_0.length c0_0, .slice A0_1 l0_1.length c0_1] 27 (0, 0)) (xb a0.out)) : a7 ≠ b2)); have b7 := ak ((by rw [hg]; exact Nat.ne_of_gt (blk_lt (g := a7) (o := .cells #[.slice A0_0 l0_0.length c0_0, .slice A0_1 l0_1.length c0_1] 27 (0, 0)) (xb a0.out)) : b2 ≠ a7)); replace a0 := ak (blk_below (g := a7) (o := .cells #[.slice A0_0 l0_0.length c0_0, .slice A0_1 l0_1.length c0_1] 27 (0, 0)) (xb a0.out) hb); have b6 := ak ((by rw [hg]; exact Nat.ne_of_lt (blk_lt (g := a9) (o := .cells #[.slice none 0 0, .slice none 0 0] 27 (0, 0)) (xb a5.out)) : a9 ≠ b2)); have d5 := ak ((by rw [hg]; exact Nat.ne_of_gt (blk_lt (g := a9) (o := .cells #[.slice none 0 0, .slice none 0 0] 27 (0, 0)) (xb a5.out)) : b2 ≠ a9)); replace a5 := ak (blk_below (g := a9) (o := .cells #[.slice none 0 0, .slice none 0 0] 27 (0, 0)) (xb a5.out) hb); clear hb hbox hg; have o0 := b7.out; have o1 := b4.out; have o2 := d5.out; have o3 := b6.out; have d1 := cz20 a2.out; have d2 := cz21 a2.out; have d3 := blk_frozen a2.out 0; have d4 := blk_frozen a2.out 1; have o4 := b9.out; have o5 := d0.out; have d1 := cz20 a0.out; have d2 := cz21 a0.out; have d3 := blk_frozen a0.out 0; have d4 := blk_frozen a0.out 1) | ((with_reducible refine gate_callee (f := 36) rfl ?_); refine gl_ (some 14) Try.func36 #[.agg #[.slice A0_0 l0_0.length c0_0, .slice A0_1 l0_1.length c0_1], .int .i64 a1] ?_; (with_reducible refine (spec_SubOk.calls k _ _ l0_0 _ _ l0_1 a1 false _ (by exact Kd.C_below HR0_0.out z1s_0) f8.out (by exact Kd.C_below HR0_1.out z1s_0) f9.out A3.out).mono ?_); rintro e w' ⟨rfl, hb⟩; refine ⟨_, rfl, ?_⟩; replace a0 := ak (blk_below (g := a7) (o := .cells #[.slice A0_0 l0_0.length c0_0, .slice A0_1 l0_1.length c0_1] 27 (0, 0)) z1s_7 hb); replace a5 := ak (blk_below (g := a9) (o := .cells #[.slice none 0 0, .slice none 0 0] 27 (0, 0)) z1s_6 hb); replace a2 := ak (blk_below (g := b2) (o := .cells #[.slice none 0 0, .slice none 0 0] 27 (0, 0)) z1s_5 hb); replace HB := ak (below_step z1s_0 hb); (try clear hb); (try clear hb2); (try clear hk); (try clear hi); have d1 := cz20 a2.out; have d2 := cz21 a2.out; have d3 := blk_frozen a2.out 0; have d4 := blk_frozen a2.out 1; have d1 := cz20 a5.out; have d2 := cz21 a5.out; have d3 := blk_frozen a5.out 0; have d4 := blk_frozen a5.out 1))
 refine bodyPost_ret (results_cell_row rfl _ _ a9 27 #[.slice none 0 0, .slice none 0 0] (0, 0) _ rfl (by (with_reducible repeat (first | refine blk_drewN ?_ _ | refine blk_drew ?_ | refine blk_alloc ?_ _)); refine blk_put (cs := #[.slice none 0 0, .slice none 0 0]) ?_ 1 _ rfl; (with_reducible repeat (first | refine blk_drewN ?_ _ | refine blk_drew ?_ | refine blk_alloc ?_ _)); refine blk_put (cs := #[.slice none 0 0, .slice none 0 0]) ?_ 0 _ rfl; (with_reducible repeat (first | refine blk_drewN ?_ _ | refine blk_drew ?_ | refine blk_alloc ?_ _)); exact a5.out) Try.underlying27 rfl (by kernel_rfl)) rfl ?_
 exact ⟨_, _, (by first | rfl | (simp [errW_none, errW_some] <;> rfl) | (simp [*, errW_none, errW_some] <;> rfl)), z1s_14, z1s_15, z1s_0⟩

end Go.Proofs.Ytacifhahfamipaa.P

namespace Go.Proofs.Ytacifhahfamipaa.P
open Go.RowKit Go.Proofs.YtacifhahfamipaaW.PrintWords Go.Proofs.YtacifhahfamipaaW.PrintLast Go.Proofs.YtacifhahfamipaaW.PrintMore
attribute [local go_sem] max2_int min2_int max_two min_two max_three min_three max_four min_four
set_option linter.unusedVariables false
set_option linter.unusedSimpArgs false
set_option maxHeartbeats 8000000 in
set_option maxRecDepth 100000 in
theorem impl_isAnswer.calls (A0 : Option Addr) (c0 : Nat) (l0 : List (List Int)) (a1 : Int) (r : Bool) (w : World) (hr0 : Kd.C (Kd.slice 3 (Kd.int .i64)) w A0 l0.length l0) (hc0 : l0.length ≤ c0) (h : impl_isAnswer.f l0 a1 = some r) :
 Calls Try.prog 107 #[.slice A0 l0.length c0, .int .i64 a1] w fun e w' => e = .returned (.bool r) ∧ Drawn0 w w' := by
 have HR0 := ak hr0
 have a2 := ak hc0
 clear hr0 hc0
 have H : (if a1 ≥ 0 then (some (decide (a1 < (l0.length : Int)))) else (some false)) = some r := h
 clear h
 replace H := op_ H
 rcases H with ⟨c3, H⟩ | ⟨c3, H⟩
 ·
  have a0 : decide (0 ≤ a1) = true := dT_ c3
  clear c3
  obtain rfl := Option.some.inj H
  go_enter Try.func107, Try.ntmps107
  go_wp2
  go_ret
  exact ⟨(by first | rfl | (simp; done) | (simp [*]; done)), (by repeat (first | exact Drawn0.refl _ | apply Drawn0.step))⟩
 have a0 : decide (0 ≤ a1) = false := dF_ c3
 clear c3
 obtain rfl := Option.some.inj H
 go_enter Try.func107, Try.ntmps107
 go_wp2
 go_ret
 exact ⟨(by first | rfl | (simp; done) | (simp [*]; done)), (by repeat (first | exact Drawn0.refl _ | apply Drawn0.step))⟩

end Go.Proofs.Ytacifhahfamipaa.P

namespace Go.Proofs.Ytacifhahfamipaa.P
open Go.RowKit Go.Proofs.YtacifhahfamipaaW.PrintWords Go.Proofs.YtacifhahfamipaaW.PrintLast Go.Proofs.YtacifhahfamipaaW.PrintMore
attribute [local go_sem] max2_int min2_int max_two min_two max_three min_three max_four min_four
set_option linter.unusedVariables false
set_option linter.unusedSimpArgs false
theorem z5_2 {p : Prop} (h : p := by have := HK1.out; have := b0.out; have := HK3.out; omega) : p := h
theorem z5_1 {p : Prop} (h : p := by repeat (first | exact Drawn0.refl _ | apply Drawn0.step)) : p := h
theorem z5_0 {p : Prop} (h : p := by first | rfl | (simp; done) | (simp [*]; done)) : p := h
set_option maxHeartbeats 8000000 in
set_option maxRecDepth 100000 in
theorem impl_meet.calls (k : Nat) (A0 : Option Addr) (c0 : Nat) (l0 : List (List Int)) (a1 : Int) (a2 : Int) (r : Int) (w : World) (hr0 : Kd.C (Kd.slice 3 (Kd.int .i64)) w A0 l0.length l0) (hc0 : l0.length ≤ c0) (h : impl_meet.f k l0 a1 a2 = some r) :
 Calls Try.prog 106 #[.slice A0 l0.length c0, .int .i64 a1, .int .i64 a2] w fun e w' => e = .returned (.int .i64 r) ∧ Drawn0 w w' := by
 have HR0 := ak hr0
 have g9 := ak hc0
 clear hr0 hc0
 have H : (impl_meet.l0 k l0 a1 a2 (l0.length : Int) 0) = some r := h
 clear h
 have H' := ak H
 clear H
 go_enter Try.func106, Try.ntmps106
 go_wp2
 go_loopg [12] k (fun kq f9 w' => ∃ (a0 : Int), f9 = .int .i64 a0 ∧ Aside0 (impl_meet.l0 kq l0 a1 a2 (l0.length : Int) a0 = some r) ∧ Aside0 (kq ≤ k) ∧ Drawn0 w w')
 case atStart => exact ⟨(0), z5_0, H', ⟨Nat.le_refl _⟩, z5_1⟩
 case round =>
  clear H'
  obtain ⟨a0, rfl, HA, HK1, ⟨m1, rfl⟩⟩ := hrel
  cases gk with
  | zero => exact absurd HA.out (by simp [impl_meet.l0])
  | succ k1 =>
   have H := HA.out
   clear HA
   simp only [impl_meet.l0] at H
   replace H := os_ H
   rcases H with ⟨b1, H⟩ | ⟨b1, H⟩
   ·
    have d9 := ak H
    clear H
    go_upto_region 4 with (fail)
    go_cut [32] (fun g0 wc => ∃ (kq : Nat) (a5 : Bool), g0 = .bool a5 ∧ Aside0 (impl_meet.j1 kq l0 a1 a2 a0 (l0.length : Int) a0 a5 = some r) ∧ Aside0 (kq ≤ k1) ∧ Drawn0 w wc)
    case first =>
     have H := d9.out
     clear d9
     replace H := od_ H
     obtain ⟨b7, H⟩ := H
     (first | rw [b7] | (simp only [i64_w, i32_w]; rw [b7]) | skip)
     replace H := od3 H
     obtain ⟨g1, g2, g3, H⟩ := H
     replace H := oe2 H
     rcases H with ⟨⟨-, b8, b9⟩, H⟩ | ⟨⟨h0, b8, b9⟩, H⟩
     ·
      have H' := ak H
      clear H
      obtain ⟨ad190, b2, b3, e190, hx190_0, a8, HR190_0, e0, q190⟩ := al_ HR0.out a0
      cases e190
      obtain ⟨ad191, e191, hx191_0, e1, q191⟩ := ai_ HR190_0.out a1
      cases e191
      go_wp2
      go_meet
      case rel => exact ⟨_, (true), z5_0, H', ⟨(by have := HK1.out; first | omega | exact Nat.le_refl _)⟩, z5_1⟩
     replace H := od2 H
     obtain ⟨e9, f0, H⟩ := H
     have H' := ak H
     clear H
     obtain ⟨ad190, b2, b3, e190, hx190_0, a8, HR190_0, e0, q190⟩ := al_ HR0.out a0
     cases e190
     obtain ⟨ad191, e191, hx191_0, e1, q191⟩ := ai_ HR190_0.out a1
     cases e191
     obtain ⟨ad192, e2, e3, e192, hx192_0, d7, HR192_0, g4, q192⟩ := al_ HR0.out a0
     obtain rfl := ij_ e192
     obtain ⟨rfl, rfl⟩ := is_ hx190_0 hx192_0
     obtain ⟨ad193, e193, hx193_0, g5, q193⟩ := ai_ HR192_0.out a2
     cases e193
     go_wp2
     go_meet
     case rel => exact ⟨_, (((rd (rd_L1 l0 a0) a2) == 0)), z5_0, H', ⟨(by have := HK1.out; first | omega | exact Nat.le_refl _)⟩, z5_1⟩
    case rest =>
     clear d9
     try clear c4
     try clear b1
     obtain ⟨kq, a5, rfl, HA, b0, ⟨mc4, rfl⟩⟩ := hcut
     cases kq with
     | zero => exact absurd HA.out (by simp [impl_meet.j1])
     | succ e4 =>
      have H := HA.out
      clear HA
      simp only [impl_meet.j1] at H
      replace H := ox_ H
      rcases H with ⟨rfl, H⟩ | ⟨rfl, H⟩
      ·
       have H' := ak H
       clear H
       go_wp2
       go_roundg e4
       case measure => have := HK1.out; have := b0.out; omega
       case rel => exact ⟨(wrap64 (a0 + 1)), z5_0, H', ⟨(by have := HK1.out; have := b0.out; omega)⟩, z5_1⟩
      have H' := ak H
      clear H
      go_wp2
      go_loopg [8, 35] e4 (fun kq v8 g6 w' => ∃ (b4 : Bool) (a3 : Int), v8 = .bool b4 ∧ g6 = .int .i64 a3 ∧ Aside0 (impl_meet.l1 kq l0 a1 a2 a0 b4 (l0.length : Int) a0 (l0.length : Int) a3 = some r) ∧ Aside0 (kq ≤ e4) ∧ Drawn0 w w')
      case atStart => exact ⟨(true), (0), z5_0, z5_0, H', ⟨Nat.le_refl _⟩, z5_1⟩
      case round =>
       clear H'
       try clear c4
       try clear b1
       try clear h1
       obtain ⟨b4, a3, rfl, rfl, HA, HK3, ⟨m3, rfl⟩⟩ := hrel
       cases gk with
       | zero => exact absurd HA.out (by simp [impl_meet.l1])
       | succ k3 =>
        have H := HA.out
        clear HA
        simp only [impl_meet.l1] at H
        replace H := os_ H
        rcases H with ⟨d0, H⟩ | ⟨d0, H⟩
        ·
         replace H := ox_ H
         rcases H with ⟨rfl, H⟩ | ⟨rfl, H⟩
         ·
          replace H := od4 H
          obtain ⟨f1, f2, f3, f4, H⟩ := H
          replace H := oe2 H
          rcases H with ⟨⟨-, d1, d2⟩, H⟩ | ⟨⟨h2, d1, d2⟩, H⟩
          ·
           have H' := ak H
           clear H
           obtain ⟨ad194, a6, a7, e194, hx194_0, a4, HR194_0, d3, q194⟩ := al_ HR0.out a3
           cases e194
           obtain ⟨ad195, e195, hx195_0, d4, q195⟩ := ai_ HR194_0.out a1
           cases e195
           go_wp2
           go_roundg k3
           case measure => have := HK1.out; have := b0.out; have := HK3.out; omega
           case rel => exact ⟨(true), (wrap64 (a3 + 1)), z5_0, z5_0, H', ⟨z5_2⟩, z5_1⟩
          replace H := od2 H
          obtain ⟨f5, f6, H⟩ := H
          replace H := oe2 H
          rcases H with ⟨⟨-, d5, d6⟩, H⟩ | ⟨⟨h3, d5, d6⟩, H⟩
          ·
           have H' := ak H
           clear H
           obtain ⟨ad194, a6, a7, e194, hx194_0, a4, HR194_0, d3, q194⟩ := al_ HR0.out a3
           cases e194
           obtain ⟨ad195, e195, hx195_0, d4, q195⟩ := ai_ HR194_0.out a1
           cases e195
           obtain ⟨ad196, b5, b6, e196, hx196_0, a9, HR196_0, e5, q196⟩ := al_ HR0.out a3
           obtain rfl := ij_ e196
           obtain ⟨rfl, rfl⟩ := is_ hx194_0 hx196_0
           obtain ⟨ad197, e197, hx197_0, e6, q197⟩ := ai_ HR196_0.out a2
           cases e197
           go_wp2
           go_roundg k3
           case measure => have := HK1.out; have := b0.out; have := HK3.out; omega
           case rel => exact ⟨(true), (wrap64 (a3 + 1)), z5_0, z5_0, H', ⟨z5_2⟩, z5_1⟩
          replace H := od2 H
          obtain ⟨f7, f8, H⟩ := H
          have H' := ak H
          clear H
          obtain ⟨ad194, a6, a7, e194, hx194_0, a4, HR194_0, d3, q194⟩ := al_ HR0.out a3
          cases e194
          obtain ⟨ad195, e195, hx195_0, d4, q195⟩ := ai_ HR194_0.out a1
          cases e195
          obtain ⟨ad196, b5, b6, e196, hx196_0, a9, HR196_0, e5, q196⟩ := al_ HR0.out a3
          obtain rfl := ij_ e196
          obtain ⟨rfl, rfl⟩ := is_ hx194_0 hx196_0
          obtain ⟨ad197, e197, hx197_0, e6, q197⟩ := ai_ HR196_0.out a2
          cases e197
          obtain ⟨ad198, e7, e8, e198, hx198_0, d8, HR198_0, g7, q198⟩ := al_ HR0.out a3
          obtain rfl := ij_ e198
          obtain ⟨rfl, rfl⟩ := is_ hx194_0 hx198_0
          obtain ⟨ad199, e199, hx199_0, g8, q199⟩ := ai_ HR198_0.out a0
          cases e199
          go_wp2
          go_roundg k3
          case measure => have := HK1.out; have := b0.out; have := HK3.out; omega
          case rel => exact ⟨(((rd (rd_L1 l0 a3) a0) == 1)), (wrap64 (a3 + 1)), z5_0, z5_0, H', ⟨z5_2⟩, z5_1⟩
         have H' := ak H
         clear H
         go_wp2
         go_roundg k3
         case measure => have := HK1.out; have := b0.out; have := HK3.out; omega
         case rel => exact ⟨(false), (wrap64 (a3 + 1)), z5_0, z5_0, H', ⟨z5_2⟩, z5_1⟩
        replace H := ox_ H
        rcases H with ⟨rfl, H⟩ | ⟨rfl, H⟩
        ·
         obtain rfl := Option.some.inj H
         go_wp2
         go_ret
         exact ⟨z5_0, z5_1⟩
        have H' := ak H
        clear H
        go_wp2
        go_roundg k3
        case measure => have := HK1.out; have := b0.out; have := HK3.out; omega
        case rel => exact ⟨(wrap64 (a0 + 1)), z5_0, H', ⟨z5_2⟩, z5_1⟩
   obtain rfl := Option.some.inj H
   go_wp2
   go_ret
   exact ⟨z5_0, z5_1⟩

end Go.Proofs.Ytacifhahfamipaa.P

namespace Go.Proofs.Ytacifhahfamipaa.P
open Go.RowKit Go.Proofs.YtacifhahfamipaaW.PrintWords Go.Proofs.YtacifhahfamipaaW.PrintLast Go.Proofs.YtacifhahfamipaaW.PrintMore
attribute [local go_sem] max2_int min2_int max_two min_two max_three min_three max_four min_four
set_option linter.unusedVariables false
set_option linter.unusedSimpArgs false
def impl_turned.T9 : Bool × List (List Nat × List Nat) := (true, [([], []), ([], []), ([0, 1], [0, 1]), ([2], [2]), ([], []), ([], []), ([], []), ([5, 6], [5, 6]), ([7], [7]), ([], []), ([8, 9], [8, 9]), ([10], [10]), ([3, 4, 0, 1, 2, 3, 4, 5, 6, 7, 8, 9, 10, 11], [3, 4]), ([12, 11, 0, 1, 2, 3, 4, 5, 6, 7, 8, 9, 10, 11], [11, 12])])
def impl_turned.B9 : List Nat := [0, 0, 3, 7, 0, 0, 0, 96, 224, 0, 992, 2016, 4095, 8191]
theorem impl_turned.tab9 : rtab .any (opsOf Try.f105 9) = impl_turned.T9 := by kernel_rfl
theorem impl_turned.bits9 : waitsOk impl_turned.T9.2 impl_turned.B9 = true := by kernel_rfl
theorem z7_1 {p : Prop} (h : p := by first | rfl | (simp; done) | (simp [*]; done)) : p := h
theorem z7_0 {p : Prop} (h : p := by repeat (first | (with_reducible first | exact HB.out | apply below_alloc | apply pw_below_drewN | apply below_drew1) | exact HB.out)) : p := h
set_option maxHeartbeats 8000000 in
set_option maxRecDepth 100000 in
theorem impl_turned.calls (k : Nat) (A0 : Option Addr) (c0 : Nat) (l0 : List (List Int)) (r : List (List Int)) (w : World) (hr0 : Kd.C (Kd.slice 3 (Kd.int .i64)) w A0 l0.length l0) (hc0 : l0.length ≤ c0) (h : impl_turned.f k l0 = some r) :
 Calls Try.prog 105 #[.slice A0 l0.length c0] w fun e w' => ∃ v0_ : Value, e = .returned (v0_) ∧ Kd.S (Kd.slice 3 (Kd.int .i64)) 25 w' w.heap.size (fun _ => True) v0_ r ∧ Below w.heap.size w w' := by
 have HR0 := ak hr0
 have f8 := ak hc0
 clear hr0 hc0
 have HB := ak (Below.refl w.heap.size w)
 have H : (if 0 ≤ (l0.length : Int) then (if ((l0.length : Int) : Int).toNat ≤ 11728124029610 then (impl_turned.l0 k l0 (List.replicate ((l0.length : Int) : Int).toNat []) (l0.length : Int) 0) else (none)) else (none)) = some r := h
 clear h
 replace H := ok_ H
 obtain ⟨c2, H⟩ := H
 have b3 := eq_true c2
 have b4 : decide (0 ≤ (l0.length : Int)) = true := dT_ c2
 clear c2
 replace H := ok_ H
 obtain ⟨c3, H⟩ := H
 have b5 := eq_true c3
 have b6 : decide (((l0.length : Int) : Int).toNat ≤ 11728124029610) = true := dT_ c3
 clear c3
 obtain ⟨y177, hy177⟩ : ∃ y_ : List (List Int), y_ = (List.replicate ((l0.length : Int) : Int).toNat []) := ⟨_, rfl⟩
 replace H : (impl_turned.l0 k l0 y177 (l0.length : Int) 0) = some r := by first | (rw [hy177]; with_reducible exact H) | (have H2_ := (Option.bind_some _ _).symm.trans H; rw [hy177]; with_reducible exact H2_) | (have H2_ := (Option.bind_some _ _).symm.trans H; with_reducible exact H2_) | with_reducible exact H | (rw [hy177]; exact H) | exact H
 have Ny177 := ak hy177
 clear hy177
 have H' := ak H
 clear H
 go_enter Try.func105, Try.ntmps105
 go_wp2_with (first | ((with_reducible refine gate_dst (N := 8) rfl ?_); refine Kd.S_make (Kd.slice 3 (Kd.int .i64)) _ 25 rfl (N := 8) rfl 24 _ _ rfl (l0.length : Int) rfl rfl Try.underlying24 (.slice none 0 0) 24 info25 rfl (by decide) (by omega) [] (ok := fun _ => True) (okp := fun _ => True) ⟨_, rfl, Kd.R_nil _ _ _ _ _⟩ (fun _ hk => hk) trivial (oa_) (Nat.le_trans (Nat.mul_le_mul_right _ (oa_ : (l0.length : Int).toNat ≤ 11728124029610)) (by omega)) (Below.refl _ _) (Nat.le_refl _) ?_; intro d8 w4 ho5 hb hg_ hnew_; clear hg_ hnew_; (first | rw [← Ny177.out] at ho5 | (simp only [Int.reduceToNat] at ho5; rw [← Ny177.out] at ho5)); have b7 := ak (Kd.S_lower ho5 (below_size z7_0)); replace HB := ak (below_step z7_0 hb); clear hb ho5))
 go_loopg [11] k (fun kq f5 w' => ∃ (a4 : List (List Int)) (a0 : Int), f5 = .int .i64 a0 ∧ Aside0 (impl_turned.l0 kq l0 a4 (l0.length : Int) a0 = some r) ∧ Aside0 (kq ≤ k) ∧ Aside0 (Kd.S (Kd.slice 3 (Kd.int .i64)) 25 w' w.heap.size (fun _ => True) d8 a4) ∧ Aside0 (Below w.heap.size w w'))
 case atStart => exact ⟨(y177), (0), z7_1, H', ⟨Nat.le_refl _⟩, ⟨(xS b7.out)⟩, ⟨z7_0⟩⟩
 case round =>
  clear H'
  try clear c2
  try clear b3
  try clear b4
  try clear c3
  try clear b5
  try clear b6
  obtain ⟨a4, a0, rfl, HA, HK1, a2, HB⟩ := hrel
  cases gk with
  | zero => exact absurd HA.out (by simp [impl_turned.l0])
  | succ k1 =>
   have H := HA.out
   clear HA
   simp only [impl_turned.l0] at H
   replace H := os_ H
   rcases H with ⟨b8, H⟩ | ⟨b8, H⟩
   ·
    replace H := ok_ H
    obtain ⟨c7, H⟩ := H
    have d9 := eq_true c7
    have e0 : decide (0 ≤ (l0.length : Int)) = true := dT_ c7
    clear c7
    replace H := ok_ H
    obtain ⟨c8, H⟩ := H
    have e1 := eq_true c8
    have e2 : decide (((l0.length : Int) : Int).toNat ≤ 35184372088832) = true := dT_ c8
    clear c8
    obtain ⟨y180, hy180⟩ : ∃ y_ : List Int, y_ = (List.replicate ((l0.length : Int) : Int).toNat 0) := ⟨_, rfl⟩
    replace H : (if 0 ≤ a0 then (if a0 < (a4.length : Int) then (impl_turned.l1 k1 l0 (a4.set (a0 : Int).toNat y180) a0 (l0.length : Int) a0 (l0.length : Int) 0) else (none)) else (none)) = some r := by first | (rw [hy180]; with_reducible exact H) | (have H2_ := (Option.bind_some _ _).symm.trans H; rw [hy180]; with_reducible exact H2_) | (have H2_ := (Option.bind_some _ _).symm.trans H; with_reducible exact H2_) | with_reducible exact H | (rw [hy180]; exact H) | exact H
    have Ny180 := ak hy180
    clear hy180
    replace H := od2 H
    obtain ⟨e3, b9, H⟩ := H
    obtain ⟨y183, hy183⟩ : ∃ y_ : List (List Int), y_ = (a4.set (a0 : Int).toNat y180) := ⟨_, rfl⟩
    replace H : (impl_turned.l1 k1 l0 y183 a0 (l0.length : Int) a0 (l0.length : Int) 0) = some r := by first | (rw [hy183]; with_reducible exact H) | (have H2_ := (Option.bind_some _ _).symm.trans H; rw [hy183]; with_reducible exact H2_) | (have H2_ := (Option.bind_some _ _).symm.trans H; with_reducible exact H2_) | with_reducible exact H | (rw [hy183]; exact H) | exact H
    have Ny183 := ak hy183
    clear hy183
    have H' := ak H
    clear H
    go_wp2_with (first | ((with_reducible refine gate_dst (N := 18) rfl ?_); refine Kd.R_make (Kd.int .i64) _ 3 rfl (N := 18) rfl 25 _ _ rfl (l0.length : Int) rfl rfl Try.underlying25 (.int .i64 0) 8 info3 rfl (by decide) (by omega) 0 (ok := fun _ => True) (okp := fun _ => True) rfl (fun _ hk => hk) trivial (oa_) (Nat.le_trans (Nat.mul_le_mul_right _ (oa_ : (l0.length : Int).toNat ≤ 35184372088832)) (by omega)) (Below.refl _ _) (Nat.le_refl _) ?_; intro a6 e4 ho13 hb hg_ hnew_; clear hg_ hnew_; (first | rw [← Ny180.out] at ho13 | (simp only [Int.reduceToNat] at ho13; rw [← Ny180.out] at ho13)); replace a2 := ak (Kd.S_elder' (xS a2.out) (Kd.R_base ho13) hb); have a5 := ak (Kd.R_lower ho13 (below_size z7_0)); replace HB := ak (below_step z7_0 hb); clear hb ho13; have d5 : 0 ≤ (a0 : Int) := oa_; have q11 : (a0 : Int) < ((a4.length : Int) : Int) := oa_; obtain ⟨go11, a8, d0, d1, gl11, cl11, HG11⟩ := Kd.S_form a2.out (by omega); (first | cases d0 | (injection d0 with ea_ en_ ec_; (first | subst ea_ | (injection ea_ with ea_; subst ea_)); subst ec_; clear en_)); have GB11 := ak d1; have GG11 := ak HG11; clear d1 gl11 HG11; obtain ⟨_, ce11, hcl11, hM11, hcc11, hfr11, _, _⟩ := Kd.S_elem a2.out [] (a0 : Int) d5 q11; obtain ⟨ve11_0, rfl, ge11_0⟩ := hM11; have hx11_0 := hcc11 0 _ rfl; have hf11_0 := hfr11 0; (try simp only [show ((Kd.slice 3 (Kd.int .i64))).sz = 1 from rfl, Nat.mul_one, Nat.add_zero] at hx11_0); (try simp only [show ((Kd.slice 3 (Kd.int .i64))).sz = 1 from rfl, Nat.mul_one, Nat.add_zero] at hf11_0); clear hcl11 hcc11 hfr11; (try clear hM11); replace d5 := eq_true d5; replace q11 := eq_true q11; have n_ := ak (Kd.S_mono (ok' := (fun k_ => some k_ ≠ (a6 : Value).ownBlock)) a2.out (fun k_ hk => hk.2)); clear a2; have a2 := n_; clear n_; have HX14 := ak (show Kd.S (Kd.slice 3 (Kd.int .i64)) 25 e4 w.heap.size (fun k_ => ((fun _ => True)) k_ ∧ ¬ ((fun k_ => some k_ = (a6 : Value).ownBlock)) k_) (.slice (some ⟨go11, 0, none⟩) a4.length a8) a4 from (by (with_reducible repeat (first | apply Kd.S_alloc | apply Kd.S_drewN | apply Kd.S_drew)); exact Kd.S_mono a2.out (fun k_ hk => ⟨trivial, fun e_ => hk e_⟩))); obtain ⟨oki14, ce14, hcl14, hM14, hcc14, hfr14, hoki14, hH14⟩ := Kd.S_elem HX14.out [] (a0 : Int) (oa_) (by have h_ : (a0 : Int) < ((a4.length : Int) : Int) := oa_; first | exact h_ | (have e_ := (Kd.S_reads' a2.out).1; omega) | simpa using h_); obtain ⟨ve14_0, rfl, ge14_0⟩ := hM14; have HP14 := Kd.S_seg hH14 (oa_) (by have h_ : (a0 : Int) < ((a4.length : Int) : Int) := oa_; first | exact h_ | (have e_ := (Kd.S_reads' a2.out).1; omega) | simpa using h_) (seg := [a6]) (j := 0) (show 1 ≤ 1 from by decide) (x' := y180) (Kd.M_row (Kd.R_mono (Kd.R_tight rfl (Kd.R_mono (ok' := fun k_ => ((fun _ => True)) k_ ∧ k_ ≠ go11) (Kd.R_apart' (a5.out) (Kd.S_typed a2.out) (by decide)) (fun k_ hk => ⟨trivial, fun e_ => (hk.2) (by rw [e_]; rfl)⟩))) (fun _ h_ => Or.inr (h_)))) (fun _ hk => hk) (fun k_ hk_ => ((Kd.R_mono (ok' := fun k_ => ((fun _ => True)) k_ ∧ k_ ≠ go11) (Kd.R_apart' (a5.out) (Kd.S_typed a2.out) (by decide)) (fun k_ hk => ⟨trivial, fun e_ => (hk.2) (by rw [e_]; rfl)⟩))).1 k_ hk_.symm); have hx14_0 := hcc14 0 _ rfl; (try simp only [show ((Kd.slice 3 (Kd.int .i64))).sz = 1 from rfl, Nat.mul_one, Nat.add_zero] at hx14_0); have hf14_0 := hfr14 0; (try simp only [show ((Kd.slice 3 (Kd.int .i64))).sz = 1 from rfl, Nat.mul_one, Nat.add_zero] at hf14_0); clear hcl14 hcc14 hfr14 hoki14 hH14; (try clear hM14); (try simp only [show ((Kd.slice 3 (Kd.int .i64))).sz = 1 from rfl, Nat.mul_one, Nat.add_zero] at HP14)) | ((with_reducible refine gate_store (t := 25) (p := 19) rfl ?_); refine store_event (t := 25) (p := 19) (v := ?vo_w15) (w1 := (e4.setCell ⟨go11, (a0 : Int).toNat, none⟩ (a6))) ?hg ?ho ?hn ?hr ?_; (case ho => rfl); (case hg => rfl); (case hn => rfl); (case hr => first | (go_simp; done) | (go_simp; rfl) | (obtain ⟨_, _, e_⟩ := Kd.R_slice a5.out; rw [e_]; first | (go_simp; done) | (go_simp; rfl))); intro e5 hw; have hg : e4.grownBy e5 (some go11) := (by rw [hw]; exact HP14.2); have hp_ : Kd.S (Kd.slice 3 (Kd.int .i64)) 25 e5 w.heap.size (fun _ => True) (.slice (some ⟨go11, 0, none⟩) a4.length a8) y183 := (by rw [hw, Ny183.out]; exact HP14.1); clear HP14; replace a2 := ak (hp_); replace HB := ak ((by rw [hw]; exact below_set (HB.out) GB11.out : Below w.heap.size w e5)); clear a5; clear hg hw hp_))
    go_loopg [22] k1 (fun kq f6 w' => ∃ (a3 : List (List Int)) (a1 : Int), f6 = .int .i64 a1 ∧ Aside0 (impl_turned.l1 kq l0 a3 a0 (l0.length : Int) a0 (l0.length : Int) a1 = some r) ∧ Aside0 (kq ≤ k1) ∧ Aside0 (Kd.S (Kd.slice 3 (Kd.int .i64)) 25 w' w.heap.size (fun _ => True) (.slice (some ⟨go11, 0, none⟩) a4.length a8) a3) ∧ Aside0 (Below w.heap.size w w'))
    case atStart => exact ⟨(y183), (0), z7_1, H', ⟨Nat.le_refl _⟩, ⟨(xS a2.out)⟩, ⟨z7_0⟩⟩
    case round =>
     clear H'
     try clear c2
     try clear b3
     try clear b4
     try clear c3
     try clear b5
     try clear b6
     try clear c6
     try clear b8
     try clear c7
     try clear d9
     try clear e0
     try clear c8
     try clear e1
     try clear e2
     try clear c9
     try clear e3
     try clear f9
     try clear b9
     try clear d5
     try clear q11
     try clear hx11_0
     try clear hx14_0
     obtain ⟨a3, a1, rfl, HA, HK2, a2, HB⟩ := hrel
     have hl3_2 := (Kd.S_reads' a2.out).1
     rw [hl3_2] at a2
     (try simp only [hl3_2])
     cases gk with
     | zero => exact absurd HA.out (by simp [impl_turned.l1])
     | succ k2 =>
      have H := HA.out
      clear HA
      simp only [impl_turned.l1] at H
      replace H := os_ H
      rcases H with ⟨d2, H⟩ | ⟨d2, H⟩
      ·
       replace H := od6 H
       obtain ⟨e9, f0, f1, f2, f3, f4, H⟩ := H
       obtain ⟨y187, hy187⟩ : ∃ y_ : List Int, y_ = ((rd_L1 a3 a0).set (a1 : Int).toNat (rd (rd_L1 l0 a1) a0)) := ⟨_, rfl⟩
       replace H : (impl_turned.l1 k2 l0 (a3.set (a0 : Int).toNat y187) a0 (l0.length : Int) a0 (l0.length : Int) (wrap64 (a1 + 1))) = some r := by first | (rw [hy187]; with_reducible exact H) | (have H2_ := (Option.bind_some _ _).symm.trans H; rw [hy187]; with_reducible exact H2_) | (have H2_ := (Option.bind_some _ _).symm.trans H; with_reducible exact H2_) | with_reducible exact H | (rw [hy187]; exact H) | exact H
       have Ny187 := ak hy187
       clear hy187
       obtain ⟨y189, hy189⟩ : ∃ y_ : List (List Int), y_ = (a3.set (a0 : Int).toNat y187) := ⟨_, rfl⟩
       replace H : (impl_turned.l1 k2 l0 y189 a0 (l0.length : Int) a0 (l0.length : Int) (wrap64 (a1 + 1))) = some r := by first | (rw [hy189]; with_reducible exact H) | (have H2_ := (Option.bind_some _ _).symm.trans H; rw [hy189]; with_reducible exact H2_) | (have H2_ := (Option.bind_some _ _).symm.trans H; with_reducible exact H2_) | with_reducible exact H | (rw [hy189]; exact H) | exact H
       have Ny189 := ak hy189
       clear hy189
       have H' := ak H
       clear H
       try go_wp2
       replace a2 := ak (Kd.S_drew a2.out)
       replace HB := ak (below_drew1 HB.out)
       have a7 : 0 ≤ (a0 : Int) := oa_
       have q184 : a0 < (a3.length : Int) := oa_
       obtain ⟨ad184, e6, a9, e184, hx184_0, hl184_0, hi184_0⟩ := at_L1 (Kd.S_reads' a2.out).2.2 a0 a7 q184
       obtain rfl : (⟨go11, 0, none⟩ : Addr) = ad184 := (by injection e184)
       obtain ⟨ce184, hce184, hMe184, hcc184⟩ := Kd.S_get a2.out [] a0 a7 (by first | exact q184 | exact oa_ | (have e_ := (Kd.S_reads' a2.out).1; omega))
       obtain ⟨ve184_0, rfl, ge184_0⟩ := hMe184
       have hv184_0 := hcc184 0 _ rfl
       rw [Nat.add_zero, show ((Kd.slice 3 (Kd.int .i64))).sz = 1 from rfl, Nat.mul_one] at hv184_0
       replace hv184_0 := Option.some.inj (hv184_0.symm.trans hx184_0)
       rw [hv184_0] at ge184_0
       have HL184_0 := ak (show Kd.R (Kd.int .i64) 3 _ _ _ _ (rd_L1 a3 a0) from ge184_0)
       clear hv184_0 ge184_0
       have HX184_0 := ak hx184_0
       clear hcc184 hce184
       (first | simp only [add_plain] at hx184_0 | simp only [add_at] at hx184_0 | simp only [Addr.add, Nat.zero_add] at hx184_0 | skip)
       have HR184_0 := ak hi184_0
       have d6 := ak hl184_0
       clear hi184_0 hl184_0
       replace a7 := eq_true a7
       replace q184 := eq_true q184
       have b0 : 0 ≤ (a1 : Int) := oa_
       have q185 : a1 < (l0.length : Int) := oa_
       obtain ⟨ad185, e7, b1, e185, hx185_0, hl185_0, hi185_0⟩ := at_L1 HR0.out a1 b0 q185
       have hw185_0 := hx185_0
       cases e185
       replace hx185_0 := (HB.out.cell (World.block_lt_of_cell? w _ hx185_0)).trans hx185_0
       have HR185_0 := ak hi185_0
       have d7 := ak hl185_0
       clear hi185_0 hl185_0
       replace b0 := eq_true b0
       replace q185 := eq_true q185
       have b2 : 0 ≤ (a0 : Int) := oa_
       have q186 : a0 < ((rd_L1 l0 a1).length : Int) := oa_
       obtain ⟨ad186, e186, hx186_0⟩ := Kd.at_int HR185_0.out a0 b2 q186
       have hw186_0 := hx186_0
       cases e186
       replace hx186_0 := (HB.out.cell (World.block_lt_of_cell? w _ hx186_0)).trans hx186_0
       replace b2 := eq_true b2
       replace q186 := eq_true q186
       have e8 : 0 ≤ (a1 : Int) := oa_
       have q23 : (a1 : Int) < (((rd_L1 a3 a0).length : Int) : Int) := oa_
       obtain ⟨go23, f7, d3, d4, gl23, cl23, HG23⟩ := Kd.R_form HL184_0.out (by omega)
       (first | cases d3 | (injection d3 with ea_ en_ ec_; (first | subst ea_ | (injection ea_ with ea_; subst ea_)); subst ec_; clear en_))
       have GB23 := ak d4
       have GG23 := ak HG23
       clear d4 gl23 HG23
       obtain ⟨hx23_0, hf23_0⟩ := Kd.R_celln 0 HL184_0.out (a1 : Int) e8 q23
       replace e8 := eq_true e8
       replace q23 := eq_true q23
       have hq25 : (a0 : Int) < (a3.length : Int) := (by have h_ : (a0 : Int) < ((a3.length : Int) : Int) := oa_; first | exact h_ | (have e_ := (Kd.S_reads' a2.out).1; omega) | simpa only [List.length_set, List.length_set] using h_)
       obtain ⟨oki25, ce25, hcl25, hM25, hcc25, hok25, hbk25⟩ := Kd.S_borrow a2.out [] (a0 : Int) (oa_) hq25
       obtain ⟨ve25_0, rfl, ge25_0⟩ := hM25
       have hv25 := hcc25 0 _ rfl
       rw [Nat.add_zero, show ((Kd.slice 3 (Kd.int .i64))).sz = 1 from rfl, Nat.mul_one] at hv25
       replace hv25 := Option.some.inj (hv25.symm.trans HX184_0.out)
       subst hv25
       clear hcc25 hcl25
       replace ge25_0 := (show Kd.R (Kd.int .i64) 3 _ _ _ _ (rd_L1 a3 a0) from ge25_0)
       have HP25 := Kd.R_putg ge25_0 (a1 : Int) (rd (rd_L1 l0 a1) a0)
       rw [← Ny187.out] at HP25
       have HS25 := hbk25 HP25.2 (fun k_ e_ => by injection e_ with e_; subst e_; exact ge25_0.1 _ rfl) (x' := y187) (Kd.M_row HP25.1)
       rw [← Ny189.out] at HS25
       have HQ25 := ak HS25
       clear HP25 HS25 hbk25 hok25
       refine start_ (n := 14) (S := fun w' => w'.cell? ⟨go11, (a0).toNat, none⟩ = some (.slice (some ⟨go23, 0, none⟩) (rd_L1 a3 a0).length a9) ∧ w'.cell? (ad185.add (a1).toNat) = some (.slice (some ad186) (rd_L1 l0 a1).length b1) ∧ w'.cell? (ad186.add (a0).toNat) = some (.int .i64 (rd (rd_L1 l0 a1) a0))) (ds := [13]) (bA 14 0) (by kernel_rfl) rfl rfl ⟨hx184_0, ((HB.out.cell (World.block_lt_of_cell? w _ hw185_0)).trans hw185_0), ((HB.out.cell (World.block_lt_of_cell? w _ hw186_0)).trans hw186_0)⟩ (fun hHeld => ?_); refine with_tabW impl_turned.tab9 impl_turned.bits9 (fun HT_ HW_ => ?_)
       generalize wr.drew = g0 at a2 HB GG23 HL184_0 HQ25 HR184_0 HR185_0 HX184_0 hf23_0 hx184_0 hx185_0 hx186_0 hx23_0 hHeld ⊢
       refine pu_ (i := 0) (N := some 25) (bA 14 1) ?_
       refine pu_ (i := 1) (N := some 26) (bA 14 3) ?_
       refine pu_ (i := 2) (N := some 27) (bA 14 7) ?_
       refine pu_ (i := 4) (N := some 29) (bA 14 23) ?_
       refine pu_ (i := 5) (N := some 30) (bA 14 55) ?_
       refine pu_ (i := 6) (N := some 31) (bA 14 119) ?_
       refine pu_ (i := 7) (N := some 32) (bA 14 247) ?_
       refine pu_ (i := 9) (N := some 34) (bA 14 759) ?_
       refine tk_ (i := 3) (N := some 28) (bA 14 767) ?_
       refine tk_ (i := 8) (N := some 33) (bA 14 1023) ?_
       refine pu_ (i := 10) (N := some 35) (bA 14 2047) ?_
       refine tk_ (i := 11) (N := some 36) (bA 14 4095) ?_
       refine pu_ (i := 12) (N := some 37) (bA 14 8191) ?_
       refine last_ (i := 13) (N := none) (bA 14 16383) rfl rfl (one_of HT_.out (by kernel_rfl)) (by decide) (fun K hK => ?_)
       refine skip_ (w1 := ?_) (by rfl) rfl ?_ ?_
       rotate_left
       ·
        go_simp
        rfl
       refine hK.out _ _ ?_
       clear hK K
       refine done_ (done_of HT_.out (by kernel_rfl)) ?_
       try go_wp2
       (try simp only [← hl3_2])
       go_roundg k2
       case measure => have := HK1.out; have := HK2.out; omega
       case rel => exact ⟨(y189), (wrap64 (a1 + 1)), z7_1, H', ⟨(by have := HK1.out; have := HK2.out; omega)⟩, ⟨(by (try simp only [hl3_2]); (with_reducible repeat (first | apply Kd.S_alloc | apply Kd.S_drewN | apply Kd.S_drew)); exact HQ25.out)⟩, ⟨(by repeat (first | (with_reducible first | exact HB.out | apply below_alloc | apply pw_below_drewN | apply below_drew1 | refine below_set ?_ GB23.out) | exact HB.out))⟩⟩
      have H' := ak H
      clear H
      go_wp2
      (try simp only [← hl3_2])
      go_roundg k2
      case measure => have := HK1.out; have := HK2.out; omega
      case rel => exact ⟨(a3), (wrap64 (a0 + 1)), z7_1, H', ⟨(by have := HK1.out; have := HK2.out; omega)⟩, ⟨(by (try simp only [hl3_2]); (with_reducible repeat (first | apply Kd.S_alloc | apply Kd.S_drewN | apply Kd.S_drew)); exact a2.out)⟩, ⟨z7_0⟩⟩
   obtain rfl := Option.some.inj H
   go_wp2
   go_ret
   exact ⟨_, (by first | rfl | (simp [errW_none, errW_some] <;> rfl) | (simp [*, errW_none, errW_some] <;> rfl)), (xS a2.out), z7_0⟩

end Go.Proofs.Ytacifhahfamipaa.P

namespace Go.Proofs.Ytacifhahfamipaa.P
open Go.RowKit Go.Proofs.YtacifhahfamipaaW.PrintWords Go.Proofs.YtacifhahfamipaaW.PrintLast Go.Proofs.YtacifhahfamipaaW.PrintMore
attribute [local go_sem] max2_int min2_int max_two min_two max_three min_three max_four min_four
set_option linter.unusedVariables false
set_option linter.unusedSimpArgs false
theorem z3_2 {p : Prop} (h : p := by first | rfl | (simp; done) | (simp [*]; done)) : p := h
theorem z3_1 {p : Prop} (h : p := by first | rfl | (simp [errW_none, errW_some] <;> rfl) | (simp [*, errW_none, errW_some] <;> rfl)) : p := h
theorem z3_0 {p : Prop} (h : p := by repeat (first | (with_reducible first | exact HB.out | apply below_alloc | apply pw_below_drewN | apply below_drew1) | exact HB.out)) : p := h
set_option maxHeartbeats 8000000 in
set_option maxRecDepth 100000 in
theorem impl_LatticeOk.calls (k : Nat) (A0 : Option Addr) (c0 : Nat) (l0 : List (List Int)) (r : Bool) (w : World) (hr0 : Kd.C (Kd.slice 3 (Kd.int .i64)) w A0 l0.length l0) (hc0 : l0.length ≤ c0) (h : impl_LatticeOk.f k l0 = some r) :
 Calls Try.prog 104 #[.slice A0 l0.length c0] w fun e w' => e = .returned (.bool r) ∧ Below w.heap.size w w' := by
 have HR0 := ak hr0
 have a5 := ak hc0
 clear hr0 hc0
 have HB := ak (Below.refl w.heap.size w)
 have H : ((impl_OrderOk.f k l0).bind fun a6 => (if a6 = true then ((impl_turned.f k l0).bind fun a3 => (impl_LatticeOk.l0 k l0 a3 (l0.length : Int) 0)) else (some false))) = some r := h
 clear h
 obtain ⟨a6, A2, H⟩ := bd_ H
 try dsimp only at H
 replace H := ox_ H
 rcases H with ⟨rfl, H⟩ | ⟨rfl, H⟩
 ·
  obtain ⟨a3, A4, H⟩ := bd_ H
  try dsimp only at H
  have H' := ak H
  clear H
  go_enter Try.func104, Try.ntmps104
  go_wp2_with (first | ((with_reducible refine gate_callee (f := 67) rfl ?_); refine gl_ (some 7) Try.func67 #[.slice A0 l0.length c0] ?_; (with_reducible refine (impl_OrderOk.calls k _ _ l0 true _ (y4 HR0.out) a5.out A2.out).mono ?_); rintro e w' ⟨rfl, ⟨nd, rfl⟩⟩; refine ⟨_, rfl, ?_⟩) | ((with_reducible refine gate_callee (f := 105) rfl ?_); refine gl_ (some 10) Try.func105 #[.slice A0 l0.length c0] ?_; (with_reducible refine (impl_turned.calls k _ _ l0 a3 _ (y4 HR0.out) a5.out A4.out).mono ?_); rintro e w' ⟨a7, rfl, ho0, hb⟩; refine ⟨_, rfl, ?_⟩; have a8 := ak (Kd.S_lower ho0 (below_size z3_0)); replace HB := ak (below_step z3_0 hb); (try clear hb); (try clear hb2); (try clear hk); (try clear hi); (try clear ho0)))
  go_loopg [13] k (fun kq b7 w' => ∃ (a0 : Int), b7 = .int .i64 a0 ∧ Aside0 (impl_LatticeOk.l0 kq l0 a3 (l0.length : Int) a0 = some r) ∧ Aside0 (kq ≤ k) ∧ Aside0 (Kd.S (Kd.slice 3 (Kd.int .i64)) 25 w' w.heap.size (fun _ => True) a7 a3) ∧ Aside0 (Below w.heap.size w w'))
  case atStart => exact ⟨(0), z3_2, H', ⟨Nat.le_refl _⟩, ⟨(xS a8.out)⟩, ⟨z3_0⟩⟩
  case round =>
   clear H'
   try clear c3
   obtain ⟨a0, rfl, HA, HK1, a2, HB⟩ := hrel
   cases gk with
   | zero => exact absurd HA.out (by simp [impl_LatticeOk.l0])
   | succ k1 =>
    have H := HA.out
    clear HA
    simp only [impl_LatticeOk.l0] at H
    replace H := os_ H
    rcases H with ⟨a9, H⟩ | ⟨a9, H⟩
    ·
     have H' := ak H
     clear H
     go_wp2
     go_loopg [18] k1 (fun kq b8 w' => ∃ (a1 : Int), b8 = .int .i64 a1 ∧ Aside0 (impl_LatticeOk.l1 kq l0 a3 a0 (l0.length : Int) a0 (l0.length : Int) a1 = some r) ∧ Aside0 (kq ≤ k1) ∧ Aside0 (Kd.S (Kd.slice 3 (Kd.int .i64)) 25 w' w.heap.size (fun _ => True) a7 a3) ∧ Aside0 (Below w.heap.size w w'))
     case atStart => exact ⟨(0), z3_2, H', ⟨Nat.le_refl _⟩, ⟨(xS a2.out)⟩, ⟨z3_0⟩⟩
     case round =>
      clear H'
      try clear c3
      try clear c6
      try clear a9
      obtain ⟨a1, rfl, HA, HK2, a2, HB⟩ := hrel
      cases gk with
      | zero => exact absurd HA.out (by simp [impl_LatticeOk.l1])
      | succ k2 =>
       have H := HA.out
       clear HA
       simp only [impl_LatticeOk.l1] at H
       replace H := os_ H
       rcases H with ⟨b2, H⟩ | ⟨b2, H⟩
       ·
        obtain ⟨a4, A8, H⟩ := bd_ H
        try dsimp only at H
        replace H := os_ H
        rcases H with ⟨b3, H⟩ | ⟨b3, H⟩
        ·
         obtain rfl := Option.some.inj H
         go_wp2_with (first | ((with_reducible refine gate_callee (f := 106) rfl ?_); refine gl_ (some 24) Try.func106 #[.slice A0 l0.length c0, .int .i64 a0, .int .i64 a1] ?_; (with_reducible refine (impl_meet.calls k2 _ _ l0 a0 a1 a4 _ (y3 HR0.out HB.out) a5.out A8.out).mono ?_); rintro e w' ⟨rfl, ⟨nd, rfl⟩⟩; refine ⟨_, rfl, ?_⟩))
         go_ret
         exact ⟨z3_1, z3_0⟩
        obtain ⟨b0, b6, H⟩ := bd_ H
        try dsimp only at H
        replace H := os_ H
        rcases H with ⟨b1, H⟩ | ⟨b1, H⟩
        ·
         obtain rfl := Option.some.inj H
         go_wp2_with (first | ((with_reducible refine gate_callee (f := 106) rfl ?_); refine gl_ (some 24) Try.func106 #[.slice A0 l0.length c0, .int .i64 a0, .int .i64 a1] ?_; (with_reducible refine (impl_meet.calls k2 _ _ l0 a0 a1 a4 _ (y3 HR0.out HB.out) a5.out A8.out).mono ?_); rintro e w' ⟨rfl, ⟨nd, rfl⟩⟩; refine ⟨_, rfl, ?_⟩; obtain ⟨b9, d0, b4⟩ := Kd.S_slice a2.out; subst b4) | (go_at_call 106; (with_reducible refine (impl_meet.calls k2 _ _ a3 a0 a1 b0 _ (y1 a2.out) (y2 a2.out) b6.out).mono ?_); rintro e w' ⟨rfl, ⟨nd, rfl⟩⟩))
         go_ret
         exact ⟨z3_1, z3_0⟩
        have H' := ak H
        clear H
        go_wp2_with (first | ((with_reducible refine gate_callee (f := 106) rfl ?_); refine gl_ (some 24) Try.func106 #[.slice A0 l0.length c0, .int .i64 a0, .int .i64 a1] ?_; (with_reducible refine (impl_meet.calls k2 _ _ l0 a0 a1 a4 _ (y3 HR0.out HB.out) a5.out A8.out).mono ?_); rintro e w' ⟨rfl, ⟨nd, rfl⟩⟩; refine ⟨_, rfl, ?_⟩; obtain ⟨d1, d2, b5⟩ := Kd.S_slice a2.out; subst b5) | (go_at_call 106; (with_reducible refine (impl_meet.calls k2 _ _ a3 a0 a1 b0 _ (y1 a2.out) (y2 a2.out) b6.out).mono ?_); rintro e w' ⟨rfl, ⟨nd, rfl⟩⟩))
        go_roundg k2
        case measure => have := HK1.out; have := HK2.out; omega
        case rel => exact ⟨(wrap64 (a1 + 1)), z3_2, H', ⟨(by have := HK1.out; have := HK2.out; omega)⟩, ⟨(xS a2.out)⟩, ⟨z3_0⟩⟩
       have H' := ak H
       clear H
       go_wp2
       go_roundg k2
       case measure => have := HK1.out; have := HK2.out; omega
       case rel => exact ⟨(wrap64 (a0 + 1)), z3_2, H', ⟨(by have := HK1.out; have := HK2.out; omega)⟩, ⟨(xS a2.out)⟩, ⟨z3_0⟩⟩
    obtain rfl := Option.some.inj H
    go_wp2
    go_ret
    exact ⟨z3_1, z3_0⟩
 obtain rfl := Option.some.inj H
 go_enter Try.func104, Try.ntmps104
 go_wp2_with (first | ((with_reducible refine gate_callee (f := 67) rfl ?_); refine gl_ (some 7) Try.func67 #[.slice A0 l0.length c0] ?_; (with_reducible refine (impl_OrderOk.calls k _ _ l0 false _ (y4 HR0.out) a5.out A2.out).mono ?_); rintro e w' ⟨rfl, ⟨nd, rfl⟩⟩; refine ⟨_, rfl, ?_⟩))
 go_ret
 exact ⟨z3_1, z3_0⟩

end Go.Proofs.Ytacifhahfamipaa.P

namespace Go.Proofs.Ytacifhahfamipaa.P
open Go.RowKit Go.Proofs.YtacifhahfamipaaW.PrintWords Go.Proofs.YtacifhahfamipaaW.PrintLast Go.Proofs.YtacifhahfamipaaW.PrintMore
attribute [local go_sem] max2_int min2_int max_two min_two max_three min_three max_four min_four
set_option linter.unusedVariables false
set_option linter.unusedSimpArgs false
theorem z4_1 {p : Prop} (h : p := by repeat (first | exact Drawn0.refl _ | apply Drawn0.step)) : p := h
theorem z4_0 {p : Prop} (h : p := by first | rfl | (simp; done) | (simp [*]; done)) : p := h
set_option maxHeartbeats 8000000 in
set_option maxRecDepth 100000 in
theorem impl_LeastOf.calls (k : Nat) (A0 : Option Addr) (c0 : Nat) (l0 : List (List Int)) (r1 : Int) (r2 : Bool) (w : World) (hr0 : Kd.C (Kd.slice 3 (Kd.int .i64)) w A0 l0.length l0) (hc0 : l0.length ≤ c0) (h : impl_LeastOf.f k l0 = some (r1, r2)) :
 Calls Try.prog 69 #[.slice A0 l0.length c0] w fun e w' => e = .returned (.tuple #[.int .i64 r1, .bool r2]) ∧ Drawn0 w w' := by
 have HR0 := ak hr0
 have b3 := ak hc0
 clear hr0 hc0
 have H : ((impl_OrderOk.f k l0).bind fun a3 => (if a3 = true then (impl_LeastOf.l0 k l0 (l0.length : Int) 0) else (some ((-1), false)))) = some (r1, r2) := h
 clear h
 obtain ⟨a3, A2, H⟩ := bd_ H
 try dsimp only at H
 replace H := ox_ H
 rcases H with ⟨rfl, H⟩ | ⟨rfl, H⟩
 ·
  have H' := ak H
  clear H
  go_enter Try.func69, Try.ntmps69
  go_wp2_with (first | ((with_reducible refine gate_callee (f := 67) rfl ?_); refine gl_ (some 10) Try.func67 #[.slice A0 l0.length c0] ?_; (with_reducible refine (impl_OrderOk.calls k _ _ l0 true _ (y4 HR0.out) b3.out A2.out).mono ?_); rintro e w' ⟨rfl, ⟨nd, rfl⟩⟩; refine ⟨_, rfl, ?_⟩))
  go_loopg [14] k (fun kq b4 w' => ∃ (a0 : Int), b4 = .int .i64 a0 ∧ Aside0 (impl_LeastOf.l0 kq l0 (l0.length : Int) a0 = some (r1, r2)) ∧ Aside0 (kq ≤ k) ∧ Drawn0 w w')
  case atStart => exact ⟨(0), z4_0, H', ⟨Nat.le_refl _⟩, z4_1⟩
  case round =>
   clear H'
   try clear c3
   obtain ⟨a0, rfl, HA, HK1, ⟨m1, rfl⟩⟩ := hrel
   cases gk with
   | zero => exact absurd HA.out (by simp [impl_LeastOf.l0])
   | succ k1 =>
    have H := HA.out
    clear HA
    simp only [impl_LeastOf.l0] at H
    replace H := os_ H
    rcases H with ⟨a4, H⟩ | ⟨a4, H⟩
    ·
     replace H := od2 H
     obtain ⟨a6, a7, H⟩ := H
     have H' := ak H
     clear H
     obtain ⟨ad175, a8, a9, e175, hx175_0, a5, HR175_0, b0, q175⟩ := al_ HR0.out a0
     cases e175
     go_wp2
     go_loopg [6, 21] k1 (fun kq v6 b5 w' => ∃ (a2 : Bool) (a1 : Int), v6 = .bool a2 ∧ b5 = .int .i64 a1 ∧ Aside0 (impl_LeastOf.l1 kq a0 a2 l0 (l0.length : Int) a0 (rd_L1 l0 a0) ((rd_L1 l0 a0).length : Int) a1 = some (r1, r2)) ∧ Aside0 (kq ≤ k1) ∧ Drawn0 w w')
     case atStart => exact ⟨(true), (0), z4_0, z4_0, H', ⟨Nat.le_refl _⟩, z4_1⟩
     case round =>
      clear H'
      try clear c3
      try clear c4
      try clear a4
      try clear c5
      try clear a6
      try clear c6
      try clear a7
      try clear hx175_0
      try clear b0
      try clear q175
      obtain ⟨a2, a1, rfl, rfl, HA, HK2, ⟨m2, rfl⟩⟩ := hrel
      cases gk with
      | zero => exact absurd HA.out (by simp [impl_LeastOf.l1])
      | succ k2 =>
       have H := HA.out
       clear HA
       simp only [impl_LeastOf.l1] at H
       replace H := os_ H
       rcases H with ⟨b1, H⟩ | ⟨b1, H⟩
       ·
        replace H := od2 H
        obtain ⟨b6, b7, H⟩ := H
        replace H := ox_ H
        rcases H with ⟨rfl, H⟩ | ⟨rfl, H⟩
        ·
         have H' := ak H
         clear H
         obtain ⟨ad176, e176, hx176_0, b2, q176⟩ := ai_ HR175_0.out a1
         cases e176
         go_wp2
         go_roundg k2
         case measure => have := HK1.out; have := HK2.out; omega
         case rel => exact ⟨(((rd (rd_L1 l0 a0) a1) == 1)), (wrap64 (a1 + 1)), z4_0, z4_0, H', ⟨(by have := HK1.out; have := HK2.out; omega)⟩, z4_1⟩
        have H' := ak H
        clear H
        obtain ⟨ad176, e176, hx176_0, b2, q176⟩ := ai_ HR175_0.out a1
        cases e176
        go_wp2
        go_roundg k2
        case measure => have := HK1.out; have := HK2.out; omega
        case rel => exact ⟨(false), (wrap64 (a1 + 1)), z4_0, z4_0, H', ⟨(by have := HK1.out; have := HK2.out; omega)⟩, z4_1⟩
       replace H := ox_ H
       rcases H with ⟨rfl, H⟩ | ⟨rfl, H⟩
       ·
        simp only [Option.some.injEq, Prod.mk.injEq] at H
        obtain ⟨rfl, rfl⟩ := H
        go_wp2
        go_ret2
        exact ⟨z4_0, z4_1⟩
       have H' := ak H
       clear H
       go_wp2
       go_roundg k2
       case measure => have := HK1.out; have := HK2.out; omega
       case rel => exact ⟨(wrap64 (a0 + 1)), z4_0, H', ⟨(by have := HK1.out; have := HK2.out; omega)⟩, z4_1⟩
    simp only [Option.some.injEq, Prod.mk.injEq] at H
    obtain ⟨rfl, rfl⟩ := H
    go_wp2
    go_ret2
    exact ⟨z4_0, z4_1⟩
 simp only [Option.some.injEq, Prod.mk.injEq] at H
 obtain ⟨rfl, rfl⟩ := H
 go_enter Try.func69, Try.ntmps69
 go_wp2_with (first | ((with_reducible refine gate_callee (f := 67) rfl ?_); refine gl_ (some 10) Try.func67 #[.slice A0 l0.length c0] ?_; (with_reducible refine (impl_OrderOk.calls k _ _ l0 false _ (y4 HR0.out) b3.out A2.out).mono ?_); rintro e w' ⟨rfl, ⟨nd, rfl⟩⟩; refine ⟨_, rfl, ?_⟩))
 go_ret2
 exact ⟨z4_0, z4_1⟩

end Go.Proofs.Ytacifhahfamipaa.P
