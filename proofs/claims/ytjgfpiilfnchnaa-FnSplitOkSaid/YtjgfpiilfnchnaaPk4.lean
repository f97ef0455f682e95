/- 7 texts of this seat joined: walks, and the laws of what they compute. -/
import Derived.Test.YtjgfpiilfnchnaaPk2
import Derived.Test.YtjgfpiilfnchnaaPk3
-- written by gen.py (a program of this session) out of the kit's print of this seat's translation
namespace Go.Proofs.Ytjgfpiilfnchnaa.P
open Go.RowKit Go.Proofs.YtjgfpiilfnchnaaW.PrintWords Go.Proofs.YtjgfpiilfnchnaaW.PrintLast Go.Proofs.YtjgfpiilfnchnaaW.PrintMore
attribute [local go_sem] max2_int min2_int max_two min_two max_three min_three max_four min_four
set_option linter.unusedVariables false
set_option linter.unusedSimpArgs false
theorem z1j_1 {p : Prop} (h : p := by repeat (first | exact Drawn0.refl _ | apply Drawn0.step)) : p := h
theorem z1j_0 {p : Prop} (h : p := by first | rfl | (simp; done) | (simp [*]; done)) : p := h
set_option maxHeartbeats 8000000 in
set_option maxRecDepth 100000 in
theorem spec_LeastOf.calls (k : Nat) (A0 : Option Addr) (c0 : Nat) (l0 : List (List Int)) (r1 : Int) (r2 : Bool) (w : World) (hr0 : Kd.C (Kd.slice 3 (Kd.int .i64)) w A0 l0.length l0) (hc0 : l0.length ≤ c0) (h : spec_LeastOf.f k l0 = some (r1, r2)) :
 Calls Try.prog 59 #[.slice A0 l0.length c0] w fun e w' => e = .returned (.tuple #[.int .i64 r1, .bool r2]) ∧ Drawn0 w w' := by
 have HR0 := ak hr0
 have b5 := ak hc0
 clear hr0 hc0
 have H : (spec_LeastOf.l0 k l0 0) = some (r1, r2) := h
 clear h
 have H' := ak H
 clear H
 go_enter Try.func59, Try.ntmps59
 go_wp2
 go_loopg [4] k (fun kq v4 w' => ∃ (a0 : Int), v4 = .int .i64 a0 ∧ Aside0 (spec_LeastOf.l0 kq l0 a0 = some (r1, r2)) ∧ Aside0 (kq ≤ k) ∧ Drawn0 w w')
 case atStart => exact ⟨(0), z1j_0, H', ⟨Nat.le_refl _⟩, z1j_1⟩
 case round =>
  clear H'
  obtain ⟨a0, rfl, HA, HK1, ⟨m1, rfl⟩⟩ := hrel
  cases gk with
  | zero => exact absurd HA.out (by simp [spec_LeastOf.l0])
  | succ k1 =>
   have H := HA.out
   clear HA
   simp only [spec_LeastOf.l0] at H
   have a8 := ak H
   clear H
   go_upto_region 2 with (fail)
   go_cut [14] (fun b6 wc => ∃ (kq : Nat) (a2 : Bool), b6 = .bool a2 ∧ Aside0 (spec_LeastOf.j1 kq l0 a0 a2 = some (r1, r2)) ∧ Aside0 (kq ≤ k1) ∧ Drawn0 w wc)
   case first =>
    have H := a8.out
    clear a8
    replace H := os_ H
    rcases H with ⟨a3, H⟩ | ⟨a3, H⟩
    ·
     (first | rw [a3] | (simp only [i64_w, i32_w]; rw [a3]) | skip)
     obtain ⟨a6, A4, H⟩ := bd_ H
     try dsimp only at H
     have H' := ak H
     clear H
     go_wp2_with (first | (go_at_call 86; (with_reducible refine (spec_OrderOk.calls k1 _ _ l0 a6 _ (y4 HR0.out) b5.out A4.out).mono ?_); rintro e w' ⟨rfl, ⟨nd, rfl⟩⟩))
     go_meet
     case rel => exact ⟨_, (a6), z1j_0, H', ⟨(by have := HK1.out; first | omega | exact Nat.le_refl _)⟩, z1j_1⟩
    (first | rw [a3] | (simp only [i64_w, i32_w]; rw [a3]) | skip)
    have H' := ak H
    clear H
    go_wp2
    go_meet
    case rel => exact ⟨_, (false), z1j_0, H', ⟨(by have := HK1.out; first | omega | exact Nat.le_refl _)⟩, z1j_1⟩
   case rest =>
    clear a8
    obtain ⟨kq, a2, rfl, HA, a5, ⟨mc1, rfl⟩⟩ := hcut
    cases kq with
    | zero => exact absurd HA.out (by simp [spec_LeastOf.j1])
    | succ b2 =>
     have H := HA.out
     clear HA
     simp only [spec_LeastOf.j1] at H
     replace H := ox_ H
     rcases H with ⟨rfl, H⟩ | ⟨rfl, H⟩
     ·
      have H' := ak H
      clear H
      go_wp2
      go_loopg [5, 6] b2 (fun kq v5 v6 w' => ∃ (a4 : Bool) (a1 : Int), v5 = .bool a4 ∧ v6 = .int .i64 a1 ∧ Aside0 (spec_LeastOf.l1 kq l0 a0 a4 a1 = some (r1, r2)) ∧ Aside0 (kq ≤ b2) ∧ Drawn0 w w')
      case atStart => exact ⟨(true), (0), z1j_0, z1j_0, H', ⟨Nat.le_refl _⟩, z1j_1⟩
      case round =>
       clear H'
       try clear c5
       obtain ⟨a4, a1, rfl, rfl, HA, HK3, ⟨m3, rfl⟩⟩ := hrel
       cases gk with
       | zero => exact absurd HA.out (by simp [spec_LeastOf.l1])
       | succ k3 =>
        have H := HA.out
        clear HA
        simp only [spec_LeastOf.l1] at H
        replace H := os_ H
        rcases H with ⟨a9, H⟩ | ⟨a9, H⟩
        ·
         replace H := ox_ H
         rcases H with ⟨rfl, H⟩ | ⟨rfl, H⟩
         ·
          replace H := od4 H
          obtain ⟨b7, b8, b3, b4, H⟩ := H
          have H' := ak H
          clear H
          obtain ⟨ad489, b0, b1, e489, hx489_0, a7, HR489_0, b9, q489⟩ := al_ HR0.out a0
          cases e489
          obtain ⟨ad490, e490, hx490_0, d0, q490⟩ := ai_ HR489_0.out a1
          cases e490
          go_wp2
          go_roundg k3
          case measure => have := HK1.out; have := a5.out; have := HK3.out; omega
          case rel => exact ⟨(((rd (rd_L1 l0 a0) a1) == 1)), (wrap64 (a1 + 1)), z1j_0, z1j_0, H', ⟨(by have := HK1.out; have := a5.out; have := HK3.out; omega)⟩, z1j_1⟩
         have H' := ak H
         clear H
         go_wp2
         go_roundg k3
         case measure => have := HK1.out; have := a5.out; have := HK3.out; omega
         case rel => exact ⟨(false), (wrap64 (a1 + 1)), z1j_0, z1j_0, H', ⟨(by have := HK1.out; have := a5.out; have := HK3.out; omega)⟩, z1j_1⟩
        replace H := ox_ H
        rcases H with ⟨rfl, H⟩ | ⟨rfl, H⟩
        ·
         simp only [Option.some.injEq, Prod.mk.injEq] at H
         obtain ⟨rfl, rfl⟩ := H
         go_wp2
         go_ret2
         exact ⟨z1j_0, z1j_1⟩
        have H' := ak H
        clear H
        go_wp2
        go_roundg k3
        case measure => have := HK1.out; have := a5.out; have := HK3.out; omega
        case rel => exact ⟨(wrap64 (a0 + 1)), z1j_0, H', ⟨(by have := HK1.out; have := a5.out; have := HK3.out; omega)⟩, z1j_1⟩
     simp only [Option.some.injEq, Prod.mk.injEq] at H
     obtain ⟨rfl, rfl⟩ := H
     go_wp2
     go_ret2
     exact ⟨z1j_0, z1j_1⟩

end Go.Proofs.Ytjgfpiilfnchnaa.P

-- written by gen.py (a program of this session) out of the kit's print of this seat's translation
namespace Go.Proofs.Ytjgfpiilfnchnaa.P
open Go.RowKit Go.Proofs.YtjgfpiilfnchnaaW.PrintWords Go.Proofs.YtjgfpiilfnchnaaW.PrintLast Go.Proofs.YtjgfpiilfnchnaaW.PrintMore
attribute [local go_sem] max2_int min2_int max_two min_two max_three min_three max_four min_four
set_option linter.unusedVariables false
set_option linter.unusedSimpArgs false
theorem z1k_4 {p : Prop} (h : p := by have := e1.out; have := HK2.out; have := HK3.out; have := d8.out; have := HK5.out; omega) : p := h
theorem z1k_3 {p : Prop} (h : p := by first | rfl | (simp [errW_none, errW_some] <;> rfl) | (simp [*, errW_none, errW_some] <;> rfl)) : p := h
theorem z1k_2 {p : Prop} (h : p := by first | rfl | (simp; done) | (simp [*]; done)) : p := h
theorem z1k_1 {p : Prop} (h : p := by repeat (first | (with_reducible first | exact HB.out | apply below_alloc | apply pw_below_drewN | apply below_drew1) | exact HB.out)) : p := h
theorem z1k_0 {p : Prop} (h : p := by repeat (first | (with_reducible first | exact HB.out | apply below_alloc | apply pw_below_drewN | apply below_drew1 | refine below_set ?_ d3.out) | exact HB.out)) : p := h
set_option maxHeartbeats 8000000 in
set_option maxRecDepth 100000 in
theorem spec_LogicOk.calls (k : Nat) (A0_0 : Option Addr) (c0_0 : Nat) (l0_0 : List (List Int)) (A0_1 : Option Addr) (c0_1 : Nat) (l0_1 : List Int) (r : Bool) (w : World) (hr0_0 : Kd.C (Kd.slice 3 (Kd.int .i64)) w A0_0 l0_0.length l0_0) (hc0_0 : l0_0.length ≤ c0_0) (hr0_1 : Kd.C (Kd.int .i64) w A0_1 l0_1.length l0_1) (hc0_1 : l0_1.length ≤ c0_1) (h : spec_LogicOk.f k l0_0 l0_1 = some r) :
 Calls Try.prog 16 #[.agg #[.slice A0_0 l0_0.length c0_0, .slice A0_1 l0_1.length c0_1]] w fun e w' => e = .returned (.bool r) ∧ Below w.heap.size w w' := by
 have hu26 := Try.underlying26
 have HR0_0 := ak hr0_0
 have a8 := ak hc0_0
 clear hr0_0 hc0_0
 have HR0_1 := ak hr0_1
 have g2 := ak hc0_1
 clear hr0_1 hc0_1
 have HB := ak (Below.refl w.heap.size w)
 have H : ((spec_LatticeOk.f k l0_0).bind fun f0 => (if f0 = true then (spec_LogicOk.j0 k (l0_0.length : Int) ((l0_1.length : Int) != (l0_0.length : Int)) l0_0 l0_1) else (spec_LogicOk.j0 k (l0_0.length : Int) true l0_0 l0_1))) = some r := h
 clear h
 have f9 := ak H
 clear H
 go_enter Try.func16, Try.ntmps16
 go_upto_region 2 with (first | ((with_reducible refine gate_dst (N := 1) rfl ?_); (try (refine gate_guard (by rfl) ?_; dsimp only)); refine box_event ?hg (N := 1) ?hd (cs := #[.slice A0_0 l0_0.length c0_0, .slice A0_1 l0_1.length c0_1]) (t := 26) ?hr ?_; (case hd => rfl); (case hg => rfl); (case hr => first | (go_simp; done) | (go_simp; rfl)); intro a7 hg w3 hbox hb; have a0 := ak (hbox); have e2 := ak ((by rw [hg]; exact (below_size z1k_1) : w.heap.size ≤ a7)); have d3 := ak ((by rw [hg]; exact (below_size z1k_1) : w.heap.size ≤ a7)); replace HB := ak (below_step z1k_1 hb); clear hb hbox hg; have a3 := cz20 a0.out; have a4 := cz21 a0.out; have a5 := blk_frozen a0.out 0; have a6 := blk_frozen a0.out 1))
 repeat (go_quiet (first | ((with_reducible refine gate_dst (N := 1) rfl ?_); (try (refine gate_guard (by rfl) ?_; dsimp only)); refine box_event ?hg (N := 1) ?hd (cs := #[.slice A0_0 l0_0.length c0_0, .slice A0_1 l0_1.length c0_1]) (t := 26) ?hr ?_; (case hd => rfl); (case hg => rfl); (case hr => first | (go_simp; done) | (go_simp; rfl)); intro a7 hg w3 hbox hb; have a0 := ak (hbox); have e2 := ak ((by rw [hg]; exact (below_size z1k_1) : w.heap.size ≤ a7)); have d3 := ak ((by rw [hg]; exact (below_size z1k_1) : w.heap.size ≤ a7)); replace HB := ak (below_step z1k_1 hb); clear hb hbox hg; have a3 := cz20 a0.out; have a4 := cz21 a0.out; have a5 := blk_frozen a0.out 0; have a6 := blk_frozen a0.out 1)); go_upto_region 2 with (first | ((with_reducible refine gate_dst (N := 1) rfl ?_); (try (refine gate_guard (by rfl) ?_; dsimp only)); refine box_event ?hg (N := 1) ?hd (cs := #[.slice A0_0 l0_0.length c0_0, .slice A0_1 l0_1.length c0_1]) (t := 26) ?hr ?_; (case hd => rfl); (case hg => rfl); (case hr => first | (go_simp; done) | (go_simp; rfl)); intro a7 hg w3 hbox hb; have a0 := ak (hbox); have e2 := ak ((by rw [hg]; exact (below_size z1k_1) : w.heap.size ≤ a7)); have d3 := ak ((by rw [hg]; exact (below_size z1k_1) : w.heap.size ≤ a7)); replace HB := ak (below_step z1k_1 hb); clear hb hbox hg; have a3 := cz20 a0.out; have a4 := cz21 a0.out; have a5 := blk_frozen a0.out 0; have a6 := blk_frozen a0.out 1)))
 (try simp only [Act.put, List.setIfInBounds_toArray, List.set_cons_zero, List.set_cons_succ])
 go_cut [22] (fun i0 wc => ∃ (kq : Nat) (d4 : Bool), i0 = .bool d4 ∧ Aside0 (spec_LogicOk.j0 kq (l0_0.length : Int) d4 l0_0 l0_1 = some r) ∧ Aside0 (kq ≤ k) ∧ Aside0 (wc.heap[a7]? = some (.cells #[(.slice A0_0 l0_0.length c0_0), (.slice A0_1 l0_1.length c0_1)] 26 (0, 0))) ∧ Aside0 (Below w.heap.size w wc))
 case first =>
  have H := f9.out
  clear f9
  obtain ⟨f0, A5, H⟩ := bd_ H
  try dsimp only at H
  replace H := ox_ H
  rcases H with ⟨rfl, H⟩ | ⟨rfl, H⟩
  ·
   have H' := ak H
   clear H
   have a3 := cz20 a0.out
   have a4 := cz21 a0.out
   have a5 := blk_frozen a0.out 0
   have a6 := blk_frozen a0.out 1
   go_wp2_with (first | (go_at_call 57; (with_reducible refine (spec_LatticeOk.calls k _ _ l0_0 true _ (y3 HR0_0.out HB.out) a8.out A5.out).mono ?_); rintro e w' ⟨rfl, ⟨nd, rfl⟩⟩; (try first | exact ⟨rfl, _, World.drewN_drewN _ _ _⟩ | exact ⟨rfl, _, Eq.trans (World.drewN_drewN _ _ _) (congrArg (World.drewN _) (Nat.add_assoc _ _ _))⟩)))
   repeat (go_quiet (first | (go_at_call 57; (with_reducible refine (spec_LatticeOk.calls k _ _ l0_0 true _ (y3 HR0_0.out HB.out) a8.out A5.out).mono ?_); rintro e w' ⟨rfl, ⟨nd, rfl⟩⟩; (try first | exact ⟨rfl, _, World.drewN_drewN _ _ _⟩ | exact ⟨rfl, _, Eq.trans (World.drewN_drewN _ _ _) (congrArg (World.drewN _) (Nat.add_assoc _ _ _))⟩))); try go_wp2_with (first | (go_at_call 57; (with_reducible refine (spec_LatticeOk.calls k _ _ l0_0 true _ (y3 HR0_0.out HB.out) a8.out A5.out).mono ?_); rintro e w' ⟨rfl, ⟨nd, rfl⟩⟩; (try first | exact ⟨rfl, _, World.drewN_drewN _ _ _⟩ | exact ⟨rfl, _, Eq.trans (World.drewN_drewN _ _ _) (congrArg (World.drewN _) (Nat.add_assoc _ _ _))⟩))))
   go_meet
   case rel => exact ⟨_, (((l0_1.length : Int) != (l0_0.length : Int))), z1k_2, H', ⟨(by first | omega | exact Nat.le_refl _)⟩, ⟨(xb a0.out)⟩, ⟨z1k_0⟩⟩
  have H' := ak H
  clear H
  have a3 := cz20 a0.out
  have a4 := cz21 a0.out
  have a5 := blk_frozen a0.out 0
  have a6 := blk_frozen a0.out 1
  go_wp2_with (first | (go_at_call 57; (with_reducible refine (spec_LatticeOk.calls k _ _ l0_0 false _ (y3 HR0_0.out HB.out) a8.out A5.out).mono ?_); rintro e w' ⟨rfl, ⟨nd, rfl⟩⟩; (try first | exact ⟨rfl, _, World.drewN_drewN _ _ _⟩ | exact ⟨rfl, _, Eq.trans (World.drewN_drewN _ _ _) (congrArg (World.drewN _) (Nat.add_assoc _ _ _))⟩)))
  repeat (go_quiet (first | (go_at_call 57; (with_reducible refine (spec_LatticeOk.calls k _ _ l0_0 false _ (y3 HR0_0.out HB.out) a8.out A5.out).mono ?_); rintro e w' ⟨rfl, ⟨nd, rfl⟩⟩; (try first | exact ⟨rfl, _, World.drewN_drewN _ _ _⟩ | exact ⟨rfl, _, Eq.trans (World.drewN_drewN _ _ _) (congrArg (World.drewN _) (Nat.add_assoc _ _ _))⟩))); try go_wp2_with (first | (go_at_call 57; (with_reducible refine (spec_LatticeOk.calls k _ _ l0_0 false _ (y3 HR0_0.out HB.out) a8.out A5.out).mono ?_); rintro e w' ⟨rfl, ⟨nd, rfl⟩⟩; (try first | exact ⟨rfl, _, World.drewN_drewN _ _ _⟩ | exact ⟨rfl, _, Eq.trans (World.drewN_drewN _ _ _) (congrArg (World.drewN _) (Nat.add_assoc _ _ _))⟩))))
  go_meet
  case rel => exact ⟨_, (true), z1k_2, H', ⟨(by first | omega | exact Nat.le_refl _)⟩, ⟨(xb a0.out)⟩, ⟨z1k_0⟩⟩
 case rest =>
  clear f9
  try clear a3
  try clear a4
  try clear a5
  try clear a6
  obtain ⟨kq, d4, rfl, HA, e1, a0, HB⟩ := hcut
  cases kq with
  | zero => exact absurd HA.out (by simp [spec_LogicOk.j0])
  | succ g3 =>
   have H := HA.out
   clear HA
   simp only [spec_LogicOk.j0] at H
   replace H := ox_ H
   rcases H with ⟨rfl, H⟩ | ⟨rfl, H⟩
   ·
    obtain rfl := Option.some.inj H
    go_wp2
    repeat (go_quiet (fail); try go_wp2)
    go_ret
    exact ⟨z1k_3, z1k_0⟩
   have H' := ak H
   clear H
   go_wp2
   repeat (go_quiet (fail); try go_wp2)
   go_loopg [4] g3 (fun kq v4 w' => ∃ (a9 : Int), v4 = .int .i64 a9 ∧ Aside0 (spec_LogicOk.l0 kq (l0_0.length : Int) a9 l0_0 l0_1 = some r) ∧ Aside0 (kq ≤ g3) ∧ Aside0 (w'.heap[a7]? = some (.cells #[(.slice A0_0 l0_0.length c0_0), (.slice A0_1 l0_1.length c0_1)] 26 (0, 0))) ∧ Aside0 (Below w.heap.size w w'))
   case atStart => exact ⟨(0), z1k_2, H', ⟨Nat.le_refl _⟩, ⟨(xb a0.out)⟩, ⟨z1k_0⟩⟩
   case round =>
    clear H'
    try clear c9
    try clear a3
    try clear a4
    try clear a5
    try clear a6
    obtain ⟨a9, rfl, HA, HK2, a0, HB⟩ := hrel
    cases gk with
    | zero => exact absurd HA.out (by simp [spec_LogicOk.l0])
    | succ k2 =>
     have H := HA.out
     clear HA
     simp only [spec_LogicOk.l0] at H
     replace H := os_ H
     rcases H with ⟨d1, H⟩ | ⟨d1, H⟩
     ·
      replace H := od2 H
      obtain ⟨g4, g5, H⟩ := H
      obtain ⟨i1, e9, H⟩ := bd_ H
      try dsimp only at H
      replace H := ox_ H
      rcases H with ⟨rfl, H⟩ | ⟨rfl, H⟩
      ·
       have H' := ak H
       clear H
       have a3 := cz20 a0.out
       have a4 := cz21 a0.out
       have a5 := blk_frozen a0.out 0
       have a6 := blk_frozen a0.out 1
       have b2 : 0 ≤ (a9 : Int) := oa_
       have q493 : a9 < (l0_1.length : Int) := oa_
       obtain ⟨ad493, e493, hx493_0⟩ := Kd.at_int HR0_1.out a9 b2 q493
       cases e493
       replace hx493_0 := (HB.out.cell (World.block_lt_of_cell? w _ hx493_0)).trans hx493_0
       replace b2 := eq_true b2
       replace q493 := eq_true q493
       go_wp2_with (first | (go_at_call 58; (with_reducible refine (spec_l1In.calls (rd l0_1 a9) 0 (wrap64 ((l0_0.length : Int) - 1)) true _ e9.out).mono ?_); rintro e w' ⟨rfl, ⟨nd, rfl⟩⟩; (try first | exact ⟨rfl, _, World.drewN_drewN _ _ _⟩ | exact ⟨rfl, _, Eq.trans (World.drewN_drewN _ _ _) (congrArg (World.drewN _) (Nat.add_assoc _ _ _))⟩)))
       repeat (go_quiet (first | (go_at_call 58; (with_reducible refine (spec_l1In.calls (rd l0_1 a9) 0 (wrap64 ((l0_0.length : Int) - 1)) true _ e9.out).mono ?_); rintro e w' ⟨rfl, ⟨nd, rfl⟩⟩; (try first | exact ⟨rfl, _, World.drewN_drewN _ _ _⟩ | exact ⟨rfl, _, Eq.trans (World.drewN_drewN _ _ _) (congrArg (World.drewN _) (Nat.add_assoc _ _ _))⟩))); try go_wp2_with (first | (go_at_call 58; (with_reducible refine (spec_l1In.calls (rd l0_1 a9) 0 (wrap64 ((l0_0.length : Int) - 1)) true _ e9.out).mono ?_); rintro e w' ⟨rfl, ⟨nd, rfl⟩⟩; (try first | exact ⟨rfl, _, World.drewN_drewN _ _ _⟩ | exact ⟨rfl, _, Eq.trans (World.drewN_drewN _ _ _) (congrArg (World.drewN _) (Nat.add_assoc _ _ _))⟩))))
       go_roundg k2
       case measure => have := e1.out; have := HK2.out; omega
       case rel => exact ⟨(wrap64 (a9 + 1)), z1k_2, H', ⟨(by have := e1.out; have := HK2.out; omega)⟩, ⟨(xb a0.out)⟩, ⟨z1k_0⟩⟩
      obtain rfl := Option.some.inj H
      have a3 := cz20 a0.out
      have a4 := cz21 a0.out
      have a5 := blk_frozen a0.out 0
      have a6 := blk_frozen a0.out 1
      have b2 : 0 ≤ (a9 : Int) := oa_
      have q493 : a9 < (l0_1.length : Int) := oa_
      obtain ⟨ad493, e493, hx493_0⟩ := Kd.at_int HR0_1.out a9 b2 q493
      cases e493
      replace hx493_0 := (HB.out.cell (World.block_lt_of_cell? w _ hx493_0)).trans hx493_0
      replace b2 := eq_true b2
      replace q493 := eq_true q493
      go_wp2_with (first | (go_at_call 58; (with_reducible refine (spec_l1In.calls (rd l0_1 a9) 0 (wrap64 ((l0_0.length : Int) - 1)) false _ e9.out).mono ?_); rintro e w' ⟨rfl, ⟨nd, rfl⟩⟩; (try first | exact ⟨rfl, _, World.drewN_drewN _ _ _⟩ | exact ⟨rfl, _, Eq.trans (World.drewN_drewN _ _ _) (congrArg (World.drewN _) (Nat.add_assoc _ _ _))⟩)))
      repeat (go_quiet (first | (go_at_call 58; (with_reducible refine (spec_l1In.calls (rd l0_1 a9) 0 (wrap64 ((l0_0.length : Int) - 1)) false _ e9.out).mono ?_); rintro e w' ⟨rfl, ⟨nd, rfl⟩⟩; (try first | exact ⟨rfl, _, World.drewN_drewN _ _ _⟩ | exact ⟨rfl, _, Eq.trans (World.drewN_drewN _ _ _) (congrArg (World.drewN _) (Nat.add_assoc _ _ _))⟩))); try go_wp2_with (first | (go_at_call 58; (with_reducible refine (spec_l1In.calls (rd l0_1 a9) 0 (wrap64 ((l0_0.length : Int) - 1)) false _ e9.out).mono ?_); rintro e w' ⟨rfl, ⟨nd, rfl⟩⟩; (try first | exact ⟨rfl, _, World.drewN_drewN _ _ _⟩ | exact ⟨rfl, _, Eq.trans (World.drewN_drewN _ _ _) (congrArg (World.drewN _) (Nat.add_assoc _ _ _))⟩))))
      go_ret
      exact ⟨z1k_3, z1k_0⟩
     obtain ⟨⟨b3, e4⟩, g0, H⟩ := bd_ H
     try dsimp only at H
     have H' := ak H
     clear H
     have a3 := cz20 a0.out
     have a4 := cz21 a0.out
     have a5 := blk_frozen a0.out 0
     have a6 := blk_frozen a0.out 1
     go_wp2_with (first | (go_at_call 59; (with_reducible refine (spec_LeastOf.calls k2 _ _ l0_0 b3 e4 _ (y3 HR0_0.out HB.out) a8.out g0.out).mono ?_); rintro e w' ⟨rfl, ⟨nd, rfl⟩⟩; (try first | exact ⟨rfl, _, World.drewN_drewN _ _ _⟩ | exact ⟨rfl, _, Eq.trans (World.drewN_drewN _ _ _) (congrArg (World.drewN _) (Nat.add_assoc _ _ _))⟩)))
     repeat (go_quiet (first | (go_at_call 59; (with_reducible refine (spec_LeastOf.calls k2 _ _ l0_0 b3 e4 _ (y3 HR0_0.out HB.out) a8.out g0.out).mono ?_); rintro e w' ⟨rfl, ⟨nd, rfl⟩⟩; (try first | exact ⟨rfl, _, World.drewN_drewN _ _ _⟩ | exact ⟨rfl, _, Eq.trans (World.drewN_drewN _ _ _) (congrArg (World.drewN _) (Nat.add_assoc _ _ _))⟩))); try go_wp2_with (first | (go_at_call 59; (with_reducible refine (spec_LeastOf.calls k2 _ _ l0_0 b3 e4 _ (y3 HR0_0.out HB.out) a8.out g0.out).mono ?_); rintro e w' ⟨rfl, ⟨nd, rfl⟩⟩; (try first | exact ⟨rfl, _, World.drewN_drewN _ _ _⟩ | exact ⟨rfl, _, Eq.trans (World.drewN_drewN _ _ _) (congrArg (World.drewN _) (Nat.add_assoc _ _ _))⟩))))
     go_loopg [7] k2 (fun kq v7 w' => ∃ (a1 : Int), v7 = .int .i64 a1 ∧ Aside0 (spec_LogicOk.l1 kq (l0_0.length : Int) b3 a1 l0_0 l0_1 = some r) ∧ Aside0 (kq ≤ k2) ∧ Aside0 (w'.heap[a7]? = some (.cells #[(.slice A0_0 l0_0.length c0_0), (.slice A0_1 l0_1.length c0_1)] 26 (0, 0))) ∧ Aside0 (Below w.heap.size w w'))
     case atStart => exact ⟨(0), z1k_2, H', ⟨Nat.le_refl _⟩, ⟨(xb a0.out)⟩, ⟨z1k_0⟩⟩
     case round =>
      clear H'
      try clear c9
      try clear g6
      try clear d1
      try clear a3
      try clear a4
      try clear a5
      try clear a6
      obtain ⟨a1, rfl, HA, HK3, a0, HB⟩ := hrel
      cases gk with
      | zero => exact absurd HA.out (by simp [spec_LogicOk.l1])
      | succ k3 =>
       have H := HA.out
       clear HA
       simp only [spec_LogicOk.l1] at H
       replace H := os_ H
       rcases H with ⟨d5, H⟩ | ⟨d5, H⟩
       ·
        have e5 := ak H
        clear H
        go_upto_region 13 with (fail)
        repeat (go_quiet (fail); go_upto_region 13 with (fail))
        go_cut [71] (fun i2 wc => ∃ (kq : Nat) (b4 : Bool), i2 = .bool b4 ∧ Aside0 (spec_LogicOk.j3 kq (l0_0.length : Int) b3 a1 b4 l0_0 l0_1 = some r) ∧ Aside0 (kq ≤ k3) ∧ Aside0 (wc.heap[a7]? = some (.cells #[(.slice A0_0 l0_0.length c0_0), (.slice A0_1 l0_1.length c0_1)] 26 (0, 0))) ∧ Aside0 (Below w.heap.size w wc))
        case first =>
         have H := e5.out
         clear e5
         replace H := od_ H
         obtain ⟨e3, H⟩ := H
         (first | rw [e3] | (simp only [i64_w, i32_w]; rw [e3]) | skip)
         replace H := od3 H
         obtain ⟨g7, g8, g9, H⟩ := H
         replace H := oe2 H
         rcases H with ⟨⟨-, f1, f2⟩, H⟩ | ⟨⟨i4, f1, f2⟩, H⟩
         ·
          obtain ⟨d9, g1, H⟩ := bd_ H
          try dsimp only at H
          have H' := ak H
          clear H
          have a3 := cz20 a0.out
          have a4 := cz21 a0.out
          have a5 := blk_frozen a0.out 0
          have a6 := blk_frozen a0.out 1
          have b5 : 0 ≤ (a1 : Int) := oa_
          have q497 : a1 < (l0_1.length : Int) := oa_
          obtain ⟨ad497, e497, hx497_0⟩ := Kd.at_int HR0_1.out a1 b5 q497
          cases e497
          replace hx497_0 := (HB.out.cell (World.block_lt_of_cell? w _ hx497_0)).trans hx497_0
          replace b5 := eq_true b5
          replace q497 := eq_true q497
          have b6 : 0 ≤ ((rd l0_1 a1) : Int) := oa_
          have q498 : (rd l0_1 a1) < (l0_1.length : Int) := oa_
          obtain ⟨ad498, e498, hx498_0⟩ := Kd.at_int HR0_1.out (rd l0_1 a1) b6 q498
          obtain rfl := ij_ e498
          replace hx498_0 := (HB.out.cell (World.block_lt_of_cell? w _ hx498_0)).trans hx498_0
          replace b6 := eq_true b6
          replace q498 := eq_true q498
          have e6 : 0 ≤ (a1 : Int) := oa_
          have q499 : a1 < (l0_1.length : Int) := oa_
          obtain ⟨ad499, e499, hx499_0⟩ := Kd.at_int HR0_1.out a1 e6 q499
          obtain rfl := ij_ e499
          replace hx499_0 := (HB.out.cell (World.block_lt_of_cell? w _ hx499_0)).trans hx499_0
          replace e6 := eq_true e6
          replace q499 := eq_true q499
          go_wp2_with (first | (go_at_call 60; (with_reducible refine (spec_l1Meet.calls k3 _ _ l0_0 a1 (rd l0_1 a1) d9 _ (y3 HR0_0.out HB.out) a8.out g1.out).mono ?_); rintro e w' ⟨rfl, ⟨nd, rfl⟩⟩; (try first | exact ⟨rfl, _, World.drewN_drewN _ _ _⟩ | exact ⟨rfl, _, Eq.trans (World.drewN_drewN _ _ _) (congrArg (World.drewN _) (Nat.add_assoc _ _ _))⟩)))
          repeat (go_quiet (first | (go_at_call 60; (with_reducible refine (spec_l1Meet.calls k3 _ _ l0_0 a1 (rd l0_1 a1) d9 _ (y3 HR0_0.out HB.out) a8.out g1.out).mono ?_); rintro e w' ⟨rfl, ⟨nd, rfl⟩⟩; (try first | exact ⟨rfl, _, World.drewN_drewN _ _ _⟩ | exact ⟨rfl, _, Eq.trans (World.drewN_drewN _ _ _) (congrArg (World.drewN _) (Nat.add_assoc _ _ _))⟩))); try go_wp2_with (first | (go_at_call 60; (with_reducible refine (spec_l1Meet.calls k3 _ _ l0_0 a1 (rd l0_1 a1) d9 _ (y3 HR0_0.out HB.out) a8.out g1.out).mono ?_); rintro e w' ⟨rfl, ⟨nd, rfl⟩⟩; (try first | exact ⟨rfl, _, World.drewN_drewN _ _ _⟩ | exact ⟨rfl, _, Eq.trans (World.drewN_drewN _ _ _) (congrArg (World.drewN _) (Nat.add_assoc _ _ _))⟩))))
          go_meet
          case rel => exact ⟨_, ((d9 != b3)), z1k_2, H', ⟨(by have := e1.out; have := HK2.out; have := HK3.out; first | omega | exact Nat.le_refl _)⟩, ⟨(xb a0.out)⟩, ⟨z1k_0⟩⟩
         have H' := ak H
         clear H
         have a3 := cz20 a0.out
         have a4 := cz21 a0.out
         have a5 := blk_frozen a0.out 0
         have a6 := blk_frozen a0.out 1
         have b5 : 0 ≤ (a1 : Int) := oa_
         have q497 : a1 < (l0_1.length : Int) := oa_
         obtain ⟨ad497, e497, hx497_0⟩ := Kd.at_int HR0_1.out a1 b5 q497
         cases e497
         replace hx497_0 := (HB.out.cell (World.block_lt_of_cell? w _ hx497_0)).trans hx497_0
         replace b5 := eq_true b5
         replace q497 := eq_true q497
         have b6 : 0 ≤ ((rd l0_1 a1) : Int) := oa_
         have q498 : (rd l0_1 a1) < (l0_1.length : Int) := oa_
         obtain ⟨ad498, e498, hx498_0⟩ := Kd.at_int HR0_1.out (rd l0_1 a1) b6 q498
         obtain rfl := ij_ e498
         replace hx498_0 := (HB.out.cell (World.block_lt_of_cell? w _ hx498_0)).trans hx498_0
         replace b6 := eq_true b6
         replace q498 := eq_true q498
         go_wp2
         repeat (go_quiet (fail); try go_wp2)
         go_meet
         case rel => exact ⟨_, (true), z1k_2, H', ⟨(by have := e1.out; have := HK2.out; have := HK3.out; first | omega | exact Nat.le_refl _)⟩, ⟨(xb a0.out)⟩, ⟨z1k_0⟩⟩
        case rest =>
         clear e5
         try clear c9
         try clear g6
         try clear d1
         try clear i3
         try clear d5
         try clear a3
         try clear a4
         try clear a5
         try clear a6
         obtain ⟨kq, b4, rfl, HA, d8, a0, HB⟩ := hcut
         cases kq with
         | zero => exact absurd HA.out (by simp [spec_LogicOk.j3])
         | succ f3 =>
          have H := HA.out
          clear HA
          simp only [spec_LogicOk.j3] at H
          replace H := ox_ H
          rcases H with ⟨rfl, H⟩ | ⟨rfl, H⟩
          ·
           obtain rfl := Option.some.inj H
           go_wp2
           repeat (go_quiet (fail); try go_wp2)
           go_ret
           exact ⟨z1k_3, z1k_0⟩
          have H' := ak H
          clear H
          go_wp2
          repeat (go_quiet (fail); try go_wp2)
          go_loopg [8] f3 (fun kq v8 w' => ∃ (a2 : Int), v8 = .int .i64 a2 ∧ Aside0 (spec_LogicOk.l2 kq (l0_0.length : Int) b3 a1 a2 l0_0 l0_1 = some r) ∧ Aside0 (kq ≤ f3) ∧ Aside0 (w'.heap[a7]? = some (.cells #[(.slice A0_0 l0_0.length c0_0), (.slice A0_1 l0_1.length c0_1)] 26 (0, 0))) ∧ Aside0 (Below w.heap.size w w'))
          case atStart => exact ⟨(0), z1k_2, H', ⟨Nat.le_refl _⟩, ⟨(xb a0.out)⟩, ⟨z1k_0⟩⟩
          case round =>
           clear H'
           try clear c9
           try clear g6
           try clear d1
           try clear i3
           try clear d5
           try clear i5
           try clear a3
           try clear a4
           try clear a5
           try clear a6
           obtain ⟨a2, rfl, HA, HK5, a0, HB⟩ := hrel
           cases gk with
           | zero => exact absurd HA.out (by simp [spec_LogicOk.l2])
           | succ k5 =>
            have H := HA.out
            clear HA
            simp only [spec_LogicOk.l2] at H
            replace H := os_ H
            rcases H with ⟨f4, H⟩ | ⟨f4, H⟩
            ·
             replace H := od4 H
             obtain ⟨h0, h1, h2, h3, H⟩ := H
             replace H := oe2 H
             rcases H with ⟨⟨-, f5, f6⟩, H⟩ | ⟨⟨i6, f5, f6⟩, H⟩
             ·
              replace H := od6 H
              obtain ⟨h4, h5, h6, h7, h8, h9, H⟩ := H
              replace H := oe2 H
              rcases H with ⟨⟨-, f7, f8⟩, H⟩ | ⟨⟨i7, f7, f8⟩, H⟩
              ·
               obtain rfl := Option.some.inj H
               have a3 := cz20 a0.out
               have a4 := cz21 a0.out
               have a5 := blk_frozen a0.out 0
               have a6 := blk_frozen a0.out 1
               have b0 : 0 ≤ (a1 : Int) := oa_
               have q501 : a1 < (l0_0.length : Int) := oa_
               obtain ⟨ad501, d6, d7, e501, hx501_0, hl501_0, hi501_0⟩ := at_L1 HR0_0.out a1 b0 q501
               cases e501
               replace hx501_0 := (HB.out.cell (World.block_lt_of_cell? w _ hx501_0)).trans hx501_0
               have HR501_0 := ak hi501_0
               have d2 := ak hl501_0
               clear hi501_0 hl501_0
               replace b0 := eq_true b0
               replace q501 := eq_true q501
               have b1 : 0 ≤ (a2 : Int) := oa_
               have q502 : a2 < ((rd_L1 l0_0 a1).length : Int) := oa_
               obtain ⟨ad502, e502, hx502_0⟩ := Kd.at_int HR501_0.out a2 b1 q502
               cases e502
               replace hx502_0 := (HB.out.cell (World.block_lt_of_cell? w _ hx502_0)).trans hx502_0
               replace b1 := eq_true b1
               replace q502 := eq_true q502
               have b7 : 0 ≤ (a2 : Int) := oa_
               have q503 : a2 < (l0_1.length : Int) := oa_
               obtain ⟨ad503, e503, hx503_0⟩ := Kd.at_int HR0_1.out a2 b7 q503
               cases e503
               replace hx503_0 := (HB.out.cell (World.block_lt_of_cell? w _ hx503_0)).trans hx503_0
               replace b7 := eq_true b7
               replace q503 := eq_true q503
               have b8 : 0 ≤ ((rd l0_1 a2) : Int) := oa_
               have q504 : (rd l0_1 a2) < (l0_0.length : Int) := oa_
               obtain ⟨ad504, e7, e8, e504, hx504_0, hl504_0, hi504_0⟩ := at_L1 HR0_0.out (rd l0_1 a2) b8 q504
               obtain rfl := ij_ e504
               replace hx504_0 := (HB.out.cell (World.block_lt_of_cell? w _ hx504_0)).trans hx504_0
               have HR504_0 := ak hi504_0
               have e0 := ak hl504_0
               clear hi504_0 hl504_0
               replace b8 := eq_true b8
               replace q504 := eq_true q504
               have b9 : 0 ≤ (a1 : Int) := oa_
               have q505 : a1 < (l0_1.length : Int) := oa_
               obtain ⟨ad505, e505, hx505_0⟩ := Kd.at_int HR0_1.out a1 b9 q505
               obtain rfl := ij_ e505
               replace hx505_0 := (HB.out.cell (World.block_lt_of_cell? w _ hx505_0)).trans hx505_0
               replace b9 := eq_true b9
               replace q505 := eq_true q505
               have d0 : 0 ≤ ((rd l0_1 a1) : Int) := oa_
               have q506 : (rd l0_1 a1) < ((rd_L1 l0_0 (rd l0_1 a2)).length : Int) := oa_
               obtain ⟨ad506, e506, hx506_0⟩ := Kd.at_int HR504_0.out (rd l0_1 a1) d0 q506
               cases e506
               replace hx506_0 := (HB.out.cell (World.block_lt_of_cell? w _ hx506_0)).trans hx506_0
               replace d0 := eq_true d0
               replace q506 := eq_true q506
               go_wp2
               repeat (go_quiet (fail); try go_wp2)
               go_ret
               exact ⟨z1k_3, z1k_0⟩
              have H' := ak H
              clear H
              have a3 := cz20 a0.out
              have a4 := cz21 a0.out
              have a5 := blk_frozen a0.out 0
              have a6 := blk_frozen a0.out 1
              have b0 : 0 ≤ (a1 : Int) := oa_
              have q501 : a1 < (l0_0.length : Int) := oa_
              obtain ⟨ad501, d6, d7, e501, hx501_0, hl501_0, hi501_0⟩ := at_L1 HR0_0.out a1 b0 q501
              cases e501
              replace hx501_0 := (HB.out.cell (World.block_lt_of_cell? w _ hx501_0)).trans hx501_0
              have HR501_0 := ak hi501_0
              have d2 := ak hl501_0
              clear hi501_0 hl501_0
              replace b0 := eq_true b0
              replace q501 := eq_true q501
              have b1 : 0 ≤ (a2 : Int) := oa_
              have q502 : a2 < ((rd_L1 l0_0 a1).length : Int) := oa_
              obtain ⟨ad502, e502, hx502_0⟩ := Kd.at_int HR501_0.out a2 b1 q502
              cases e502
              replace hx502_0 := (HB.out.cell (World.block_lt_of_cell? w _ hx502_0)).trans hx502_0
              replace b1 := eq_true b1
              replace q502 := eq_true q502
              have b7 : 0 ≤ (a2 : Int) := oa_
              have q503 : a2 < (l0_1.length : Int) := oa_
              obtain ⟨ad503, e503, hx503_0⟩ := Kd.at_int HR0_1.out a2 b7 q503
              cases e503
              replace hx503_0 := (HB.out.cell (World.block_lt_of_cell? w _ hx503_0)).trans hx503_0
              replace b7 := eq_true b7
              replace q503 := eq_true q503
              have b8 : 0 ≤ ((rd l0_1 a2) : Int) := oa_
              have q504 : (rd l0_1 a2) < (l0_0.length : Int) := oa_
              obtain ⟨ad504, e7, e8, e504, hx504_0, hl504_0, hi504_0⟩ := at_L1 HR0_0.out (rd l0_1 a2) b8 q504
              obtain rfl := ij_ e504
              replace hx504_0 := (HB.out.cell (World.block_lt_of_cell? w _ hx504_0)).trans hx504_0
              have HR504_0 := ak hi504_0
              have e0 := ak hl504_0
              clear hi504_0 hl504_0
              replace b8 := eq_true b8
              replace q504 := eq_true q504
              have b9 : 0 ≤ (a1 : Int) := oa_
              have q505 : a1 < (l0_1.length : Int) := oa_
              obtain ⟨ad505, e505, hx505_0⟩ := Kd.at_int HR0_1.out a1 b9 q505
              obtain rfl := ij_ e505
              replace hx505_0 := (HB.out.cell (World.block_lt_of_cell? w _ hx505_0)).trans hx505_0
              replace b9 := eq_true b9
              replace q505 := eq_true q505
              have d0 : 0 ≤ ((rd l0_1 a1) : Int) := oa_
              have q506 : (rd l0_1 a1) < ((rd_L1 l0_0 (rd l0_1 a2)).length : Int) := oa_
              obtain ⟨ad506, e506, hx506_0⟩ := Kd.at_int HR504_0.out (rd l0_1 a1) d0 q506
              cases e506
              replace hx506_0 := (HB.out.cell (World.block_lt_of_cell? w _ hx506_0)).trans hx506_0
              replace d0 := eq_true d0
              replace q506 := eq_true q506
              go_wp2
              repeat (go_quiet (fail); try go_wp2)
              go_roundg k5
              case measure => have := e1.out; have := HK2.out; have := HK3.out; have := d8.out; have := HK5.out; omega
              case rel => exact ⟨(wrap64 (a2 + 1)), z1k_2, H', ⟨z1k_4⟩, ⟨(xb a0.out)⟩, ⟨z1k_0⟩⟩
             have H' := ak H
             clear H
             have a3 := cz20 a0.out
             have a4 := cz21 a0.out
             have a5 := blk_frozen a0.out 0
             have a6 := blk_frozen a0.out 1
             have b0 : 0 ≤ (a1 : Int) := oa_
             have q501 : a1 < (l0_0.length : Int) := oa_
             obtain ⟨ad501, d6, d7, e501, hx501_0, hl501_0, hi501_0⟩ := at_L1 HR0_0.out a1 b0 q501
             cases e501
             replace hx501_0 := (HB.out.cell (World.block_lt_of_cell? w _ hx501_0)).trans hx501_0
             have HR501_0 := ak hi501_0
             have d2 := ak hl501_0
             clear hi501_0 hl501_0
             replace b0 := eq_true b0
             replace q501 := eq_true q501
             have b1 : 0 ≤ (a2 : Int) := oa_
             have q502 : a2 < ((rd_L1 l0_0 a1).length : Int) := oa_
             obtain ⟨ad502, e502, hx502_0⟩ := Kd.at_int HR501_0.out a2 b1 q502
             cases e502
             replace hx502_0 := (HB.out.cell (World.block_lt_of_cell? w _ hx502_0)).trans hx502_0
             replace b1 := eq_true b1
             replace q502 := eq_true q502
             go_wp2
             repeat (go_quiet (fail); try go_wp2)
             go_roundg k5
             case measure => have := e1.out; have := HK2.out; have := HK3.out; have := d8.out; have := HK5.out; omega
             case rel => exact ⟨(wrap64 (a2 + 1)), z1k_2, H', ⟨z1k_4⟩, ⟨(xb a0.out)⟩, ⟨z1k_0⟩⟩
            have H' := ak H
            clear H
            go_wp2
            repeat (go_quiet (fail); try go_wp2)
            go_roundg k5
            case measure => have := e1.out; have := HK2.out; have := HK3.out; have := d8.out; have := HK5.out; omega
            case rel => exact ⟨(wrap64 (a1 + 1)), z1k_2, H', ⟨z1k_4⟩, ⟨(xb a0.out)⟩, ⟨z1k_0⟩⟩
       obtain rfl := Option.some.inj H
       go_wp2
       repeat (go_quiet (fail); try go_wp2)
       go_ret
       exact ⟨z1k_3, z1k_0⟩

end Go.Proofs.Ytjgfpiilfnchnaa.P

-- written by gen.py (a program of this session) out of the kit's print of this seat's translation
namespace Go.Proofs.Ytjgfpiilfnchnaa.P
open Go.RowKit Go.Proofs.YtjgfpiilfnchnaaW.PrintWords Go.Proofs.YtjgfpiilfnchnaaW.PrintLast Go.Proofs.YtjgfpiilfnchnaaW.PrintMore
attribute [local go_sem] max2_int min2_int max_two min_two max_three min_three max_four min_four
set_option linter.unusedVariables false
set_option linter.unusedSimpArgs false
set_option maxHeartbeats 8000000 in
set_option maxRecDepth 100000 in
theorem impl_isAnswer.calls (A0 : Option Addr) (c0 : Nat) (l0 : List (List Int)) (a1 : Int) (r : Bool) (w : World) (hr0 : Kd.C (Kd.slice 3 (Kd.int .i64)) w A0 l0.length l0) (hc0 : l0.length ≤ c0) (h : impl_isAnswer.f l0 a1 = some r) :
 Calls Try.prog 85 #[.slice A0 l0.length c0, .int .i64 a1] w fun e w' => e = .returned (.bool r) ∧ Drawn0 w w' := by
 have HR0 := ak hr0
 have a2 := ak hc0
 clear hr0 hc0
 have H : (if a1 ≥ 0 then (some (decide (a1 < (l0.length : Int)))) else (some false)) = some r := h
 clear h
 replace H := op_ H
 rcases H with ⟨c3, H⟩ | ⟨c3, H⟩
 ·
  have a0 : decide (0 ≤ a1) = true := dT_ c3
  clear c3
  obtain rfl := Option.some.inj H
  go_enter Try.func85, Try.ntmps85
  go_wp2
  go_ret
  exact ⟨(by first | rfl | (simp; done) | (simp [*]; done)), (by repeat (first | exact Drawn0.refl _ | apply Drawn0.step))⟩
 have a0 : decide (0 ≤ a1) = false := dF_ c3
 clear c3
 obtain rfl := Option.some.inj H
 go_enter Try.func85, Try.ntmps85
 go_wp2
 go_ret
 exact ⟨(by first | rfl | (simp; done) | (simp [*]; done)), (by repeat (first | exact Drawn0.refl _ | apply Drawn0.step))⟩

end Go.Proofs.Ytjgfpiilfnchnaa.P

-- written by gen.py (a program of this session) out of the kit's print of this seat's translation
namespace Go.Proofs.Ytjgfpiilfnchnaa.P
open Go.RowKit Go.Proofs.YtjgfpiilfnchnaaW.PrintWords Go.Proofs.YtjgfpiilfnchnaaW.PrintLast Go.Proofs.YtjgfpiilfnchnaaW.PrintMore
attribute [local go_sem] max2_int min2_int max_two min_two max_three min_three max_four min_four
set_option linter.unusedVariables false
set_option linter.unusedSimpArgs false
theorem z6_2 {p : Prop} (h : p := by have := HK1.out; have := b0.out; have := HK3.out; omega) : p := h
theorem z6_1 {p : Prop} (h : p := by repeat (first | exact Drawn0.refl _ | apply Drawn0.step)) : p := h
theorem z6_0 {p : Prop} (h : p := by first | rfl | (simp; done) | (simp [*]; done)) : p := h
set_option maxHeartbeats 8000000 in
set_option maxRecDepth 100000 in
theorem impl_meet.calls (k : Nat) (A0 : Option Addr) (c0 : Nat) (l0 : List (List Int)) (a1 : Int) (a2 : Int) (r : Int) (w : World) (hr0 : Kd.C (Kd.slice 3 (Kd.int .i64)) w A0 l0.length l0) (hc0 : l0.length ≤ c0) (h : impl_meet.f k l0 a1 a2 = some r) :
 Calls Try.prog 84 #[.slice A0 l0.length c0, .int .i64 a1, .int .i64 a2] w fun e w' => e = .returned (.int .i64 r) ∧ Drawn0 w w' := by
 have HR0 := ak hr0
 have g9 := ak hc0
 clear hr0 hc0
 have H : (impl_meet.l0 k l0 a1 a2 (l0.length : Int) 0) = some r := h
 clear h
 have H' := ak H
 clear H
 go_enter Try.func84, Try.ntmps84
 go_wp2
 go_loopg [12] k (fun kq f9 w' => ∃ (a0 : Int), f9 = .int .i64 a0 ∧ Aside0 (impl_meet.l0 kq l0 a1 a2 (l0.length : Int) a0 = some r) ∧ Aside0 (kq ≤ k) ∧ Drawn0 w w')
 case atStart => exact ⟨(0), z6_0, H', ⟨Nat.le_refl _⟩, z6_1⟩
 case round =>
  clear H'
  obtain ⟨a0, rfl, HA, HK1, ⟨m1, rfl⟩⟩ := hrel
  cases gk with
  | zero => exact absurd HA.out (by simp [impl_meet.l0])
  | succ k1 =>
   have H := HA.out
   clear HA
   simp only [impl_meet.l0] at H
   replace H := os_ H
   rcases H with ⟨b1, H⟩ | ⟨b1, H⟩
   ·
    have d9 := ak H
    clear H
    go_upto_region 4 with (fail)
    go_cut [32] (fun g0 wc => ∃ (kq : Nat) (a5 : Bool), g0 = .bool a5 ∧ Aside0 (impl_meet.j1 kq l0 a1 a2 a0 (l0.length : Int) a0 a5 = some r) ∧ Aside0 (kq ≤ k1) ∧ Drawn0 w wc)
    case first =>
     have H := d9.out
     clear d9
     replace H := od_ H
     obtain ⟨b7, H⟩ := H
     (first | rw [b7] | (simp only [i64_w, i32_w]; rw [b7]) | skip)
     replace H := od3 H
     obtain ⟨g1, g2, g3, H⟩ := H
     replace H := oe2 H
     rcases H with ⟨⟨-, b8, b9⟩, H⟩ | ⟨⟨h0, b8, b9⟩, H⟩
     ·
      have H' := ak H
      clear H
      obtain ⟨ad425, b2, b3, e425, hx425_0, a8, HR425_0, e0, q425⟩ := al_ HR0.out a0
      cases e425
      obtain ⟨ad426, e426, hx426_0, e1, q426⟩ := ai_ HR425_0.out a1
      cases e426
      go_wp2
      go_meet
      case rel => exact ⟨_, (true), z6_0, H', ⟨(by have := HK1.out; first | omega | exact Nat.le_refl _)⟩, z6_1⟩
     replace H := od2 H
     obtain ⟨e9, f0, H⟩ := H
     have H' := ak H
     clear H
     obtain ⟨ad425, b2, b3, e425, hx425_0, a8, HR425_0, e0, q425⟩ := al_ HR0.out a0
     cases e425
     obtain ⟨ad426, e426, hx426_0, e1, q426⟩ := ai_ HR425_0.out a1
     cases e426
     obtain ⟨ad427, e2, e3, e427, hx427_0, d7, HR427_0, g4, q427⟩ := al_ HR0.out a0
     obtain rfl := ij_ e427
     obtain ⟨rfl, rfl⟩ := is_ hx425_0 hx427_0
     obtain ⟨ad428, e428, hx428_0, g5, q428⟩ := ai_ HR427_0.out a2
     cases e428
     go_wp2
     go_meet
     case rel => exact ⟨_, (((rd (rd_L1 l0 a0) a2) == 0)), z6_0, H', ⟨(by have := HK1.out; first | omega | exact Nat.le_refl _)⟩, z6_1⟩
    case rest =>
     clear d9
     try clear c4
     try clear b1
     obtain ⟨kq, a5, rfl, HA, b0, ⟨mc4, rfl⟩⟩ := hcut
     cases kq with
     | zero => exact absurd HA.out (by simp [impl_meet.j1])
     | succ e4 =>
      have H := HA.out
      clear HA
      simp only [impl_meet.j1] at H
      replace H := ox_ H
      rcases H with ⟨rfl, H⟩ | ⟨rfl, H⟩
      ·
       have H' := ak H
       clear H
       go_wp2
       go_roundg e4
       case measure => have := HK1.out; have := b0.out; omega
       case rel => exact ⟨(wrap64 (a0 + 1)), z6_0, H', ⟨(by have := HK1.out; have := b0.out; omega)⟩, z6_1⟩
      have H' := ak H
      clear H
      go_wp2
      go_loopg [8, 35] e4 (fun kq v8 g6 w' => ∃ (b4 : Bool) (a3 : Int), v8 = .bool b4 ∧ g6 = .int .i64 a3 ∧ Aside0 (impl_meet.l1 kq l0 a1 a2 a0 b4 (l0.length : Int) a0 (l0.length : Int) a3 = some r) ∧ Aside0 (kq ≤ e4) ∧ Drawn0 w w')
      case atStart => exact ⟨(true), (0), z6_0, z6_0, H', ⟨Nat.le_refl _⟩, z6_1⟩
      case round =>
       clear H'
       try clear c4
       try clear b1
       try clear h1
       obtain ⟨b4, a3, rfl, rfl, HA, HK3, ⟨m3, rfl⟩⟩ := hrel
       cases gk with
       | zero => exact absurd HA.out (by simp [impl_meet.l1])
       | succ k3 =>
        have H := HA.out
        clear HA
        simp only [impl_meet.l1] at H
        replace H := os_ H
        rcases H with ⟨d0, H⟩ | ⟨d0, H⟩
        ·
         replace H := ox_ H
         rcases H with ⟨rfl, H⟩ | ⟨rfl, H⟩
         ·
          replace H := od4 H
          obtain ⟨f1, f2, f3, f4, H⟩ := H
          replace H := oe2 H
          rcases H with ⟨⟨-, d1, d2⟩, H⟩ | ⟨⟨h2, d1, d2⟩, H⟩
          ·
           have H' := ak H
           clear H
           obtain ⟨ad429, a6, a7, e429, hx429_0, a4, HR429_0, d3, q429⟩ := al_ HR0.out a3
           cases e429
           obtain ⟨ad430, e430, hx430_0, d4, q430⟩ := ai_ HR429_0.out a1
           cases e430
           go_wp2
           go_roundg k3
           case measure => have := HK1.out; have := b0.out; have := HK3.out; omega
           case rel => exact ⟨(true), (wrap64 (a3 + 1)), z6_0, z6_0, H', ⟨z6_2⟩, z6_1⟩
          replace H := od2 H
          obtain ⟨f5, f6, H⟩ := H
          replace H := oe2 H
          rcases H with ⟨⟨-, d5, d6⟩, H⟩ | ⟨⟨h3, d5, d6⟩, H⟩
          ·
           have H' := ak H
           clear H
           obtain ⟨ad429, a6, a7, e429, hx429_0, a4, HR429_0, d3, q429⟩ := al_ HR0.out a3
           cases e429
           obtain ⟨ad430, e430, hx430_0, d4, q430⟩ := ai_ HR429_0.out a1
           cases e430
           obtain ⟨ad431, b5, b6, e431, hx431_0, a9, HR431_0, e5, q431⟩ := al_ HR0.out a3
           obtain rfl := ij_ e431
           obtain ⟨rfl, rfl⟩ := is_ hx429_0 hx431_0
           obtain ⟨ad432, e432, hx432_0, e6, q432⟩ := ai_ HR431_0.out a2
           cases e432
           go_wp2
           go_roundg k3
           case measure => have := HK1.out; have := b0.out; have := HK3.out; omega
           case rel => exact ⟨(true), (wrap64 (a3 + 1)), z6_0, z6_0, H', ⟨z6_2⟩, z6_1⟩
          replace H := od2 H
          obtain ⟨f7, f8, H⟩ := H
          have H' := ak H
          clear H
          obtain ⟨ad429, a6, a7, e429, hx429_0, a4, HR429_0, d3, q429⟩ := al_ HR0.out a3
          cases e429
          obtain ⟨ad430, e430, hx430_0, d4, q430⟩ := ai_ HR429_0.out a1
          cases e430
          obtain ⟨ad431, b5, b6, e431, hx431_0, a9, HR431_0, e5, q431⟩ := al_ HR0.out a3
          obtain rfl := ij_ e431
          obtain ⟨rfl, rfl⟩ := is_ hx429_0 hx431_0
          obtain ⟨ad432, e432, hx432_0, e6, q432⟩ := ai_ HR431_0.out a2
          cases e432
          obtain ⟨ad433, e7, e8, e433, hx433_0, d8, HR433_0, g7, q433⟩ := al_ HR0.out a3
          obtain rfl := ij_ e433
          obtain ⟨rfl, rfl⟩ := is_ hx429_0 hx433_0
          obtain ⟨ad434, e434, hx434_0, g8, q434⟩ := ai_ HR433_0.out a0
          cases e434
          go_wp2
          go_roundg k3
          case measure => have := HK1.out; have := b0.out; have := HK3.out; omega
          case rel => exact ⟨(((rd (rd_L1 l0 a3) a0) == 1)), (wrap64 (a3 + 1)), z6_0, z6_0, H', ⟨z6_2⟩, z6_1⟩
         have H' := ak H
         clear H
         go_wp2
         go_roundg k3
         case measure => have := HK1.out; have := b0.out; have := HK3.out; omega
         case rel => exact ⟨(false), (wrap64 (a3 + 1)), z6_0, z6_0, H', ⟨z6_2⟩, z6_1⟩
        replace H := ox_ H
        rcases H with ⟨rfl, H⟩ | ⟨rfl, H⟩
        ·
         obtain rfl := Option.some.inj H
         go_wp2
         go_ret
         exact ⟨z6_0, z6_1⟩
        have H' := ak H
        clear H
        go_wp2
        go_roundg k3
        case measure => have := HK1.out; have := b0.out; have := HK3.out; omega
        case rel => exact ⟨(wrap64 (a0 + 1)), z6_0, H', ⟨z6_2⟩, z6_1⟩
   obtain rfl := Option.some.inj H
   go_wp2
   go_ret
   exact ⟨z6_0, z6_1⟩

end Go.Proofs.Ytjgfpiilfnchnaa.P

-- written by gen.py (a program of this session) out of the kit's print of this seat's translation
namespace Go.Proofs.Ytjgfpiilfnchnaa.P
open Go.RowKit Go.Proofs.YtjgfpiilfnchnaaW.PrintWords Go.Proofs.YtjgfpiilfnchnaaW.PrintLast Go.Proofs.YtjgfpiilfnchnaaW.PrintMore
attribute [local go_sem] max2_int min2_int max_two min_two max_three min_three max_four min_four
set_option linter.unusedVariables false
set_option linter.unusedSimpArgs false
def impl_turned.T9 : Bool × List (List Nat × List Nat) := (true, [([], []), ([], []), ([0, 1], [0, 1]), ([2], [2]), ([], []), ([], []), ([], []), ([5, 6], [5, 6]), ([7], [7]), ([], []), ([8, 9], [8, 9]), ([10], [10]), ([3, 4, 0, 1, 2, 3, 4, 5, 6, 7, 8, 9, 10, 11], [3, 4]), ([12, 11, 0, 1, 2, 3, 4, 5, 6, 7, 8, 9, 10, 11], [11, 12])])
def impl_turned.B9 : List Nat := [0, 0, 3, 7, 0, 0, 0, 96, 224, 0, 992, 2016, 4095, 8191]
theorem impl_turned.tab9 : rtab .any (opsOf Try.f61 9) = impl_turned.T9 := by kernel_rfl
theorem impl_turned.bits9 : waitsOk impl_turned.T9.2 impl_turned.B9 = true := by kernel_rfl
theorem z8_1 {p : Prop} (h : p := by first | rfl | (simp; done) | (simp [*]; done)) : p := h
theorem z8_0 {p : Prop} (h : p := by repeat (first | (with_reducible first | exact HB.out | apply below_alloc | apply pw_below_drewN | apply below_drew1) | exact HB.out)) : p := h
set_option maxHeartbeats 8000000 in
set_option maxRecDepth 100000 in
theorem impl_turned.calls (k : Nat) (A0 : Option Addr) (c0 : Nat) (l0 : List (List Int)) (r : List (List Int)) (w : World) (hr0 : Kd.C (Kd.slice 3 (Kd.int .i64)) w A0 l0.length l0) (hc0 : l0.length ≤ c0) (h : impl_turned.f k l0 = some r) :
 Calls Try.prog 61 #[.slice A0 l0.length c0] w fun e w' => ∃ v0_ : Value, e = .returned (v0_) ∧ Kd.S (Kd.slice 3 (Kd.int .i64)) 24 w' w.heap.size (fun _ => True) v0_ r ∧ Below w.heap.size w w' := by
 have HR0 := ak hr0
 have f8 := ak hc0
 clear hr0 hc0
 have HB := ak (Below.refl w.heap.size w)
 have H : (if 0 ≤ (l0.length : Int) then (if ((l0.length : Int) : Int).toNat ≤ 11728124029610 then (impl_turned.l0 k l0 (List.replicate ((l0.length : Int) : Int).toNat []) (l0.length : Int) 0) else (none)) else (none)) = some r := h
 clear h
 replace H := ok_ H
 obtain ⟨c2, H⟩ := H
 have b3 := eq_true c2
 have b4 : decide (0 ≤ (l0.length : Int)) = true := dT_ c2
 clear c2
 replace H := ok_ H
 obtain ⟨c3, H⟩ := H
 have b5 := eq_true c3
 have b6 : decide (((l0.length : Int) : Int).toNat ≤ 11728124029610) = true := dT_ c3
 clear c3
 obtain ⟨y412, hy412⟩ : ∃ y_ : List (List Int), y_ = (List.replicate ((l0.length : Int) : Int).toNat []) := ⟨_, rfl⟩
 replace H : (impl_turned.l0 k l0 y412 (l0.length : Int) 0) = some r := by first | (rw [hy412]; with_reducible exact H) | (have H2_ := (Option.bind_some _ _).symm.trans H; rw [hy412]; with_reducible exact H2_) | (have H2_ := (Option.bind_some _ _).symm.trans H; with_reducible exact H2_) | with_reducible exact H | (rw [hy412]; exact H) | exact H
 have Ny412 := ak hy412
 clear hy412
 have H' := ak H
 clear H
 go_enter Try.func61, Try.ntmps61
 go_wp2_with (first | ((with_reducible refine gate_dst (N := 8) rfl ?_); refine Kd.S_make (Kd.slice 3 (Kd.int .i64)) _ 24 rfl (N := 8) rfl 23 _ _ rfl (l0.length : Int) rfl rfl Try.underlying23 (.slice none 0 0) 24 info24 rfl (by decide) (by omega) [] (ok := fun _ => True) (okp := fun _ => True) ⟨_, rfl, Kd.R_nil _ _ _ _ _⟩ (fun _ hk => hk) trivial (oa_) (Nat.le_trans (Nat.mul_le_mul_right _ (oa_ : (l0.length : Int).toNat ≤ 11728124029610)) (by omega)) (Below.refl _ _) (Nat.le_refl _) ?_; intro d8 w4 ho5 hb hg_ hnew_; clear hg_ hnew_; (first | rw [← Ny412.out] at ho5 | (simp only [Int.reduceToNat] at ho5; rw [← Ny412.out] at ho5)); have b7 := ak (Kd.S_lower ho5 (below_size z8_0)); replace HB := ak (below_step z8_0 hb); clear hb ho5))
 go_loopg [11] k (fun kq f5 w' => ∃ (a4 : List (List Int)) (a0 : Int), f5 = .int .i64 a0 ∧ Aside0 (impl_turned.l0 kq l0 a4 (l0.length : Int) a0 = some r) ∧ Aside0 (kq ≤ k) ∧ Aside0 (Kd.S (Kd.slice 3 (Kd.int .i64)) 24 w' w.heap.size (fun _ => True) d8 a4) ∧ Aside0 (Below w.heap.size w w'))
 case atStart => exact ⟨(y412), (0), z8_1, H', ⟨Nat.le_refl _⟩, ⟨(xS b7.out)⟩, ⟨z8_0⟩⟩
 case round =>
  clear H'
  try clear c2
  try clear b3
  try clear b4
  try clear c3
  try clear b5
  try clear b6
  obtain ⟨a4, a0, rfl, HA, HK1, a2, HB⟩ := hrel
  cases gk with
  | zero => exact absurd HA.out (by simp [impl_turned.l0])
  | succ k1 =>
   have H := HA.out
   clear HA
   simp only [impl_turned.l0] at H
   replace H := os_ H
   rcases H with ⟨b8, H⟩ | ⟨b8, H⟩
   ·
    replace H := ok_ H
    obtain ⟨c7, H⟩ := H
    have d9 := eq_true c7
    have e0 : decide (0 ≤ (l0.length : Int)) = true := dT_ c7
    clear c7
    replace H := ok_ H
    obtain ⟨c8, H⟩ := H
    have e1 := eq_true c8
    have e2 : decide (((l0.length : Int) : Int).toNat ≤ 35184372088832) = true := dT_ c8
    clear c8
    obtain ⟨y415, hy415⟩ : ∃ y_ : List Int, y_ = (List.replicate ((l0.length : Int) : Int).toNat 0) := ⟨_, rfl⟩
    replace H : (if 0 ≤ a0 then (if a0 < (a4.length : Int) then (impl_turned.l1 k1 l0 (a4.set (a0 : Int).toNat y415) a0 (l0.length : Int) a0 (l0.length : Int) 0) else (none)) else (none)) = some r := by first | (rw [hy415]; with_reducible exact H) | (have H2_ := (Option.bind_some _ _).symm.trans H; rw [hy415]; with_reducible exact H2_) | (have H2_ := (Option.bind_some _ _).symm.trans H; with_reducible exact H2_) | with_reducible exact H | (rw [hy415]; exact H) | exact H
    have Ny415 := ak hy415
    clear hy415
    replace H := od2 H
    obtain ⟨e3, b9, H⟩ := H
    obtain ⟨y418, hy418⟩ : ∃ y_ : List (List Int), y_ = (a4.set (a0 : Int).toNat y415) := ⟨_, rfl⟩
    replace H : (impl_turned.l1 k1 l0 y418 a0 (l0.length : Int) a0 (l0.length : Int) 0) = some r := by first | (rw [hy418]; with_reducible exact H) | (have H2_ := (Option.bind_some _ _).symm.trans H; rw [hy418]; with_reducible exact H2_) | (have H2_ := (Option.bind_some _ _).symm.trans H; with_reducible exact H2_) | with_reducible exact H | (rw [hy418]; exact H) | exact H
    have Ny418 := ak hy418
    clear hy418
    have H' := ak H
    clear H
    go_wp2_with (first | ((with_reducible refine gate_dst (N := 18) rfl ?_); refine Kd.R_make (Kd.int .i64) _ 3 rfl (N := 18) rfl 24 _ _ rfl (l0.length : Int) rfl rfl Try.underlying24 (.int .i64 0) 8 info3 rfl (by decide) (by omega) 0 (ok := fun _ => True) (okp := fun _ => True) rfl (fun _ hk => hk) trivial (oa_) (Nat.le_trans (Nat.mul_le_mul_right _ (oa_ : (l0.length : Int).toNat ≤ 35184372088832)) (by omega)) (Below.refl _ _) (Nat.le_refl _) ?_; intro a6 e4 ho13 hb hg_ hnew_; clear hg_ hnew_; (first | rw [← Ny415.out] at ho13 | (simp only [Int.reduceToNat] at ho13; rw [← Ny415.out] at ho13)); replace a2 := ak (Kd.S_elder' (xS a2.out) (Kd.R_base ho13) hb); have a5 := ak (Kd.R_lower ho13 (below_size z8_0)); replace HB := ak (below_step z8_0 hb); clear hb ho13; have d5 : 0 ≤ (a0 : Int) := oa_; have q11 : (a0 : Int) < ((a4.length : Int) : Int) := oa_; obtain ⟨go11, a8, d0, d1, gl11, cl11, HG11⟩ := Kd.S_form a2.out (by omega); (first | cases d0 | (injection d0 with ea_ en_ ec_; (first | subst ea_ | (injection ea_ with ea_; subst ea_)); subst ec_; clear en_)); have GB11 := ak d1; have GG11 := ak HG11; clear d1 gl11 HG11; obtain ⟨_, ce11, hcl11, hM11, hcc11, hfr11, _, _⟩ := Kd.S_elem a2.out [] (a0 : Int) d5 q11; obtain ⟨ve11_0, rfl, ge11_0⟩ := hM11; have hx11_0 := hcc11 0 _ rfl; have hf11_0 := hfr11 0; (try simp only [show ((Kd.slice 3 (Kd.int .i64))).sz = 1 from rfl, Nat.mul_one, Nat.add_zero] at hx11_0); (try simp only [show ((Kd.slice 3 (Kd.int .i64))).sz = 1 from rfl, Nat.mul_one, Nat.add_zero] at hf11_0); clear hcl11 hcc11 hfr11; (try clear hM11); replace d5 := eq_true d5; replace q11 := eq_true q11; have n_ := ak (Kd.S_mono (ok' := (fun k_ => some k_ ≠ (a6 : Value).ownBlock)) a2.out (fun k_ hk => hk.2)); clear a2; have a2 := n_; clear n_; have HX14 := ak (show Kd.S (Kd.slice 3 (Kd.int .i64)) 24 e4 w.heap.size (fun k_ => ((fun _ => True)) k_ ∧ ¬ ((fun k_ => some k_ = (a6 : Value).ownBlock)) k_) (.slice (some ⟨go11, 0, none⟩) a4.length a8) a4 from (by (with_reducible repeat (first | apply Kd.S_alloc | apply Kd.S_drewN | apply Kd.S_drew)); exact Kd.S_mono a2.out (fun k_ hk => ⟨trivial, fun e_ => hk e_⟩))); obtain ⟨oki14, ce14, hcl14, hM14, hcc14, hfr14, hoki14, hH14⟩ := Kd.S_elem HX14.out [] (a0 : Int) (oa_) (by have h_ : (a0 : Int) < ((a4.length : Int) : Int) := oa_; first | exact h_ | (have e_ := (Kd.S_reads' a2.out).1; omega) | simpa using h_); obtain ⟨ve14_0, rfl, ge14_0⟩ := hM14; have HP14 := Kd.S_seg hH14 (oa_) (by have h_ : (a0 : Int) < ((a4.length : Int) : Int) := oa_; first | exact h_ | (have e_ := (Kd.S_reads' a2.out).1; omega) | simpa using h_) (seg := [a6]) (j := 0) (show 1 ≤ 1 from by decide) (x' := y415) (Kd.M_row (Kd.R_mono (Kd.R_tight rfl (Kd.R_mono (ok' := fun k_ => ((fun _ => True)) k_ ∧ k_ ≠ go11) (Kd.R_apart' (a5.out) (Kd.S_typed a2.out) (by decide)) (fun k_ hk => ⟨trivial, fun e_ => (hk.2) (by rw [e_]; rfl)⟩))) (fun _ h_ => Or.inr (h_)))) (fun _ hk => hk) (fun k_ hk_ => ((Kd.R_mono (ok' := fun k_ => ((fun _ => True)) k_ ∧ k_ ≠ go11) (Kd.R_apart' (a5.out) (Kd.S_typed a2.out) (by decide)) (fun k_ hk => ⟨trivial, fun e_ => (hk.2) (by rw [e_]; rfl)⟩))).1 k_ hk_.symm); have hx14_0 := hcc14 0 _ rfl; (try simp only [show ((Kd.slice 3 (Kd.int .i64))).sz = 1 from rfl, Nat.mul_one, Nat.add_zero] at hx14_0); have hf14_0 := hfr14 0; (try simp only [show ((Kd.slice 3 (Kd.int .i64))).sz = 1 from rfl, Nat.mul_one, Nat.add_zero] at hf14_0); clear hcl14 hcc14 hfr14 hoki14 hH14; (try clear hM14); (try simp only [show ((Kd.slice 3 (Kd.int .i64))).sz = 1 from rfl, Nat.mul_one, Nat.add_zero] at HP14)) | ((with_reducible refine gate_store (t := 24) (p := 19) rfl ?_); refine store_event (t := 24) (p := 19) (v := ?vo_w15) (w1 := (e4.setCell ⟨go11, (a0 : Int).toNat, none⟩ (a6))) ?hg ?ho ?hn ?hr ?_; (case ho => rfl); (case hg => rfl); (case hn => rfl); (case hr => first | (go_simp; done) | (go_simp; rfl) | (obtain ⟨_, _, e_⟩ := Kd.R_slice a5.out; rw [e_]; first | (go_simp; done) | (go_simp; rfl))); intro e5 hw; have hg : e4.grownBy e5 (some go11) := (by rw [hw]; exact HP14.2); have hp_ : Kd.S (Kd.slice 3 (Kd.int .i64)) 24 e5 w.heap.size (fun _ => True) (.slice (some ⟨go11, 0, none⟩) a4.length a8) y418 := (by rw [hw, Ny418.out]; exact HP14.1); clear HP14; replace a2 := ak (hp_); replace HB := ak ((by rw [hw]; exact below_set (HB.out) GB11.out : Below w.heap.size w e5)); clear a5; clear hg hw hp_))
    go_loopg [22] k1 (fun kq f6 w' => ∃ (a3 : List (List Int)) (a1 : Int), f6 = .int .i64 a1 ∧ Aside0 (impl_turned.l1 kq l0 a3 a0 (l0.length : Int) a0 (l0.length : Int) a1 = some r) ∧ Aside0 (kq ≤ k1) ∧ Aside0 (Kd.S (Kd.slice 3 (Kd.int .i64)) 24 w' w.heap.size (fun _ => True) (.slice (some ⟨go11, 0, none⟩) a4.length a8) a3) ∧ Aside0 (Below w.heap.size w w'))
    case atStart => exact ⟨(y418), (0), z8_1, H', ⟨Nat.le_refl _⟩, ⟨(xS a2.out)⟩, ⟨z8_0⟩⟩
    case round =>
     clear H'
     try clear c2
     try clear b3
     try clear b4
     try clear c3
     try clear b5
     try clear b6
     try clear c6
     try clear b8
     try clear c7
     try clear d9
     try clear e0
     try clear c8
     try clear e1
     try clear e2
     try clear c9
     try clear e3
     try clear f9
     try clear b9
     try clear d5
     try clear q11
     try clear hx11_0
     try clear hx14_0
     obtain ⟨a3, a1, rfl, HA, HK2, a2, HB⟩ := hrel
     have hl3_2 := (Kd.S_reads' a2.out).1
     rw [hl3_2] at a2
     (try simp only [hl3_2])
     cases gk with
     | zero => exact absurd HA.out (by simp [impl_turned.l1])
     | succ k2 =>
      have H := HA.out
      clear HA
      simp only [impl_turned.l1] at H
      replace H := os_ H
      rcases H with ⟨d2, H⟩ | ⟨d2, H⟩
      ·
       replace H := od6 H
       obtain ⟨e9, f0, f1, f2, f3, f4, H⟩ := H
       obtain ⟨y422, hy422⟩ : ∃ y_ : List Int, y_ = ((rd_L1 a3 a0).set (a1 : Int).toNat (rd (rd_L1 l0 a1) a0)) := ⟨_, rfl⟩
       replace H : (impl_turned.l1 k2 l0 (a3.set (a0 : Int).toNat y422) a0 (l0.length : Int) a0 (l0.length : Int) (wrap64 (a1 + 1))) = some r := by first | (rw [hy422]; with_reducible exact H) | (have H2_ := (Option.bind_some _ _).symm.trans H; rw [hy422]; with_reducible exact H2_) | (have H2_ := (Option.bind_some _ _).symm.trans H; with_reducible exact H2_) | with_reducible exact H | (rw [hy422]; exact H) | exact H
       have Ny422 := ak hy422
       clear hy422
       obtain ⟨y424, hy424⟩ : ∃ y_ : List (List Int), y_ = (a3.set (a0 : Int).toNat y422) := ⟨_, rfl⟩
       replace H : (impl_turned.l1 k2 l0 y424 a0 (l0.length : Int) a0 (l0.length : Int) (wrap64 (a1 + 1))) = some r := by first | (rw [hy424]; with_reducible exact H) | (have H2_ := (Option.bind_some _ _).symm.trans H; rw [hy424]; with_reducible exact H2_) | (have H2_ := (Option.bind_some _ _).symm.trans H; with_reducible exact H2_) | with_reducible exact H | (rw [hy424]; exact H) | exact H
       have Ny424 := ak hy424
       clear hy424
       have H' := ak H
       clear H
       try go_wp2
       replace a2 := ak (Kd.S_drew a2.out)
       replace HB := ak (below_drew1 HB.out)
       have a7 : 0 ≤ (a0 : Int) := oa_
       have q419 : a0 < (a3.length : Int) := oa_
       obtain ⟨ad419, e6, a9, e419, hx419_0, hl419_0, hi419_0⟩ := at_L1 (Kd.S_reads' a2.out).2.2 a0 a7 q419
       obtain rfl : (⟨go11, 0, none⟩ : Addr) = ad419 := (by injection e419)
       obtain ⟨ce419, hce419, hMe419, hcc419⟩ := Kd.S_get a2.out [] a0 a7 (by first | exact q419 | exact oa_ | (have e_ := (Kd.S_reads' a2.out).1; omega))
       obtain ⟨ve419_0, rfl, ge419_0⟩ := hMe419
       have hv419_0 := hcc419 0 _ rfl
       rw [Nat.add_zero, show ((Kd.slice 3 (Kd.int .i64))).sz = 1 from rfl, Nat.mul_one] at hv419_0
       replace hv419_0 := Option.some.inj (hv419_0.symm.trans hx419_0)
       rw [hv419_0] at ge419_0
       have HL419_0 := ak (show Kd.R (Kd.int .i64) 3 _ _ _ _ (rd_L1 a3 a0) from ge419_0)
       clear hv419_0 ge419_0
       have HX419_0 := ak hx419_0
       clear hcc419 hce419
       (first | simp only [add_plain] at hx419_0 | simp only [add_at] at hx419_0 | simp only [Addr.add, Nat.zero_add] at hx419_0 | skip)
       have HR419_0 := ak hi419_0
       have d6 := ak hl419_0
       clear hi419_0 hl419_0
       replace a7 := eq_true a7
       replace q419 := eq_true q419
       have b0 : 0 ≤ (a1 : Int) := oa_
       have q420 : a1 < (l0.length : Int) := oa_
       obtain ⟨ad420, e7, b1, e420, hx420_0, hl420_0, hi420_0⟩ := at_L1 HR0.out a1 b0 q420
       have hw420_0 := hx420_0
       cases e420
       replace hx420_0 := (HB.out.cell (World.block_lt_of_cell? w _ hx420_0)).trans hx420_0
       have HR420_0 := ak hi420_0
       have d7 := ak hl420_0
       clear hi420_0 hl420_0
       replace b0 := eq_true b0
       replace q420 := eq_true q420
       have b2 : 0 ≤ (a0 : Int) := oa_
       have q421 : a0 < ((rd_L1 l0 a1).length : Int) := oa_
       obtain ⟨ad421, e421, hx421_0⟩ := Kd.at_int HR420_0.out a0 b2 q421
       have hw421_0 := hx421_0
       cases e421
       replace hx421_0 := (HB.out.cell (World.block_lt_of_cell? w _ hx421_0)).trans hx421_0
       replace b2 := eq_true b2
       replace q421 := eq_true q421
       have e8 : 0 ≤ (a1 : Int) := oa_
       have q23 : (a1 : Int) < (((rd_L1 a3 a0).length : Int) : Int) := oa_
       obtain ⟨go23, f7, d3, d4, gl23, cl23, HG23⟩ := Kd.R_form HL419_0.out (by omega)
       (first | cases d3 | (injection d3 with ea_ en_ ec_; (first | subst ea_ | (injection ea_ with ea_; subst ea_)); subst ec_; clear en_))
       have GB23 := ak d4
       have GG23 := ak HG23
       clear d4 gl23 HG23
       obtain ⟨hx23_0, hf23_0⟩ := Kd.R_celln 0 HL419_0.out (a1 : Int) e8 q23
       replace e8 := eq_true e8
       replace q23 := eq_true q23
       have hq25 : (a0 : Int) < (a3.length : Int) := (by have h_ : (a0 : Int) < ((a3.length : Int) : Int) := oa_; first | exact h_ | (have e_ := (Kd.S_reads' a2.out).1; omega) | simpa only [List.length_set, List.length_set] using h_)
       obtain ⟨oki25, ce25, hcl25, hM25, hcc25, hok25, hbk25⟩ := Kd.S_borrow a2.out [] (a0 : Int) (oa_) hq25
       obtain ⟨ve25_0, rfl, ge25_0⟩ := hM25
       have hv25 := hcc25 0 _ rfl
       rw [Nat.add_zero, show ((Kd.slice 3 (Kd.int .i64))).sz = 1 from rfl, Nat.mul_one] at hv25
       replace hv25 := Option.some.inj (hv25.symm.trans HX419_0.out)
       subst hv25
       clear hcc25 hcl25
       replace ge25_0 := (show Kd.R (Kd.int .i64) 3 _ _ _ _ (rd_L1 a3 a0) from ge25_0)
       have HP25 := Kd.R_putg ge25_0 (a1 : Int) (rd (rd_L1 l0 a1) a0)
       rw [← Ny422.out] at HP25
       have HS25 := hbk25 HP25.2 (fun k_ e_ => by injection e_ with e_; subst e_; exact ge25_0.1 _ rfl) (x' := y422) (Kd.M_row HP25.1)
       rw [← Ny424.out] at HS25
       have HQ25 := ak HS25
       clear HP25 HS25 hbk25 hok25
       refine start_ (n := 14) (S := fun w' => w'.cell? ⟨go11, (a0).toNat, none⟩ = some (.slice (some ⟨go23, 0, none⟩) (rd_L1 a3 a0).length a9) ∧ w'.cell? (ad420.add (a1).toNat) = some (.slice (some ad421) (rd_L1 l0 a1).length b1) ∧ w'.cell? (ad421.add (a0).toNat) = some (.int .i64 (rd (rd_L1 l0 a1) a0))) (ds := [13]) (bA 14 0) (by kernel_rfl) rfl rfl ⟨hx419_0, ((HB.out.cell (World.block_lt_of_cell? w _ hw420_0)).trans hw420_0), ((HB.out.cell (World.block_lt_of_cell? w _ hw421_0)).trans hw421_0)⟩ (fun hHeld => ?_); refine with_tabW impl_turned.tab9 impl_turned.bits9 (fun HT_ HW_ => ?_)
       generalize wr.drew = g0 at a2 HB GG23 HL419_0 HQ25 HR419_0 HR420_0 HX419_0 hf23_0 hx23_0 hx419_0 hx420_0 hx421_0 hHeld ⊢
       refine pu_ (i := 0) (N := some 25) (bA 14 1) ?_
       refine pu_ (i := 1) (N := some 26) (bA 14 3) ?_
       refine pu_ (i := 2) (N := some 27) (bA 14 7) ?_
       refine pu_ (i := 4) (N := some 29) (bA 14 23) ?_
       refine pu_ (i := 5) (N := some 30) (bA 14 55) ?_
       refine pu_ (i := 6) (N := some 31) (bA 14 119) ?_
       refine pu_ (i := 7) (N := some 32) (bA 14 247) ?_
       refine pu_ (i := 9) (N := some 34) (bA 14 759) ?_
       refine tk_ (i := 3) (N := some 28) (bA 14 767) ?_
       refine tk_ (i := 8) (N := some 33) (bA 14 1023) ?_
       refine pu_ (i := 10) (N := some 35) (bA 14 2047) ?_
       refine tk_ (i := 11) (N := some 36) (bA 14 4095) ?_
       refine pu_ (i := 12) (N := some 37) (bA 14 8191) ?_
       refine last_ (i := 13) (N := none) (bA 14 16383) rfl rfl (one_of HT_.out (by kernel_rfl)) (by decide) (fun K hK => ?_)
       refine skip_ (w1 := ?_) (by rfl) rfl ?_ ?_
       rotate_left
       ·
        go_simp
        rfl
       refine hK.out _ _ ?_
       clear hK K
       refine done_ (done_of HT_.out (by kernel_rfl)) ?_
       try go_wp2
       (try simp only [← hl3_2])
       go_roundg k2
       case measure => have := HK1.out; have := HK2.out; omega
       case rel => exact ⟨(y424), (wrap64 (a1 + 1)), z8_1, H', ⟨(by have := HK1.out; have := HK2.out; omega)⟩, ⟨(by (try simp only [hl3_2]); (with_reducible repeat (first | apply Kd.S_alloc | apply Kd.S_drewN | apply Kd.S_drew)); exact HQ25.out)⟩, ⟨(by repeat (first | (with_reducible first | exact HB.out | apply below_alloc | apply pw_below_drewN | apply below_drew1 | refine below_set ?_ GB23.out) | exact HB.out))⟩⟩
      have H' := ak H
      clear H
      go_wp2
      (try simp only [← hl3_2])
      go_roundg k2
      case measure => have := HK1.out; have := HK2.out; omega
      case rel => exact ⟨(a3), (wrap64 (a0 + 1)), z8_1, H', ⟨(by have := HK1.out; have := HK2.out; omega)⟩, ⟨(by (try simp only [hl3_2]); (with_reducible repeat (first | apply Kd.S_alloc | apply Kd.S_drewN | apply Kd.S_drew)); exact a2.out)⟩, ⟨z8_0⟩⟩
   obtain rfl := Option.some.inj H
   go_wp2
   go_ret
   exact ⟨_, (by first | rfl | (simp [errW_none, errW_some] <;> rfl) | (simp [*, errW_none, errW_some] <;> rfl)), (xS a2.out), z8_0⟩

end Go.Proofs.Ytjgfpiilfnchnaa.P

-- written by gen.py (a program of this session) out of the kit's print of this seat's translation
namespace Go.Proofs.Ytjgfpiilfnchnaa.P
open Go.RowKit Go.Proofs.YtjgfpiilfnchnaaW.PrintWords Go.Proofs.YtjgfpiilfnchnaaW.PrintLast Go.Proofs.YtjgfpiilfnchnaaW.PrintMore
attribute [local go_sem] max2_int min2_int max_two min_two max_three min_three max_four min_four
set_option linter.unusedVariables false
set_option linter.unusedSimpArgs false
theorem z4_2 {p : Prop} (h : p := by first | rfl | (simp; done) | (simp [*]; done)) : p := h
theorem z4_1 {p : Prop} (h : p := by first | rfl | (simp [errW_none, errW_some] <;> rfl) | (simp [*, errW_none, errW_some] <;> rfl)) : p := h
theorem z4_0 {p : Prop} (h : p := by repeat (first | (with_reducible first | exact HB.out | apply below_alloc | apply pw_below_drewN | apply below_drew1) | exact HB.out)) : p := h
set_option maxHeartbeats 8000000 in
set_option maxRecDepth 100000 in
theorem impl_LatticeOk.calls (k : Nat) (A0 : Option Addr) (c0 : Nat) (l0 : List (List Int)) (r : Bool) (w : World) (hr0 : Kd.C (Kd.slice 3 (Kd.int .i64)) w A0 l0.length l0) (hc0 : l0.length ≤ c0) (h : impl_LatticeOk.f k l0 = some r) :
 Calls Try.prog 83 #[.slice A0 l0.length c0] w fun e w' => e = .returned (.bool r) ∧ Below w.heap.size w w' := by
 have HR0 := ak hr0
 have a5 := ak hc0
 clear hr0 hc0
 have HB := ak (Below.refl w.heap.size w)
 have H : ((impl_OrderOk.f k l0).bind fun a6 => (if a6 = true then ((impl_turned.f k l0).bind fun a3 => (impl_LatticeOk.l0 k l0 a3 (l0.length : Int) 0)) else (some false))) = some r := h
 clear h
 obtain ⟨a6, A2, H⟩ := bd_ H
 try dsimp only at H
 replace H := ox_ H
 rcases H with ⟨rfl, H⟩ | ⟨rfl, H⟩
 ·
  obtain ⟨a3, A4, H⟩ := bd_ H
  try dsimp only at H
  have H' := ak H
  clear H
  go_enter Try.func83, Try.ntmps83
  go_wp2_with (first | ((with_reducible refine gate_callee (f := 43) rfl ?_); refine gl_ (some 7) Try.func43 #[.slice A0 l0.length c0] ?_; (with_reducible refine (impl_OrderOk.calls k _ _ l0 true _ (y4 HR0.out) a5.out A2.out).mono ?_); rintro e w' ⟨rfl, ⟨nd, rfl⟩⟩; refine ⟨_, rfl, ?_⟩) | ((with_reducible refine gate_callee (f := 61) rfl ?_); refine gl_ (some 10) Try.func61 #[.slice A0 l0.length c0] ?_; (with_reducible refine (impl_turned.calls k _ _ l0 a3 _ (y4 HR0.out) a5.out A4.out).mono ?_); rintro e w' ⟨a7, rfl, ho0, hb⟩; refine ⟨_, rfl, ?_⟩; have a8 := ak (Kd.S_lower ho0 (below_size z4_0)); replace HB := ak (below_step z4_0 hb); (try clear hb); (try clear hb2); (try clear hk); (try clear hi); (try clear ho0)))
  go_loopg [13] k (fun kq b7 w' => ∃ (a0 : Int), b7 = .int .i64 a0 ∧ Aside0 (impl_LatticeOk.l0 kq l0 a3 (l0.length : Int) a0 = some r) ∧ Aside0 (kq ≤ k) ∧ Aside0 (Kd.S (Kd.slice 3 (Kd.int .i64)) 24 w' w.heap.size (fun _ => True) a7 a3) ∧ Aside0 (Below w.heap.size w w'))
  case atStart => exact ⟨(0), z4_2, H', ⟨Nat.le_refl _⟩, ⟨(xS a8.out)⟩, ⟨z4_0⟩⟩
  case round =>
   clear H'
   try clear c3
   obtain ⟨a0, rfl, HA, HK1, a2, HB⟩ := hrel
   cases gk with
   | zero => exact absurd HA.out (by simp [impl_LatticeOk.l0])
   | succ k1 =>
    have H := HA.out
    clear HA
    simp only [impl_LatticeOk.l0] at H
    replace H := os_ H
    rcases H with ⟨a9, H⟩ | ⟨a9, H⟩
    ·
     have H' := ak H
     clear H
     go_wp2
     go_loopg [18] k1 (fun kq b8 w' => ∃ (a1 : Int), b8 = .int .i64 a1 ∧ Aside0 (impl_LatticeOk.l1 kq l0 a3 a0 (l0.length : Int) a0 (l0.length : Int) a1 = some r) ∧ Aside0 (kq ≤ k1) ∧ Aside0 (Kd.S (Kd.slice 3 (Kd.int .i64)) 24 w' w.heap.size (fun _ => True) a7 a3) ∧ Aside0 (Below w.heap.size w w'))
     case atStart => exact ⟨(0), z4_2, H', ⟨Nat.le_refl _⟩, ⟨(xS a2.out)⟩, ⟨z4_0⟩⟩
     case round =>
      clear H'
      try clear c3
      try clear c6
      try clear a9
      obtain ⟨a1, rfl, HA, HK2, a2, HB⟩ := hrel
      cases gk with
      | zero => exact absurd HA.out (by simp [impl_LatticeOk.l1])
      | succ k2 =>
       have H := HA.out
       clear HA
       simp only [impl_LatticeOk.l1] at H
       replace H := os_ H
       rcases H with ⟨b2, H⟩ | ⟨b2, H⟩
       ·
        obtain ⟨a4, A8, H⟩ := bd_ H
        try dsimp only at H
        replace H := os_ H
        rcases H with ⟨b3, H⟩ | ⟨b3, H⟩
        ·
         obtain rfl := Option.some.inj H
         go_wp2_with (first | ((with_reducible refine gate_callee (f := 84) rfl ?_); refine gl_ (some 24) Try.func84 #[.slice A0 l0.length c0, .int .i64 a0, .int .i64 a1] ?_; (with_reducible refine (impl_meet.calls k2 _ _ l0 a0 a1 a4 _ (y3 HR0.out HB.out) a5.out A8.out).mono ?_); rintro e w' ⟨rfl, ⟨nd, rfl⟩⟩; refine ⟨_, rfl, ?_⟩))
         go_ret
         exact ⟨z4_1, z4_0⟩
        obtain ⟨b0, b6, H⟩ := bd_ H
        try dsimp only at H
        replace H := os_ H
        rcases H with ⟨b1, H⟩ | ⟨b1, H⟩
        ·
         obtain rfl := Option.some.inj H
         go_wp2_with (first | ((with_reducible refine gate_callee (f := 84) rfl ?_); refine gl_ (some 24) Try.func84 #[.slice A0 l0.length c0, .int .i64 a0, .int .i64 a1] ?_; (with_reducible refine (impl_meet.calls k2 _ _ l0 a0 a1 a4 _ (y3 HR0.out HB.out) a5.out A8.out).mono ?_); rintro e w' ⟨rfl, ⟨nd, rfl⟩⟩; refine ⟨_, rfl, ?_⟩; obtain ⟨b9, d0, b4⟩ := Kd.S_slice a2.out; subst b4) | (go_at_call 84; (with_reducible refine (impl_meet.calls k2 _ _ a3 a0 a1 b0 _ (y1 a2.out) (y2 a2.out) b6.out).mono ?_); rintro e w' ⟨rfl, ⟨nd, rfl⟩⟩))
         go_ret
         exact ⟨z4_1, z4_0⟩
        have H' := ak H
        clear H
        go_wp2_with (first | ((with_reducible refine gate_callee (f := 84) rfl ?_); refine gl_ (some 24) Try.func84 #[.slice A0 l0.length c0, .int .i64 a0, .int .i64 a1] ?_; (with_reducible refine (impl_meet.calls k2 _ _ l0 a0 a1 a4 _ (y3 HR0.out HB.out) a5.out A8.out).mono ?_); rintro e w' ⟨rfl, ⟨nd, rfl⟩⟩; refine ⟨_, rfl, ?_⟩; obtain ⟨d1, d2, b5⟩ := Kd.S_slice a2.out; subst b5) | (go_at_call 84; (with_reducible refine (impl_meet.calls k2 _ _ a3 a0 a1 b0 _ (y1 a2.out) (y2 a2.out) b6.out).mono ?_); rintro e w' ⟨rfl, ⟨nd, rfl⟩⟩))
        go_roundg k2
        case measure => have := HK1.out; have := HK2.out; omega
        case rel => exact ⟨(wrap64 (a1 + 1)), z4_2, H', ⟨(by have := HK1.out; have := HK2.out; omega)⟩, ⟨(xS a2.out)⟩, ⟨z4_0⟩⟩
       have H' := ak H
       clear H
       go_wp2
       go_roundg k2
       case measure => have := HK1.out; have := HK2.out; omega
       case rel => exact ⟨(wrap64 (a0 + 1)), z4_2, H', ⟨(by have := HK1.out; have := HK2.out; omega)⟩, ⟨(xS a2.out)⟩, ⟨z4_0⟩⟩
    obtain rfl := Option.some.inj H
    go_wp2
    go_ret
    exact ⟨z4_1, z4_0⟩
 obtain rfl := Option.some.inj H
 go_enter Try.func83, Try.ntmps83
 go_wp2_with (first | ((with_reducible refine gate_callee (f := 43) rfl ?_); refine gl_ (some 7) Try.func43 #[.slice A0 l0.length c0] ?_; (with_reducible refine (impl_OrderOk.calls k _ _ l0 false _ (y4 HR0.out) a5.out A2.out).mono ?_); rintro e w' ⟨rfl, ⟨nd, rfl⟩⟩; refine ⟨_, rfl, ?_⟩))
 go_ret
 exact ⟨z4_1, z4_0⟩

end Go.Proofs.Ytjgfpiilfnchnaa.P

-- written by gen.py (a program of this session) out of the kit's print of this seat's translation
namespace Go.Proofs.Ytjgfpiilfnchnaa.P
open Go.RowKit Go.Proofs.YtjgfpiilfnchnaaW.PrintWords Go.Proofs.YtjgfpiilfnchnaaW.PrintLast Go.Proofs.YtjgfpiilfnchnaaW.PrintMore
attribute [local go_sem] max2_int min2_int max_two min_two max_three min_three max_four min_four
set_option linter.unusedVariables false
set_option linter.unusedSimpArgs false
theorem z5_1 {p : Prop} (h : p := by repeat (first | exact Drawn0.refl _ | apply Drawn0.step)) : p := h
theorem z5_0 {p : Prop} (h : p := by first | rfl | (simp; done) | (simp [*]; done)) : p := h
set_option maxHeartbeats 8000000 in
set_option maxRecDepth 100000 in
theorem impl_LeastOf.calls (k : Nat) (A0 : Option Addr) (c0 : Nat) (l0 : List (List Int)) (r1 : Int) (r2 : Bool) (w : World) (hr0 : Kd.C (Kd.slice 3 (Kd.int .i64)) w A0 l0.length l0) (hc0 : l0.length ≤ c0) (h : impl_LeastOf.f k l0 = some (r1, r2)) :
 Calls Try.prog 21 #[.slice A0 l0.length c0] w fun e w' => e = .returned (.tuple #[.int .i64 r1, .bool r2]) ∧ Drawn0 w w' := by
 have HR0 := ak hr0
 have b3 := ak hc0
 clear hr0 hc0
 have H : ((impl_OrderOk.f k l0).bind fun a3 => (if a3 = true then (impl_LeastOf.l0 k l0 (l0.length : Int) 0) else (some ((-1), false)))) = some (r1, r2) := h
 clear h
 obtain ⟨a3, A2, H⟩ := bd_ H
 try dsimp only at H
 replace H := ox_ H
 rcases H with ⟨rfl, H⟩ | ⟨rfl, H⟩
 ·
  have H' := ak H
  clear H
  go_enter Try.func21, Try.ntmps21
  go_wp2_with (first | ((with_reducible refine gate_callee (f := 43) rfl ?_); refine gl_ (some 10) Try.func43 #[.slice A0 l0.length c0] ?_; (with_reducible refine (impl_OrderOk.calls k _ _ l0 true _ (y4 HR0.out) b3.out A2.out).mono ?_); rintro e w' ⟨rfl, ⟨nd, rfl⟩⟩; refine ⟨_, rfl, ?_⟩))
  go_loopg [14] k (fun kq b4 w' => ∃ (a0 : Int), b4 = .int .i64 a0 ∧ Aside0 (impl_LeastOf.l0 kq l0 (l0.length : Int) a0 = some (r1, r2)) ∧ Aside0 (kq ≤ k) ∧ Drawn0 w w')
  case atStart => exact ⟨(0), z5_0, H', ⟨Nat.le_refl _⟩, z5_1⟩
  case round =>
   clear H'
   try clear c3
   obtain ⟨a0, rfl, HA, HK1, ⟨m1, rfl⟩⟩ := hrel
   cases gk with
   | zero => exact absurd HA.out (by simp [impl_LeastOf.l0])
   | succ k1 =>
    have H := HA.out
    clear HA
    simp only [impl_LeastOf.l0] at H
    replace H := os_ H
    rcases H with ⟨a4, H⟩ | ⟨a4, H⟩
    ·
     replace H := od2 H
     obtain ⟨a6, a7, H⟩ := H
     have H' := ak H
     clear H
     obtain ⟨ad410, a8, a9, e410, hx410_0, a5, HR410_0, b0, q410⟩ := al_ HR0.out a0
     cases e410
     go_wp2
     go_loopg [6, 21] k1 (fun kq v6 b5 w' => ∃ (a2 : Bool) (a1 : Int), v6 = .bool a2 ∧ b5 = .int .i64 a1 ∧ Aside0 (impl_LeastOf.l1 kq a0 a2 l0 (l0.length : Int) a0 (rd_L1 l0 a0) ((rd_L1 l0 a0).length : Int) a1 = some (r1, r2)) ∧ Aside0 (kq ≤ k1) ∧ Drawn0 w w')
     case atStart => exact ⟨(true), (0), z5_0, z5_0, H', ⟨Nat.le_refl _⟩, z5_1⟩
     case round =>
      clear H'
      try clear c3
      try clear c4
      try clear a4
      try clear c5
      try clear a6
      try clear c6
      try clear a7
      try clear hx410_0
      try clear b0
      try clear q410
      obtain ⟨a2, a1, rfl, rfl, HA, HK2, ⟨m2, rfl⟩⟩ := hrel
      cases gk with
      | zero => exact absurd HA.out (by simp [impl_LeastOf.l1])
      | succ k2 =>
       have H := HA.out
       clear HA
       simp only [impl_LeastOf.l1] at H
       replace H := os_ H
       rcases H with ⟨b1, H⟩ | ⟨b1, H⟩
       ·
        replace H := od2 H
        obtain ⟨b6, b7, H⟩ := H
        replace H := ox_ H
        rcases H with ⟨rfl, H⟩ | ⟨rfl, H⟩
        ·
         have H' := ak H
         clear H
         obtain ⟨ad411, e411, hx411_0, b2, q411⟩ := ai_ HR410_0.out a1
         cases e411
         go_wp2
         go_roundg k2
         case measure => have := HK1.out; have := HK2.out; omega
         case rel => exact ⟨(((rd (rd_L1 l0 a0) a1) == 1)), (wrap64 (a1 + 1)), z5_0, z5_0, H', ⟨(by have := HK1.out; have := HK2.out; omega)⟩, z5_1⟩
        have H' := ak H
        clear H
        obtain ⟨ad411, e411, hx411_0, b2, q411⟩ := ai_ HR410_0.out a1
        cases e411
        go_wp2
        go_roundg k2
        case measure => have := HK1.out; have := HK2.out; omega
        case rel => exact ⟨(false), (wrap64 (a1 + 1)), z5_0, z5_0, H', ⟨(by have := HK1.out; have := HK2.out; omega)⟩, z5_1⟩
       replace H := ox_ H
       rcases H with ⟨rfl, H⟩ | ⟨rfl, H⟩
       ·
        simp only [Option.some.injEq, Prod.mk.injEq] at H
        obtain ⟨rfl, rfl⟩ := H
        go_wp2
        go_ret2
        exact ⟨z5_0, z5_1⟩
       have H' := ak H
       clear H
       go_wp2
       go_roundg k2
       case measure => have := HK1.out; have := HK2.out; omega
       case rel => exact ⟨(wrap64 (a0 + 1)), z5_0, H', ⟨(by have := HK1.out; have := HK2.out; omega)⟩, z5_1⟩
    simp only [Option.some.injEq, Prod.mk.injEq] at H
    obtain ⟨rfl, rfl⟩ := H
    go_wp2
    go_ret2
    exact ⟨z5_0, z5_1⟩
 simp only [Option.some.injEq, Prod.mk.injEq] at H
 obtain ⟨rfl, rfl⟩ := H
 go_enter Try.func21, Try.ntmps21
 go_wp2_with (first | ((with_reducible refine gate_callee (f := 43) rfl ?_); refine gl_ (some 10) Try.func43 #[.slice A0 l0.length c0] ?_; (with_reducible refine (impl_OrderOk.calls k _ _ l0 false _ (y4 HR0.out) b3.out A2.out).mono ?_); rintro e w' ⟨rfl, ⟨nd, rfl⟩⟩; refine ⟨_, rfl, ?_⟩))
 go_ret2
 exact ⟨z5_0, z5_1⟩

end Go.Proofs.Ytjgfpiilfnchnaa.P
