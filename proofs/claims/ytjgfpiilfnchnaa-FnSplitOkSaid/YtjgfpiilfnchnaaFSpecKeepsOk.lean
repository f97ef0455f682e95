-- written by gen.py (a program of this session) out of the kit's print of this seat's translation
import Derived.Test.YtjgfpiilfnchnaaPk2
import Derived.Test.YtjgfpiilfnchnaaPk3
import Derived.Test.YtjgfpiilfnchnaaPk4
namespace Go.Proofs.Ytjgfpiilfnchnaa.P
open Go.RowKit Go.Proofs.YtjgfpiilfnchnaaW.PrintWords Go.Proofs.YtjgfpiilfnchnaaW.PrintLast Go.Proofs.YtjgfpiilfnchnaaW.PrintMore
attribute [local go_sem] max2_int min2_int max_two min_two max_three min_three max_four min_four
set_option linter.unusedVariables false
set_option linter.unusedSimpArgs false
theorem z11_3 {p : Prop} (h : p := by first | rfl | (simp; done) | (simp [*]; done)) : p := h
theorem z11_2 {p : Prop} (h : p := by repeat (first | exact (Kd.C_below HR0_0.out z11_0) | (with_reducible refine Kd.C_alloc ?_ _) | (with_reducible refine Kd.C_drewN ?_ _) | (with_reducible refine Kd.C_drew ?_))) : p := h
theorem z11_1 {p : Prop} (h : p := by repeat (first | (with_reducible first | exact HB.out | apply below_alloc | apply pw_below_drewN | apply below_drew1) | exact HB.out)) : p := h
theorem z11_0 {p : Prop} (h : p := by repeat (first | (with_reducible first | exact HB.out | apply below_alloc | apply pw_below_drewN | apply below_drew1 | refine below_set ?_ b6.out) | exact HB.out)) : p := h
set_option maxHeartbeats 8000000 in
set_option maxRecDepth 100000 in
theorem spec_KeepsOk.calls (k : Nat) (A0_0 : Option Addr) (c0_0 : Nat) (l0_0 : List (List Int)) (A0_1 : Option Addr) (c0_1 : Nat) (l0_1 : List Int) (r : Bool) (w : World) (hr0_0 : Kd.C (Kd.slice 3 (Kd.int .i64)) w A0_0 l0_0.length l0_0) (hc0_0 : l0_0.length ≤ c0_0) (hr0_1 : Kd.C (Kd.int .i64) w A0_1 l0_1.length l0_1) (hc0_1 : l0_1.length ≤ c0_1) (h : spec_KeepsOk.f k l0_0 l0_1 = some r) :
 Calls Try.prog 50 #[.agg #[.slice A0_0 l0_0.length c0_0, .slice A0_1 l0_1.length c0_1]] w fun e w' => e = .returned (.bool r) ∧ Below w.heap.size w w' := by
 have hu26 := Try.underlying26
 have HR0_0 := ak hr0_0
 have a2 := ak hc0_0
 clear hr0_0 hc0_0
 have HR0_1 := ak hr0_1
 have a8 := ak hc0_1
 clear hr0_1 hc0_1
 have HB := ak (Below.refl w.heap.size w)
 have H : (spec_KeepsOk.l0 k 0 l0_0 l0_1) = some r := h
 clear h
 have H' := ak H
 clear H
 go_enter Try.func50, Try.ntmps50
 go_wp2_with (first | ((with_reducible refine gate_dst (N := 1) rfl ?_); refine bx_ (N := 1) (cs := #[.slice A0_0 l0_0.length c0_0, .slice A0_1 l0_1.length c0_1]) (t := 26) ?_; intro a3 hg w2 hbox hb; have a0 := ak (hbox); have d2 := ak ((by rw [hg]; exact (below_size z11_1) : w.heap.size ≤ a3)); have b6 := ak ((by rw [hg]; exact (below_size z11_1) : w.heap.size ≤ a3)); replace HB := ak (below_step z11_1 hb); clear hb hbox hg))
 repeat (go_quiet (first | ((with_reducible refine gate_dst (N := 1) rfl ?_); refine bx_ (N := 1) (cs := #[.slice A0_0 l0_0.length c0_0, .slice A0_1 l0_1.length c0_1]) (t := 26) ?_; intro a3 hg w2 hbox hb; have a0 := ak (hbox); have d2 := ak ((by rw [hg]; exact (below_size z11_1) : w.heap.size ≤ a3)); have b6 := ak ((by rw [hg]; exact (below_size z11_1) : w.heap.size ≤ a3)); replace HB := ak (below_step z11_1 hb); clear hb hbox hg)); try go_wp2_with (first | ((with_reducible refine gate_dst (N := 1) rfl ?_); refine bx_ (N := 1) (cs := #[.slice A0_0 l0_0.length c0_0, .slice A0_1 l0_1.length c0_1]) (t := 26) ?_; intro a3 hg w2 hbox hb; have a0 := ak (hbox); have d2 := ak ((by rw [hg]; exact (below_size z11_1) : w.heap.size ≤ a3)); have b6 := ak ((by rw [hg]; exact (below_size z11_1) : w.heap.size ≤ a3)); replace HB := ak (below_step z11_1 hb); clear hb hbox hg)))
 go_loopg [3] k (fun kq v3 w' => ∃ (a1 : Int), v3 = .int .i64 a1 ∧ Aside0 (spec_KeepsOk.l0 kq a1 l0_0 l0_1 = some r) ∧ Aside0 (kq ≤ k) ∧ Aside0 (w'.heap[a3]? = some (.cells #[(.slice A0_0 l0_0.length c0_0), (.slice A0_1 l0_1.length c0_1)] 26 (0, 0))) ∧ Aside0 (Below w.heap.size w w'))
 case atStart => exact ⟨(0), z11_3, H', ⟨Nat.le_refl _⟩, ⟨(xb a0.out)⟩, ⟨z11_0⟩⟩
 case round =>
  clear H'
  obtain ⟨a1, rfl, HA, HK1, a0, HB⟩ := hrel
  cases gk with
  | zero => exact absurd HA.out (by simp [spec_KeepsOk.l0])
  | succ k1 =>
   have H := HA.out
   clear HA
   simp only [spec_KeepsOk.l0] at H
   have e3 := ak H
   clear H
   go_upto_region 2 with (fail)
   repeat (go_quiet (fail); go_upto_region 2 with (fail))
   go_cut [13] (fun f1 wc => ∃ (kq : Nat) (b7 : Bool), f1 = .bool b7 ∧ Aside0 (spec_KeepsOk.j1 kq a1 b7 l0_0 l0_1 = some r) ∧ Aside0 (kq ≤ k1) ∧ Aside0 (wc.heap[a3]? = some (.cells #[(.slice A0_0 l0_0.length c0_0), (.slice A0_1 l0_1.length c0_1)] 26 (0, 0))) ∧ Aside0 (Below w.heap.size w wc))
   case first =>
    have H := e3.out
    clear e3
    replace H := os_ H
    rcases H with ⟨b8, H⟩ | ⟨b8, H⟩
    ·
     (first | rw [b8] | (simp only [i64_w, i32_w]; rw [b8]) | skip)
     obtain ⟨d1, A5, H⟩ := bd_ H
     try dsimp only at H
     have H' := ak H
     clear H
     have a9 := cz20 a0.out
     have b0 := cz21 a0.out
     have b1 := blk_frozen a0.out 0
     have b2 := blk_frozen a0.out 1
     go_wp2_with (first | (go_at_call 16; (with_reducible refine (spec_LogicOk.calls k1 _ _ l0_0 _ _ l0_1 d1 _ (y3 HR0_0.out HB.out) a2.out (y3 HR0_1.out HB.out) a8.out A5.out).mono ?_); rintro e w7 ⟨rfl, hb⟩; replace a0 := ak (blk_below (g := a3) (o := .cells #[.slice A0_0 l0_0.length c0_0, .slice A0_1 l0_1.length c0_1] 26 (0, 0)) (xb a0.out) hb); replace HB := ak (below_step z11_0 hb); (try clear hb); (try clear hb2); (try clear hk); (try clear hi)))
     repeat (go_quiet (first | (go_at_call 16; (with_reducible refine (spec_LogicOk.calls k1 _ _ l0_0 _ _ l0_1 d1 _ (y3 HR0_0.out HB.out) a2.out (y3 HR0_1.out HB.out) a8.out A5.out).mono ?_); rintro e w7 ⟨rfl, hb⟩; replace a0 := ak (blk_below (g := a3) (o := .cells #[.slice A0_0 l0_0.length c0_0, .slice A0_1 l0_1.length c0_1] 26 (0, 0)) (xb a0.out) hb); replace HB := ak (below_step z11_0 hb); (try clear hb); (try clear hb2); (try clear hk); (try clear hi))); try go_wp2_with (first | (go_at_call 16; (with_reducible refine (spec_LogicOk.calls k1 _ _ l0_0 _ _ l0_1 d1 _ (y3 HR0_0.out HB.out) a2.out (y3 HR0_1.out HB.out) a8.out A5.out).mono ?_); rintro e w7 ⟨rfl, hb⟩; replace a0 := ak (blk_below (g := a3) (o := .cells #[.slice A0_0 l0_0.length c0_0, .slice A0_1 l0_1.length c0_1] 26 (0, 0)) (xb a0.out) hb); replace HB := ak (below_step z11_0 hb); (try clear hb); (try clear hb2); (try clear hk); (try clear hi))))
     go_meet
     case rel => exact ⟨_, (d1), z11_3, H', ⟨(by have := HK1.out; first | omega | exact Nat.le_refl _)⟩, ⟨(xb a0.out)⟩, ⟨z11_0⟩⟩
    (first | rw [b8] | (simp only [i64_w, i32_w]; rw [b8]) | skip)
    have H' := ak H
    clear H
    have a9 := cz20 a0.out
    have b0 := cz21 a0.out
    have b1 := blk_frozen a0.out 0
    have b2 := blk_frozen a0.out 1
    go_wp2
    repeat (go_quiet (fail); try go_wp2)
    go_meet
    case rel => exact ⟨_, (false), z11_3, H', ⟨(by have := HK1.out; first | omega | exact Nat.le_refl _)⟩, ⟨(xb a0.out)⟩, ⟨z11_0⟩⟩
   case rest =>
    clear e3
    obtain ⟨kq, b7, rfl, HA, d4, a0, HB⟩ := hcut
    cases kq with
    | zero => exact absurd HA.out (by simp [spec_KeepsOk.j1])
    | succ d7 =>
     have H := HA.out
     clear HA
     simp only [spec_KeepsOk.j1] at H
     replace H := ox_ H
     rcases H with ⟨rfl, H⟩ | ⟨rfl, H⟩
     ·
      have H' := ak H
      clear H
      go_wp2
      repeat (go_quiet (fail); try go_wp2)
      go_loopg [4] d7 (fun kq v4 w' => ∃ (a4 : Int), v4 = .int .i64 a4 ∧ Aside0 (spec_KeepsOk.l1 kq a1 a4 l0_0 l0_1 = some r) ∧ Aside0 (kq ≤ d7) ∧ Aside0 (w'.heap[a3]? = some (.cells #[(.slice A0_0 l0_0.length c0_0), (.slice A0_1 l0_1.length c0_1)] 26 (0, 0))) ∧ Aside0 (Below w.heap.size w w'))
      case atStart => exact ⟨(0), z11_3, H', ⟨Nat.le_refl _⟩, ⟨(xb a0.out)⟩, ⟨z11_0⟩⟩
      case round =>
       clear H'
       try clear c9
       obtain ⟨a4, rfl, HA, HK3, a0, HB⟩ := hrel
       cases gk with
       | zero => exact absurd HA.out (by simp [spec_KeepsOk.l1])
       | succ k3 =>
        have H := HA.out
        clear HA
        simp only [spec_KeepsOk.l1] at H
        replace H := os_ H
        rcases H with ⟨d8, H⟩ | ⟨d8, H⟩
        ·
         replace H := od4 H
         obtain ⟨e5, e6, e7, e8, H⟩ := H
         replace H := oe2 H
         rcases H with ⟨⟨-, d9, e0⟩, H⟩ | ⟨⟨f2, d9, e0⟩, H⟩
         ·
          replace H := od_ H
          obtain ⟨e9, H⟩ := H
          obtain ⟨a5, d5, H⟩ := bd_ H
          obtain ⟨b5, d6, H⟩ := bd_ H
          try dsimp only at H
          replace H := oe2 H
          rcases H with ⟨⟨-, e1, e2⟩, H⟩ | ⟨⟨f3, e1, e2⟩, H⟩
          ·
           have H' := ak H
           clear H
           have a9 := cz20 a0.out
           have b0 := cz21 a0.out
           have b1 := blk_frozen a0.out 0
           have b2 := blk_frozen a0.out 1
           have a6 : 0 ≤ (a1 : Int) := oa_
           have q918 : a1 < (l0_0.length : Int) := oa_
           obtain ⟨ad918, b9, d0, e918, hx918_0, hl918_0, hi918_0⟩ := at_L1 HR0_0.out a1 a6 q918
           cases e918
           replace hx918_0 := (HB.out.cell (World.block_lt_of_cell? w _ hx918_0)).trans hx918_0
           have HR918_0 := ak hi918_0
           have b4 := ak hl918_0
           clear hi918_0 hl918_0
           replace a6 := eq_true a6
           replace q918 := eq_true q918
           have a7 : 0 ≤ (a4 : Int) := oa_
           have q919 : a4 < ((rd_L1 l0_0 a1).length : Int) := oa_
           obtain ⟨ad919, e919, hx919_0⟩ := Kd.at_int HR918_0.out a4 a7 q919
           cases e919
           replace hx919_0 := (HB.out.cell (World.block_lt_of_cell? w _ hx919_0)).trans hx919_0
           replace a7 := eq_true a7
           replace q919 := eq_true q919
           have b3 : 0 ≤ (a1 : Int) := oa_
           have q920 : a1 < (l0_1.length : Int) := oa_
           obtain ⟨ad920, e920, hx920_0⟩ := Kd.at_int HR0_1.out a1 b3 q920
           cases e920
           replace hx920_0 := (HB.out.cell (World.block_lt_of_cell? w _ hx920_0)).trans hx920_0
           replace b3 := eq_true b3
           replace q920 := eq_true q920
           go_wp2_with (first | (go_at_call 60; (with_reducible refine (spec_l1Meet.calls k3 _ _ l0_0 a4 (rd l0_1 a1) a5 _ (y3 HR0_0.out HB.out) a2.out d5.out).mono ?_); rintro e w' ⟨rfl, ⟨nd, rfl⟩⟩; (try first | exact ⟨rfl, _, World.drewN_drewN _ _ _⟩ | exact ⟨rfl, _, Eq.trans (World.drewN_drewN _ _ _) (congrArg (World.drewN _) (Nat.add_assoc _ _ _))⟩)) | (go_at_call 65; (with_reducible refine (spec_l1Join.calls k3 _ _ l0_0 a1 a5 b5 _ z11_2 a2.out d6.out).mono ?_); rintro e w' ⟨rfl, ⟨nd, rfl⟩⟩; (try first | exact ⟨rfl, _, World.drewN_drewN _ _ _⟩ | exact ⟨rfl, _, Eq.trans (World.drewN_drewN _ _ _) (congrArg (World.drewN _) (Nat.add_assoc _ _ _))⟩)))
           repeat (go_quiet (first | (go_at_call 60; (with_reducible refine (spec_l1Meet.calls k3 _ _ l0_0 a4 (rd l0_1 a1) a5 _ (y3 HR0_0.out HB.out) a2.out d5.out).mono ?_); rintro e w' ⟨rfl, ⟨nd, rfl⟩⟩; (try first | exact ⟨rfl, _, World.drewN_drewN _ _ _⟩ | exact ⟨rfl, _, Eq.trans (World.drewN_drewN _ _ _) (congrArg (World.drewN _) (Nat.add_assoc _ _ _))⟩)) | (go_at_call 65; (with_reducible refine (spec_l1Join.calls k3 _ _ l0_0 a1 a5 b5 _ z11_2 a2.out d6.out).mono ?_); rintro e w' ⟨rfl, ⟨nd, rfl⟩⟩; (try first | exact ⟨rfl, _, World.drewN_drewN _ _ _⟩ | exact ⟨rfl, _, Eq.trans (World.drewN_drewN _ _ _) (congrArg (World.drewN _) (Nat.add_assoc _ _ _))⟩))); try go_wp2_with (first | (go_at_call 60; (with_reducible refine (spec_l1Meet.calls k3 _ _ l0_0 a4 (rd l0_1 a1) a5 _ (y3 HR0_0.out HB.out) a2.out d5.out).mono ?_); rintro e w' ⟨rfl, ⟨nd, rfl⟩⟩; (try first | exact ⟨rfl, _, World.drewN_drewN _ _ _⟩ | exact ⟨rfl, _, Eq.trans (World.drewN_drewN _ _ _) (congrArg (World.drewN _) (Nat.add_assoc _ _ _))⟩)) | (go_at_call 65; (with_reducible refine (spec_l1Join.calls k3 _ _ l0_0 a1 a5 b5 _ z11_2 a2.out d6.out).mono ?_); rintro e w' ⟨rfl, ⟨nd, rfl⟩⟩; (try first | exact ⟨rfl, _, World.drewN_drewN _ _ _⟩ | exact ⟨rfl, _, Eq.trans (World.drewN_drewN _ _ _) (congrArg (World.drewN _) (Nat.add_assoc _ _ _))⟩))))
           go_roundg k3
           case measure => have := HK1.out; have := d4.out; have := HK3.out; omega
           case rel => exact ⟨(wrap64 (a4 + 1)), z11_3, H', ⟨(by have := HK1.out; have := d4.out; have := HK3.out; omega)⟩, ⟨(xb a0.out)⟩, ⟨z11_0⟩⟩
          obtain rfl := Option.some.inj H
          have a9 := cz20 a0.out
          have b0 := cz21 a0.out
          have b1 := blk_frozen a0.out 0
          have b2 := blk_frozen a0.out 1
          have a6 : 0 ≤ (a1 : Int) := oa_
          have q918 : a1 < (l0_0.length : Int) := oa_
          obtain ⟨ad918, b9, d0, e918, hx918_0, hl918_0, hi918_0⟩ := at_L1 HR0_0.out a1 a6 q918
          cases e918
          replace hx918_0 := (HB.out.cell (World.block_lt_of_cell? w _ hx918_0)).trans hx918_0
          have HR918_0 := ak hi918_0
          have b4 := ak hl918_0
          clear hi918_0 hl918_0
          replace a6 := eq_true a6
          replace q918 := eq_true q918
          have a7 : 0 ≤ (a4 : Int) := oa_
          have q919 : a4 < ((rd_L1 l0_0 a1).length : Int) := oa_
          obtain ⟨ad919, e919, hx919_0⟩ := Kd.at_int HR918_0.out a4 a7 q919
          cases e919
          replace hx919_0 := (HB.out.cell (World.block_lt_of_cell? w _ hx919_0)).trans hx919_0
          replace a7 := eq_true a7
          replace q919 := eq_true q919
          have b3 : 0 ≤ (a1 : Int) := oa_
          have q920 : a1 < (l0_1.length : Int) := oa_
          obtain ⟨ad920, e920, hx920_0⟩ := Kd.at_int HR0_1.out a1 b3 q920
          cases e920
          replace hx920_0 := (HB.out.cell (World.block_lt_of_cell? w _ hx920_0)).trans hx920_0
          replace b3 := eq_true b3
          replace q920 := eq_true q920
          go_wp2_with (first | (go_at_call 60; (with_reducible refine (spec_l1Meet.calls k3 _ _ l0_0 a4 (rd l0_1 a1) a5 _ (y3 HR0_0.out HB.out) a2.out d5.out).mono ?_); rintro e w' ⟨rfl, ⟨nd, rfl⟩⟩; (try first | exact ⟨rfl, _, World.drewN_drewN _ _ _⟩ | exact ⟨rfl, _, Eq.trans (World.drewN_drewN _ _ _) (congrArg (World.drewN _) (Nat.add_assoc _ _ _))⟩)) | (go_at_call 65; (with_reducible refine (spec_l1Join.calls k3 _ _ l0_0 a1 a5 b5 _ z11_2 a2.out d6.out).mono ?_); rintro e w' ⟨rfl, ⟨nd, rfl⟩⟩; (try first | exact ⟨rfl, _, World.drewN_drewN _ _ _⟩ | exact ⟨rfl, _, Eq.trans (World.drewN_drewN _ _ _) (congrArg (World.drewN _) (Nat.add_assoc _ _ _))⟩)))
          repeat (go_quiet (first | (go_at_call 60; (with_reducible refine (spec_l1Meet.calls k3 _ _ l0_0 a4 (rd l0_1 a1) a5 _ (y3 HR0_0.out HB.out) a2.out d5.out).mono ?_); rintro e w' ⟨rfl, ⟨nd, rfl⟩⟩; (try first | exact ⟨rfl, _, World.drewN_drewN _ _ _⟩ | exact ⟨rfl, _, Eq.trans (World.drewN_drewN _ _ _) (congrArg (World.drewN _) (Nat.add_assoc _ _ _))⟩)) | (go_at_call 65; (with_reducible refine (spec_l1Join.calls k3 _ _ l0_0 a1 a5 b5 _ z11_2 a2.out d6.out).mono ?_); rintro e w' ⟨rfl, ⟨nd, rfl⟩⟩; (try first | exact ⟨rfl, _, World.drewN_drewN _ _ _⟩ | exact ⟨rfl, _, Eq.trans (World.drewN_drewN _ _ _) (congrArg (World.drewN _) (Nat.add_assoc _ _ _))⟩))); try go_wp2_with (first | (go_at_call 60; (with_reducible refine (spec_l1Meet.calls k3 _ _ l0_0 a4 (rd l0_1 a1) a5 _ (y3 HR0_0.out HB.out) a2.out d5.out).mono ?_); rintro e w' ⟨rfl, ⟨nd, rfl⟩⟩; (try first | exact ⟨rfl, _, World.drewN_drewN _ _ _⟩ | exact ⟨rfl, _, Eq.trans (World.drewN_drewN _ _ _) (congrArg (World.drewN _) (Nat.add_assoc _ _ _))⟩)) | (go_at_call 65; (with_reducible refine (spec_l1Join.calls k3 _ _ l0_0 a1 a5 b5 _ z11_2 a2.out d6.out).mono ?_); rintro e w' ⟨rfl, ⟨nd, rfl⟩⟩; (try first | exact ⟨rfl, _, World.drewN_drewN _ _ _⟩ | exact ⟨rfl, _, Eq.trans (World.drewN_drewN _ _ _) (congrArg (World.drewN _) (Nat.add_assoc _ _ _))⟩))))
          go_ret
          exact ⟨(by first | rfl | (simp [errW_none, errW_some] <;> rfl) | (simp [*, errW_none, errW_some] <;> rfl)), z11_0⟩
         have H' := ak H
         clear H
         have a9 := cz20 a0.out
         have b0 := cz21 a0.out
         have b1 := blk_frozen a0.out 0
         have b2 := blk_frozen a0.out 1
         have a6 : 0 ≤ (a1 : Int) := oa_
         have q918 : a1 < (l0_0.length : Int) := oa_
         obtain ⟨ad918, b9, d0, e918, hx918_0, hl918_0, hi918_0⟩ := at_L1 HR0_0.out a1 a6 q918
         cases e918
         replace hx918_0 := (HB.out.cell (World.block_lt_of_cell? w _ hx918_0)).trans hx918_0
         have HR918_0 := ak hi918_0
         have b4 := ak hl918_0
         clear hi918_0 hl918_0
         replace a6 := eq_true a6
         replace q918 := eq_true q918
         have a7 : 0 ≤ (a4 : Int) := oa_
         have q919 : a4 < ((rd_L1 l0_0 a1).length : Int) := oa_
         obtain ⟨ad919, e919, hx919_0⟩ := Kd.at_int HR918_0.out a4 a7 q919
         cases e919
         replace hx919_0 := (HB.out.cell (World.block_lt_of_cell? w _ hx919_0)).trans hx919_0
         replace a7 := eq_true a7
         replace q919 := eq_true q919
         go_wp2
         repeat (go_quiet (fail); try go_wp2)
         go_roundg k3
         case measure => have := HK1.out; have := d4.out; have := HK3.out; omega
         case rel => exact ⟨(wrap64 (a4 + 1)), z11_3, H', ⟨(by have := HK1.out; have := d4.out; have := HK3.out; omega)⟩, ⟨(xb a0.out)⟩, ⟨z11_0⟩⟩
        have H' := ak H
        clear H
        have a9 := cz20 a0.out
        have b0 := cz21 a0.out
        have b1 := blk_frozen a0.out 0
        have b2 := blk_frozen a0.out 1
        go_wp2
        repeat (go_quiet (fail); try go_wp2)
        go_roundg k3
        case measure => have := HK1.out; have := d4.out; have := HK3.out; omega
        case rel => exact ⟨(wrap64 (a1 + 1)), z11_3, H', ⟨(by have := HK1.out; have := d4.out; have := HK3.out; omega)⟩, ⟨(xb a0.out)⟩, ⟨z11_0⟩⟩
     obtain ⟨d3, e4, H⟩ := bd_ H
     try dsimp only at H
     obtain rfl := Option.some.inj H
     have a9 := cz20 a0.out
     have b0 := cz21 a0.out
     have b1 := blk_frozen a0.out 0
     have b2 := blk_frozen a0.out 1
     go_wp2_with (first | (go_at_call 16; (with_reducible refine (spec_LogicOk.calls d7 _ _ l0_0 _ _ l0_1 d3 _ (y3 HR0_0.out HB.out) a2.out (y3 HR0_1.out HB.out) a8.out e4.out).mono ?_); rintro e f0 ⟨rfl, hb⟩; replace a0 := ak (blk_below (g := a3) (o := .cells #[.slice A0_0 l0_0.length c0_0, .slice A0_1 l0_1.length c0_1] 26 (0, 0)) (xb a0.out) hb); replace HB := ak (below_step z11_0 hb); (try clear hb); (try clear hb2); (try clear hk); (try clear hi)))
     repeat (go_quiet (first | (go_at_call 16; (with_reducible refine (spec_LogicOk.calls d7 _ _ l0_0 _ _ l0_1 d3 _ (y3 HR0_0.out HB.out) a2.out (y3 HR0_1.out HB.out) a8.out e4.out).mono ?_); rintro e f0 ⟨rfl, hb⟩; replace a0 := ak (blk_below (g := a3) (o := .cells #[.slice A0_0 l0_0.length c0_0, .slice A0_1 l0_1.length c0_1] 26 (0, 0)) (xb a0.out) hb); replace HB := ak (below_step z11_0 hb); (try clear hb); (try clear hb2); (try clear hk); (try clear hi))); try go_wp2_with (first | (go_at_call 16; (with_reducible refine (spec_LogicOk.calls d7 _ _ l0_0 _ _ l0_1 d3 _ (y3 HR0_0.out HB.out) a2.out (y3 HR0_1.out HB.out) a8.out e4.out).mono ?_); rintro e f0 ⟨rfl, hb⟩; replace a0 := ak (blk_below (g := a3) (o := .cells #[.slice A0_0 l0_0.length c0_0, .slice A0_1 l0_1.length c0_1] 26 (0, 0)) (xb a0.out) hb); replace HB := ak (below_step z11_0 hb); (try clear hb); (try clear hb2); (try clear hk); (try clear hi))))
     go_ret
     exact ⟨(by first | rfl | (simp [errW_none, errW_some] <;> rfl) | (simp [*, errW_none, errW_some] <;> rfl)), z11_0⟩

end Go.Proofs.Ytjgfpiilfnchnaa.P
