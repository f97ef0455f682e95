-- written by gen.py (a program of this session) out of the kit's print of this seat's translation
import Derived.Test.YtjgfpiilfnchnaaPk2
import Derived.Test.YtjgfpiilfnchnaaPk3
import Derived.Test.YtjgfpiilfnchnaaFSpecL2Both
namespace Go.Proofs.Ytjgfpiilfnchnaa.P
open Go.RowKit Go.Proofs.YtjgfpiilfnchnaaW.PrintWords Go.Proofs.YtjgfpiilfnchnaaW.PrintLast Go.Proofs.YtjgfpiilfnchnaaW.PrintMore
attribute [local go_sem] max2_int min2_int max_two min_two max_three min_three max_four min_four
set_option linter.unusedVariables false
set_option linter.unusedSimpArgs false
theorem z1p_2 {p : Prop} (h : p := by repeat (first | (with_reducible first | exact HB.out | apply below_alloc | apply pw_below_drewN | apply below_drew1) | exact HB.out)) : p := h
theorem z1p_1 {p : Prop} (h : p := by repeat (first | exact (Kd.C_below HR0_0.out z1p_0) | (with_reducible refine Kd.C_alloc ?_ _) | (with_reducible refine Kd.C_drewN ?_ _) | (with_reducible refine Kd.C_drew ?_))) : p := h
theorem z1p_0 {p : Prop} (h : p := by repeat (first | (with_reducible first | exact HB.out | apply below_alloc | apply pw_below_drewN | apply below_drew1 | refine below_set ?_ b6.out) | exact HB.out)) : p := h
set_option maxHeartbeats 8000000 in
set_option maxRecDepth 100000 in
theorem spec_SplitOk.calls (k : Nat) (A0_0 : Option Addr) (c0_0 : Nat) (l0_0 : List (List Int)) (A0_1 : Option Addr) (c0_1 : Nat) (l0_1 : List Int) (a1 : Int) (a2 : Int) (a3 : Int) (r : Bool) (w : World) (hr0_0 : Kd.C (Kd.slice 3 (Kd.int .i64)) w A0_0 l0_0.length l0_0) (hc0_0 : l0_0.length ≤ c0_0) (hr0_1 : Kd.C (Kd.int .i64) w A0_1 l0_1.length l0_1) (hc0_1 : l0_1.length ≤ c0_1) (h : spec_SplitOk.f k l0_0 l0_1 a1 a2 a3 = some r) :
 Calls Try.prog 49 #[.agg #[.slice A0_0 l0_0.length c0_0, .slice A0_1 l0_1.length c0_1], .int .i64 a1, .int .i64 a2, .int .i64 a3] w fun e w' => e = .returned (.bool r) ∧ Below w.heap.size w w' := by
 have hu26 := Try.underlying26
 have HR0_0 := ak hr0_0
 have a4 := ak hc0_0
 clear hr0_0 hc0_0
 have HR0_1 := ak hr0_1
 have a6 := ak hc0_1
 clear hr0_1 hc0_1
 have HB := ak (Below.refl w.heap.size w)
 have H : ((spec_l2Both.f k l0_0 l0_1 a1 a2).bind fun d1 => (if d1 = true then ((spec_l2Both.f k l0_0 l0_1 a1 a3).bind fun b2 => (spec_SplitOk.j0 k a1 a2 a3 (!b2) l0_0 l0_1)) else (spec_SplitOk.j0 k a1 a2 a3 true l0_0 l0_1))) = some r := h
 clear h
 have d2 := ak H
 clear H
 go_enter Try.func49, Try.ntmps49
 go_upto_region 1 with (first | ((with_reducible refine gate_dst (N := 4) rfl ?_); refine bx_ (N := 4) (cs := #[.slice A0_0 l0_0.length c0_0, .slice A0_1 l0_1.length c0_1]) (t := 26) ?_; intro a5 hg w6 hbox hb; have a0 := ak (hbox); have b8 := ak ((by rw [hg]; exact (below_size z1p_2) : w.heap.size ≤ a5)); have b6 := ak ((by rw [hg]; exact (below_size z1p_2) : w.heap.size ≤ a5)); replace HB := ak (below_step z1p_2 hb); clear hb hbox hg))
 repeat (go_quiet (first | ((with_reducible refine gate_dst (N := 4) rfl ?_); refine bx_ (N := 4) (cs := #[.slice A0_0 l0_0.length c0_0, .slice A0_1 l0_1.length c0_1]) (t := 26) ?_; intro a5 hg w6 hbox hb; have a0 := ak (hbox); have b8 := ak ((by rw [hg]; exact (below_size z1p_2) : w.heap.size ≤ a5)); have b6 := ak ((by rw [hg]; exact (below_size z1p_2) : w.heap.size ≤ a5)); replace HB := ak (below_step z1p_2 hb); clear hb hbox hg)); go_upto_region 1 with (first | ((with_reducible refine gate_dst (N := 4) rfl ?_); refine bx_ (N := 4) (cs := #[.slice A0_0 l0_0.length c0_0, .slice A0_1 l0_1.length c0_1]) (t := 26) ?_; intro a5 hg w6 hbox hb; have a0 := ak (hbox); have b8 := ak ((by rw [hg]; exact (below_size z1p_2) : w.heap.size ≤ a5)); have b6 := ak ((by rw [hg]; exact (below_size z1p_2) : w.heap.size ≤ a5)); replace HB := ak (below_step z1p_2 hb); clear hb hbox hg)))
 (try simp only [Act.put, List.setIfInBounds_toArray, List.set_cons_zero, List.set_cons_succ])
 go_cut [20] (fun e1 wc => ∃ (kq : Nat) (b7 : Bool), e1 = .bool b7 ∧ Aside0 (spec_SplitOk.j0 kq a1 a2 a3 b7 l0_0 l0_1 = some r) ∧ Aside0 (kq ≤ k) ∧ Aside0 (wc.heap[a5]? = some (.cells #[(.slice A0_0 l0_0.length c0_0), (.slice A0_1 l0_1.length c0_1)] 26 (0, 0))) ∧ Aside0 (Below w.heap.size w wc))
 case first =>
  have H := d2.out
  clear d2
  obtain ⟨d1, A7, H⟩ := bd_ H
  try dsimp only at H
  replace H := ox_ H
  rcases H with ⟨rfl, H⟩ | ⟨rfl, H⟩
  ·
   obtain ⟨b2, A9, H⟩ := bd_ H
   try dsimp only at H
   have H' := ak H
   clear H
   have a7 := cz20 a0.out
   have a8 := cz21 a0.out
   have a9 := blk_frozen a0.out 0
   have b0 := blk_frozen a0.out 1
   go_wp2_with (first | (go_at_call 64; (with_reducible refine (spec_l2Both.calls k _ _ l0_0 _ _ l0_1 a1 a2 true _ (y3 HR0_0.out HB.out) a4.out (y3 HR0_1.out HB.out) a6.out A7.out).mono ?_); rintro e d8 ⟨rfl, hb⟩; replace a0 := ak (blk_below (g := a5) (o := .cells #[.slice A0_0 l0_0.length c0_0, .slice A0_1 l0_1.length c0_1] 26 (0, 0)) (xb a0.out) hb); replace HB := ak (below_step z1p_0 hb); (try clear hb); (try clear hb2); (try clear hk); (try clear hi); have a7 := cz20 a0.out; have a8 := cz21 a0.out; have a9 := blk_frozen a0.out 0; have b0 := blk_frozen a0.out 1) | (go_at_call 64; (with_reducible refine (spec_l2Both.calls k _ _ l0_0 _ _ l0_1 a1 a3 b2 _ (y3 HR0_0.out HB.out) a4.out (y3 HR0_1.out HB.out) a6.out A9.out).mono ?_); rintro e d9 ⟨rfl, hb⟩; replace a0 := ak (blk_below (g := a5) (o := .cells #[.slice A0_0 l0_0.length c0_0, .slice A0_1 l0_1.length c0_1] 26 (0, 0)) (xb a0.out) hb); replace HB := ak (below_step z1p_0 hb); (try clear hb); (try clear hb2); (try clear hk); (try clear hi)))
   repeat (go_quiet (first | (go_at_call 64; (with_reducible refine (spec_l2Both.calls k _ _ l0_0 _ _ l0_1 a1 a2 true _ (y3 HR0_0.out HB.out) a4.out (y3 HR0_1.out HB.out) a6.out A7.out).mono ?_); rintro e d8 ⟨rfl, hb⟩; replace a0 := ak (blk_below (g := a5) (o := .cells #[.slice A0_0 l0_0.length c0_0, .slice A0_1 l0_1.length c0_1] 26 (0, 0)) (xb a0.out) hb); replace HB := ak (below_step z1p_0 hb); (try clear hb); (try clear hb2); (try clear hk); (try clear hi); have a7 := cz20 a0.out; have a8 := cz21 a0.out; have a9 := blk_frozen a0.out 0; have b0 := blk_frozen a0.out 1) | (go_at_call 64; (with_reducible refine (spec_l2Both.calls k _ _ l0_0 _ _ l0_1 a1 a3 b2 _ (y3 HR0_0.out HB.out) a4.out (y3 HR0_1.out HB.out) a6.out A9.out).mono ?_); rintro e d9 ⟨rfl, hb⟩; replace a0 := ak (blk_below (g := a5) (o := .cells #[.slice A0_0 l0_0.length c0_0, .slice A0_1 l0_1.length c0_1] 26 (0, 0)) (xb a0.out) hb); replace HB := ak (below_step z1p_0 hb); (try clear hb); (try clear hb2); (try clear hk); (try clear hi))); try go_wp2_with (first | (go_at_call 64; (with_reducible refine (spec_l2Both.calls k _ _ l0_0 _ _ l0_1 a1 a2 true _ (y3 HR0_0.out HB.out) a4.out (y3 HR0_1.out HB.out) a6.out A7.out).mono ?_); rintro e d8 ⟨rfl, hb⟩; replace a0 := ak (blk_below (g := a5) (o := .cells #[.slice A0_0 l0_0.length c0_0, .slice A0_1 l0_1.length c0_1] 26 (0, 0)) (xb a0.out) hb); replace HB := ak (below_step z1p_0 hb); (try clear hb); (try clear hb2); (try clear hk); (try clear hi); have a7 := cz20 a0.out; have a8 := cz21 a0.out; have a9 := blk_frozen a0.out 0; have b0 := blk_frozen a0.out 1) | (go_at_call 64; (with_reducible refine (spec_l2Both.calls k _ _ l0_0 _ _ l0_1 a1 a3 b2 _ (y3 HR0_0.out HB.out) a4.out (y3 HR0_1.out HB.out) a6.out A9.out).mono ?_); rintro e d9 ⟨rfl, hb⟩; replace a0 := ak (blk_below (g := a5) (o := .cells #[.slice A0_0 l0_0.length c0_0, .slice A0_1 l0_1.length c0_1] 26 (0, 0)) (xb a0.out) hb); replace HB := ak (below_step z1p_0 hb); (try clear hb); (try clear hb2); (try clear hk); (try clear hi))))
   go_meet
   case rel => exact ⟨_, (!b2), (by first | rfl | (simp; done) | (simp [*]; done)), H', ⟨(by first | omega | exact Nat.le_refl _)⟩, ⟨(xb a0.out)⟩, ⟨z1p_0⟩⟩
  have H' := ak H
  clear H
  have a7 := cz20 a0.out
  have a8 := cz21 a0.out
  have a9 := blk_frozen a0.out 0
  have b0 := blk_frozen a0.out 1
  go_wp2_with (first | (go_at_call 64; (with_reducible refine (spec_l2Both.calls k _ _ l0_0 _ _ l0_1 a1 a2 false _ (y3 HR0_0.out HB.out) a4.out (y3 HR0_1.out HB.out) a6.out A7.out).mono ?_); rintro e e0 ⟨rfl, hb⟩; replace a0 := ak (blk_below (g := a5) (o := .cells #[.slice A0_0 l0_0.length c0_0, .slice A0_1 l0_1.length c0_1] 26 (0, 0)) (xb a0.out) hb); replace HB := ak (below_step z1p_0 hb); (try clear hb); (try clear hb2); (try clear hk); (try clear hi)))
  repeat (go_quiet (first | (go_at_call 64; (with_reducible refine (spec_l2Both.calls k _ _ l0_0 _ _ l0_1 a1 a2 false _ (y3 HR0_0.out HB.out) a4.out (y3 HR0_1.out HB.out) a6.out A7.out).mono ?_); rintro e e0 ⟨rfl, hb⟩; replace a0 := ak (blk_below (g := a5) (o := .cells #[.slice A0_0 l0_0.length c0_0, .slice A0_1 l0_1.length c0_1] 26 (0, 0)) (xb a0.out) hb); replace HB := ak (below_step z1p_0 hb); (try clear hb); (try clear hb2); (try clear hk); (try clear hi))); try go_wp2_with (first | (go_at_call 64; (with_reducible refine (spec_l2Both.calls k _ _ l0_0 _ _ l0_1 a1 a2 false _ (y3 HR0_0.out HB.out) a4.out (y3 HR0_1.out HB.out) a6.out A7.out).mono ?_); rintro e e0 ⟨rfl, hb⟩; replace a0 := ak (blk_below (g := a5) (o := .cells #[.slice A0_0 l0_0.length c0_0, .slice A0_1 l0_1.length c0_1] 26 (0, 0)) (xb a0.out) hb); replace HB := ak (below_step z1p_0 hb); (try clear hb); (try clear hb2); (try clear hk); (try clear hi))))
  go_meet
  case rel => exact ⟨_, (true), (by first | rfl | (simp; done) | (simp [*]; done)), H', ⟨(by first | omega | exact Nat.le_refl _)⟩, ⟨(xb a0.out)⟩, ⟨z1p_0⟩⟩
 case rest =>
  clear d2
  obtain ⟨kq, b7, rfl, HA, e2, a0, HB⟩ := hcut
  cases kq with
  | zero => exact absurd HA.out (by simp [spec_SplitOk.j0])
  | succ b1 =>
   have H := HA.out
   clear HA
   simp only [spec_SplitOk.j0] at H
   replace H := ox_ H
   rcases H with ⟨rfl, H⟩ | ⟨rfl, H⟩
   ·
    obtain rfl := Option.some.inj H
    go_wp2
    repeat (go_quiet (fail); try go_wp2)
    go_ret
    exact ⟨(by first | rfl | (simp [errW_none, errW_some] <;> rfl) | (simp [*, errW_none, errW_some] <;> rfl)), z1p_0⟩
   obtain ⟨b3, d3, H⟩ := bd_ H
   obtain ⟨b9, d4, H⟩ := bd_ H
   obtain ⟨b4, d5, H⟩ := bd_ H
   obtain ⟨b5, d6, H⟩ := bd_ H
   obtain ⟨d0, d7, H⟩ := bd_ H
   try dsimp only at H
   obtain rfl := Option.some.inj H
   have a7 := cz20 a0.out
   have a8 := cz21 a0.out
   have a9 := blk_frozen a0.out 0
   have b0 := blk_frozen a0.out 1
   go_wp2_with (first | (go_at_call 65; (with_reducible refine (spec_l1Join.calls b1 _ _ l0_0 a2 a3 b3 _ (y3 HR0_0.out HB.out) a4.out d3.out).mono ?_); rintro e w' ⟨rfl, ⟨nd, rfl⟩⟩; (try first | exact ⟨rfl, _, World.drewN_drewN _ _ _⟩ | exact ⟨rfl, _, Eq.trans (World.drewN_drewN _ _ _) (congrArg (World.drewN _) (Nat.add_assoc _ _ _))⟩)) | (go_at_call 60; (with_reducible refine (spec_l1Meet.calls b1 _ _ l0_0 a1 b3 b9 _ z1p_1 a4.out d4.out).mono ?_); rintro e w' ⟨rfl, ⟨nd, rfl⟩⟩; (try first | exact ⟨rfl, _, World.drewN_drewN _ _ _⟩ | exact ⟨rfl, _, Eq.trans (World.drewN_drewN _ _ _) (congrArg (World.drewN _) (Nat.add_assoc _ _ _))⟩)) | (go_at_call 60; (with_reducible refine (spec_l1Meet.calls b1 _ _ l0_0 a1 a2 b4 _ z1p_1 a4.out d5.out).mono ?_); rintro e w' ⟨rfl, ⟨nd, rfl⟩⟩; (try first | exact ⟨rfl, _, World.drewN_drewN _ _ _⟩ | exact ⟨rfl, _, Eq.trans (World.drewN_drewN _ _ _) (congrArg (World.drewN _) (Nat.add_assoc _ _ _))⟩)) | (go_at_call 60; (with_reducible refine (spec_l1Meet.calls b1 _ _ l0_0 a1 a3 b5 _ z1p_1 a4.out d6.out).mono ?_); rintro e w' ⟨rfl, ⟨nd, rfl⟩⟩; (try first | exact ⟨rfl, _, World.drewN_drewN _ _ _⟩ | exact ⟨rfl, _, Eq.trans (World.drewN_drewN _ _ _) (congrArg (World.drewN _) (Nat.add_assoc _ _ _))⟩)) | (go_at_call 65; (with_reducible refine (spec_l1Join.calls b1 _ _ l0_0 b4 b5 d0 _ z1p_1 a4.out d7.out).mono ?_); rintro e w' ⟨rfl, ⟨nd, rfl⟩⟩; (try first | exact ⟨rfl, _, World.drewN_drewN _ _ _⟩ | exact ⟨rfl, _, Eq.trans (World.drewN_drewN _ _ _) (congrArg (World.drewN _) (Nat.add_assoc _ _ _))⟩)))
   repeat (go_quiet (first | (go_at_call 65; (with_reducible refine (spec_l1Join.calls b1 _ _ l0_0 a2 a3 b3 _ (y3 HR0_0.out HB.out) a4.out d3.out).mono ?_); rintro e w' ⟨rfl, ⟨nd, rfl⟩⟩; (try first | exact ⟨rfl, _, World.drewN_drewN _ _ _⟩ | exact ⟨rfl, _, Eq.trans (World.drewN_drewN _ _ _) (congrArg (World.drewN _) (Nat.add_assoc _ _ _))⟩)) | (go_at_call 60; (with_reducible refine (spec_l1Meet.calls b1 _ _ l0_0 a1 b3 b9 _ z1p_1 a4.out d4.out).mono ?_); rintro e w' ⟨rfl, ⟨nd, rfl⟩⟩; (try first | exact ⟨rfl, _, World.drewN_drewN _ _ _⟩ | exact ⟨rfl, _, Eq.trans (World.drewN_drewN _ _ _) (congrArg (World.drewN _) (Nat.add_assoc _ _ _))⟩)) | (go_at_call 60; (with_reducible refine (spec_l1Meet.calls b1 _ _ l0_0 a1 a2 b4 _ z1p_1 a4.out d5.out).mono ?_); rintro e w' ⟨rfl, ⟨nd, rfl⟩⟩; (try first | exact ⟨rfl, _, World.drewN_drewN _ _ _⟩ | exact ⟨rfl, _, Eq.trans (World.drewN_drewN _ _ _) (congrArg (World.drewN _) (Nat.add_assoc _ _ _))⟩)) | (go_at_call 60; (with_reducible refine (spec_l1Meet.calls b1 _ _ l0_0 a1 a3 b5 _ z1p_1 a4.out d6.out).mono ?_); rintro e w' ⟨rfl, ⟨nd, rfl⟩⟩; (try first | exact ⟨rfl, _, World.drewN_drewN _ _ _⟩ | exact ⟨rfl, _, Eq.trans (World.drewN_drewN _ _ _) (congrArg (World.drewN _) (Nat.add_assoc _ _ _))⟩)) | (go_at_call 65; (with_reducible refine (spec_l1Join.calls b1 _ _ l0_0 b4 b5 d0 _ z1p_1 a4.out d7.out).mono ?_); rintro e w' ⟨rfl, ⟨nd, rfl⟩⟩; (try first | exact ⟨rfl, _, World.drewN_drewN _ _ _⟩ | exact ⟨rfl, _, Eq.trans (World.drewN_drewN _ _ _) (congrArg (World.drewN _) (Nat.add_assoc _ _ _))⟩))); try go_wp2_with (first | (go_at_call 65; (with_reducible refine (spec_l1Join.calls b1 _ _ l0_0 a2 a3 b3 _ (y3 HR0_0.out HB.out) a4.out d3.out).mono ?_); rintro e w' ⟨rfl, ⟨nd, rfl⟩⟩; (try first | exact ⟨rfl, _, World.drewN_drewN _ _ _⟩ | exact ⟨rfl, _, Eq.trans (World.drewN_drewN _ _ _) (congrArg (World.drewN _) (Nat.add_assoc _ _ _))⟩)) | (go_at_call 60; (with_reducible refine (spec_l1Meet.calls b1 _ _ l0_0 a1 b3 b9 _ z1p_1 a4.out d4.out).mono ?_); rintro e w' ⟨rfl, ⟨nd, rfl⟩⟩; (try first | exact ⟨rfl, _, World.drewN_drewN _ _ _⟩ | exact ⟨rfl, _, Eq.trans (World.drewN_drewN _ _ _) (congrArg (World.drewN _) (Nat.add_assoc _ _ _))⟩)) | (go_at_call 60; (with_reducible refine (spec_l1Meet.calls b1 _ _ l0_0 a1 a2 b4 _ z1p_1 a4.out d5.out).mono ?_); rintro e w' ⟨rfl, ⟨nd, rfl⟩⟩; (try first | exact ⟨rfl, _, World.drewN_drewN _ _ _⟩ | exact ⟨rfl, _, Eq.trans (World.drewN_drewN _ _ _) (congrArg (World.drewN _) (Nat.add_assoc _ _ _))⟩)) | (go_at_call 60; (with_reducible refine (spec_l1Meet.calls b1 _ _ l0_0 a1 a3 b5 _ z1p_1 a4.out d6.out).mono ?_); rintro e w' ⟨rfl, ⟨nd, rfl⟩⟩; (try first | exact ⟨rfl, _, World.drewN_drewN _ _ _⟩ | exact ⟨rfl, _, Eq.trans (World.drewN_drewN _ _ _) (congrArg (World.drewN _) (Nat.add_assoc _ _ _))⟩)) | (go_at_call 65; (with_reducible refine (spec_l1Join.calls b1 _ _ l0_0 b4 b5 d0 _ z1p_1 a4.out d7.out).mono ?_); rintro e w' ⟨rfl, ⟨nd, rfl⟩⟩; (try first | exact ⟨rfl, _, World.drewN_drewN _ _ _⟩ | exact ⟨rfl, _, Eq.trans (World.drewN_drewN _ _ _) (congrArg (World.drewN _) (Nat.add_assoc _ _ _))⟩))))
   go_ret
   exact ⟨(by first | rfl | (simp [errW_none, errW_some] <;> rfl) | (simp [*, errW_none, errW_some] <;> rfl)), z1p_0⟩

end Go.Proofs.Ytjgfpiilfnchnaa.P
