-- written by gen.py (a program of this session) out of the kit's print of this seat's translation
import Derived.Test.YtacifhahfamipaaPk2
import Derived.Test.YtacifhahfamipaaPk3
import Derived.Test.YtacifhahfamipaaPk4
import Derived.Test.YtacifhahfamipaaFSpecSubOk
namespace Go.Proofs.Ytacifhahfamipaa.P
open Go.RowKit Go.Proofs.YtacifhahfamipaaW.PrintWords Go.Proofs.YtacifhahfamipaaW.PrintLast Go.Proofs.YtacifhahfamipaaW.PrintMore
attribute [local go_sem] max2_int min2_int max_two min_two max_three min_three max_four min_four
set_option linter.unusedVariables false
set_option linter.unusedSimpArgs false
theorem z1o_3 {p : Prop} (h : p := by have := d1.out; have := HK2.out; have := HK3.out; have := HK4.out; omega) : p := h
theorem z1o_2 {p : Prop} (h : p := by first | rfl | (simp; done) | (simp [*]; done)) : p := h
theorem z1o_1 {p : Prop} (h : p := by repeat (first | (with_reducible first | exact HB.out | apply below_alloc | apply pw_below_drewN | apply below_drew1) | exact HB.out)) : p := h
theorem z1o_0 {p : Prop} (h : p := by repeat (first | (with_reducible first | exact HB.out | apply below_alloc | apply pw_below_drewN | apply below_drew1 | refine below_set ?_ b6.out) | exact HB.out)) : p := h
set_option maxHeartbeats 8000000 in
set_option maxRecDepth 100000 in
theorem spec_MadeBy.calls (k : Nat) (A0_0 : Option Addr) (c0_0 : Nat) (l0_0 : List (List Int)) (A0_1 : Option Addr) (c0_1 : Nat) (l0_1 : List Int) (a1 : Int) (r : Int) (w : World) (hr0_0 : Kd.C (Kd.slice 3 (Kd.int .i64)) w A0_0 l0_0.length l0_0) (hc0_0 : l0_0.length ≤ c0_0) (hr0_1 : Kd.C (Kd.int .i64) w A0_1 l0_1.length l0_1) (hc0_1 : l0_1.length ≤ c0_1) (h : spec_MadeBy.f k l0_0 l0_1 a1 = some r) :
 Calls Try.prog 33 #[.agg #[.slice A0_0 l0_0.length c0_0, .slice A0_1 l0_1.length c0_1], .int .i64 a1] w fun e w' => e = .returned (.int .i64 r) ∧ Below w.heap.size w w' := by
 have hu27 := Try.underlying27
 have HR0_0 := ak hr0_0
 have a6 := ak hc0_0
 clear hr0_0 hc0_0
 have HR0_1 := ak hr0_1
 have a8 := ak hc0_1
 clear hr0_1 hc0_1
 have HB := ak (Below.refl w.heap.size w)
 have H : ((spec_LogicOk.f k l0_0 l0_1).bind fun d3 => (if d3 = true then ((spec_l1In.f a1 1 (wrap64 ((shl .i64 1 (l0_1.length : Int)) - 1))).bind fun b5 => (spec_MadeBy.j0 k a1 (l0_1.length : Int) (!b5) l0_0 l0_1)) else (spec_MadeBy.j0 k a1 (l0_1.length : Int) true l0_0 l0_1))) = some r := h
 clear h
 have e0 := ak H
 clear H
 go_enter Try.func33, Try.ntmps33
 go_upto_region 2 with (first | ((with_reducible refine gate_dst (N := 2) rfl ?_); refine bx_ (N := 2) (cs := #[.slice A0_0 l0_0.length c0_0, .slice A0_1 l0_1.length c0_1]) (t := 27) ?_; intro a3 hg w4 hbox hb; have a0 := ak (hbox); have b9 := ak ((by rw [hg]; exact (below_size z1o_1) : w.heap.size ≤ a3)); have b6 := ak ((by rw [hg]; exact (below_size z1o_1) : w.heap.size ≤ a3)); replace HB := ak (below_step z1o_1 hb); clear hb hbox hg; have a9 := cz20 a0.out; have b0 := cz21 a0.out; have b1 := blk_frozen a0.out 0; have b2 := blk_frozen a0.out 1))
 repeat (go_quiet (first | ((with_reducible refine gate_dst (N := 2) rfl ?_); refine bx_ (N := 2) (cs := #[.slice A0_0 l0_0.length c0_0, .slice A0_1 l0_1.length c0_1]) (t := 27) ?_; intro a3 hg w4 hbox hb; have a0 := ak (hbox); have b9 := ak ((by rw [hg]; exact (below_size z1o_1) : w.heap.size ≤ a3)); have b6 := ak ((by rw [hg]; exact (below_size z1o_1) : w.heap.size ≤ a3)); replace HB := ak (below_step z1o_1 hb); clear hb hbox hg; have a9 := cz20 a0.out; have b0 := cz21 a0.out; have b1 := blk_frozen a0.out 0; have b2 := blk_frozen a0.out 1)); go_upto_region 2 with (first | ((with_reducible refine gate_dst (N := 2) rfl ?_); refine bx_ (N := 2) (cs := #[.slice A0_0 l0_0.length c0_0, .slice A0_1 l0_1.length c0_1]) (t := 27) ?_; intro a3 hg w4 hbox hb; have a0 := ak (hbox); have b9 := ak ((by rw [hg]; exact (below_size z1o_1) : w.heap.size ≤ a3)); have b6 := ak ((by rw [hg]; exact (below_size z1o_1) : w.heap.size ≤ a3)); replace HB := ak (below_step z1o_1 hb); clear hb hbox hg; have a9 := cz20 a0.out; have b0 := cz21 a0.out; have b1 := blk_frozen a0.out 0; have b2 := blk_frozen a0.out 1)))
 (try simp only [Act.put, List.setIfInBounds_toArray, List.set_cons_zero, List.set_cons_succ])
 go_cut [23] (fun g0 wc => ∃ (kq : Nat) (b7 : Bool), g0 = .bool b7 ∧ Aside0 (spec_MadeBy.j0 kq a1 (l0_1.length : Int) b7 l0_0 l0_1 = some r) ∧ Aside0 (kq ≤ k) ∧ Aside0 (wc.heap[a3]? = some (.cells #[(.slice A0_0 l0_0.length c0_0), (.slice A0_1 l0_1.length c0_1)] 27 (0, 0))) ∧ Aside0 (Below w.heap.size w wc))
 case first =>
  have H := e0.out
  clear e0
  obtain ⟨d3, A6, H⟩ := bd_ H
  try dsimp only at H
  replace H := ox_ H
  rcases H with ⟨rfl, H⟩ | ⟨rfl, H⟩
  ·
   obtain ⟨ji8, hji8⟩ : ∃ j_ : Int, (shl .i64 1 (l0_1.length : Int)) = j_ := ⟨_, rfl⟩
   replace H : ((spec_l1In.f a1 1 (wrap64 ((ji8) - 1))).bind fun b5 => (spec_MadeBy.j0 k a1 (l0_1.length : Int) (!b5) l0_0 l0_1)) = some r := by first | (rw [hji8] at H; exact H) | (simp only [hji8] at H ⊢; exact H)
   (try rw [hji8] at A6)
   have hji8_ : (IntKind.i64.wrap (1 * 2 ^ min (l0_1.length : Int).toNat 64)) = ji8 := hji8
   have hji8z : (l0_1.length : Int) ≤ 64 → (IntKind.i64.wrap (1 * 2 ^ (l0_1.length : Int).toNat)) = ji8 := shl_small hji8
   have hji8p : (IntKind.i64.wrap (1 * 2 ^ min l0_1.length 64)) = ji8 := hji8_
   have hji8q : (l0_1.length : Int) ≤ 64 → (IntKind.i64.wrap (1 * 2 ^ l0_1.length)) = ji8 := hji8z
   have hji8r : (IntKind.i64.wrap (2 ^ min l0_1.length 64)) = ji8 := by have h_ := hji8p; rw [Int.one_mul] at h_; exact h_
   have hji8s : (l0_1.length : Int) ≤ 64 → (IntKind.i64.wrap (2 ^ l0_1.length)) = ji8 := fun hle_ => by have h_ := hji8q hle_; rw [Int.one_mul] at h_; exact h_
   have hji8u : (IntKind.i64.wrap (2 ^ min (l0_1.length : Int).toNat 64)) = ji8 := by have h_ := hji8_; rw [Int.one_mul] at h_; exact h_
   have hji8v : (l0_1.length : Int) ≤ 64 → (IntKind.i64.wrap (2 ^ (l0_1.length : Int).toNat)) = ji8 := fun hle_ => by have h_ := hji8z hle_; rw [Int.one_mul] at h_; exact h_
   have hji8y : (wrap64 (1 * 2 ^ min (l0_1.length : Int).toNat 64)) = ji8 := (i64_w _).symm.trans hji8_
   have hji8x : (l0_1.length : Int) ≤ 64 → (wrap64 (1 * 2 ^ (l0_1.length : Int).toNat)) = ji8 := fun h_ => (i64_w _).symm.trans (hji8z h_)
   obtain ⟨b5, A9, H⟩ := bd_ H
   try dsimp only at H
   have H' := ak H
   clear H
   have a9 := cz20 a0.out
   have b0 := cz21 a0.out
   have b1 := blk_frozen a0.out 0
   have b2 := blk_frozen a0.out 1
   go_wp2_with (first | (go_at_call 30; (with_reducible refine (spec_LogicOk.calls k _ _ l0_0 _ _ l0_1 true _ (y3 HR0_0.out HB.out) a6.out (y3 HR0_1.out HB.out) a8.out A6.out).mono ?_); rintro e e5 ⟨rfl, hb⟩; replace a0 := ak (blk_below (g := a3) (o := .cells #[.slice A0_0 l0_0.length c0_0, .slice A0_1 l0_1.length c0_1] 27 (0, 0)) (xb a0.out) hb); replace HB := ak (below_step z1o_0 hb); (try clear hb); (try clear hb2); (try clear hk); (try clear hi)) | (go_at_call 72; (with_reducible refine (spec_l1In.calls a1 1 (wrap64 ((ji8) - 1)) b5 _ A9.out).mono ?_); rintro e w' ⟨rfl, ⟨nd, rfl⟩⟩; (try first | exact ⟨rfl, _, World.drewN_drewN _ _ _⟩ | exact ⟨rfl, _, Eq.trans (World.drewN_drewN _ _ _) (congrArg (World.drewN _) (Nat.add_assoc _ _ _))⟩)))
   repeat (go_quiet (first | (go_at_call 30; (with_reducible refine (spec_LogicOk.calls k _ _ l0_0 _ _ l0_1 true _ (y3 HR0_0.out HB.out) a6.out (y3 HR0_1.out HB.out) a8.out A6.out).mono ?_); rintro e e5 ⟨rfl, hb⟩; replace a0 := ak (blk_below (g := a3) (o := .cells #[.slice A0_0 l0_0.length c0_0, .slice A0_1 l0_1.length c0_1] 27 (0, 0)) (xb a0.out) hb); replace HB := ak (below_step z1o_0 hb); (try clear hb); (try clear hb2); (try clear hk); (try clear hi)) | (go_at_call 72; (with_reducible refine (spec_l1In.calls a1 1 (wrap64 ((ji8) - 1)) b5 _ A9.out).mono ?_); rintro e w' ⟨rfl, ⟨nd, rfl⟩⟩; (try first | exact ⟨rfl, _, World.drewN_drewN _ _ _⟩ | exact ⟨rfl, _, Eq.trans (World.drewN_drewN _ _ _) (congrArg (World.drewN _) (Nat.add_assoc _ _ _))⟩))); try go_wp2_with (first | (go_at_call 30; (with_reducible refine (spec_LogicOk.calls k _ _ l0_0 _ _ l0_1 true _ (y3 HR0_0.out HB.out) a6.out (y3 HR0_1.out HB.out) a8.out A6.out).mono ?_); rintro e e5 ⟨rfl, hb⟩; replace a0 := ak (blk_below (g := a3) (o := .cells #[.slice A0_0 l0_0.length c0_0, .slice A0_1 l0_1.length c0_1] 27 (0, 0)) (xb a0.out) hb); replace HB := ak (below_step z1o_0 hb); (try clear hb); (try clear hb2); (try clear hk); (try clear hi)) | (go_at_call 72; (with_reducible refine (spec_l1In.calls a1 1 (wrap64 ((ji8) - 1)) b5 _ A9.out).mono ?_); rintro e w' ⟨rfl, ⟨nd, rfl⟩⟩; (try first | exact ⟨rfl, _, World.drewN_drewN _ _ _⟩ | exact ⟨rfl, _, Eq.trans (World.drewN_drewN _ _ _) (congrArg (World.drewN _) (Nat.add_assoc _ _ _))⟩))))
   go_meet
   case rel => exact ⟨_, (!b5), z1o_2, H', ⟨(by first | omega | exact Nat.le_refl _)⟩, ⟨(xb a0.out)⟩, ⟨z1o_0⟩⟩
  have H' := ak H
  clear H
  have a9 := cz20 a0.out
  have b0 := cz21 a0.out
  have b1 := blk_frozen a0.out 0
  have b2 := blk_frozen a0.out 1
  go_wp2_with (first | (go_at_call 30; (with_reducible refine (spec_LogicOk.calls k _ _ l0_0 _ _ l0_1 false _ (y3 HR0_0.out HB.out) a6.out (y3 HR0_1.out HB.out) a8.out A6.out).mono ?_); rintro e e6 ⟨rfl, hb⟩; replace a0 := ak (blk_below (g := a3) (o := .cells #[.slice A0_0 l0_0.length c0_0, .slice A0_1 l0_1.length c0_1] 27 (0, 0)) (xb a0.out) hb); replace HB := ak (below_step z1o_0 hb); (try clear hb); (try clear hb2); (try clear hk); (try clear hi)))
  repeat (go_quiet (first | (go_at_call 30; (with_reducible refine (spec_LogicOk.calls k _ _ l0_0 _ _ l0_1 false _ (y3 HR0_0.out HB.out) a6.out (y3 HR0_1.out HB.out) a8.out A6.out).mono ?_); rintro e e6 ⟨rfl, hb⟩; replace a0 := ak (blk_below (g := a3) (o := .cells #[.slice A0_0 l0_0.length c0_0, .slice A0_1 l0_1.length c0_1] 27 (0, 0)) (xb a0.out) hb); replace HB := ak (below_step z1o_0 hb); (try clear hb); (try clear hb2); (try clear hk); (try clear hi))); try go_wp2_with (first | (go_at_call 30; (with_reducible refine (spec_LogicOk.calls k _ _ l0_0 _ _ l0_1 false _ (y3 HR0_0.out HB.out) a6.out (y3 HR0_1.out HB.out) a8.out A6.out).mono ?_); rintro e e6 ⟨rfl, hb⟩; replace a0 := ak (blk_below (g := a3) (o := .cells #[.slice A0_0 l0_0.length c0_0, .slice A0_1 l0_1.length c0_1] 27 (0, 0)) (xb a0.out) hb); replace HB := ak (below_step z1o_0 hb); (try clear hb); (try clear hb2); (try clear hk); (try clear hi))))
  go_meet
  case rel => exact ⟨_, (true), z1o_2, H', ⟨(by first | omega | exact Nat.le_refl _)⟩, ⟨(xb a0.out)⟩, ⟨z1o_0⟩⟩
 case rest =>
  clear e0
  try clear a9
  try clear b0
  try clear b1
  try clear b2
  obtain ⟨kq, b7, rfl, HA, d1, a0, HB⟩ := hcut
  cases kq with
  | zero => exact absurd HA.out (by simp [spec_MadeBy.j0])
  | succ e7 =>
   have H := HA.out
   clear HA
   simp only [spec_MadeBy.j0] at H
   replace H := ox_ H
   rcases H with ⟨rfl, H⟩ | ⟨rfl, H⟩
   ·
    obtain rfl := Option.some.inj H
    go_wp2
    repeat (go_quiet (fail); try go_wp2)
    go_ret
    exact ⟨(by first | rfl | (simp [errW_none, errW_some] <;> rfl) | (simp [*, errW_none, errW_some] <;> rfl)), z1o_0⟩
   have H' := ak H
   clear H
   go_wp2
   repeat (go_quiet (fail); try go_wp2)
   go_loopg [6] e7 (fun kq v6 w' => ∃ (a4 : Int), v6 = .int .i64 a4 ∧ Aside0 (spec_MadeBy.l0 kq (l0_1.length : Int) a4 l0_0 l0_1 = some r) ∧ Aside0 (kq ≤ e7) ∧ Aside0 (w'.heap[a3]? = some (.cells #[(.slice A0_0 l0_0.length c0_0), (.slice A0_1 l0_1.length c0_1)] 27 (0, 0))) ∧ Aside0 (Below w.heap.size w w'))
   case atStart => exact ⟨(a1), z1o_2, H', ⟨Nat.le_refl _⟩, ⟨(xb a0.out)⟩, ⟨z1o_0⟩⟩
   case round =>
    clear H'
    try clear e8
    try clear a9
    try clear b0
    try clear b1
    try clear b2
    obtain ⟨a4, rfl, HA, HK2, a0, HB⟩ := hrel
    cases gk with
    | zero => exact absurd HA.out (by simp [spec_MadeBy.l0])
    | succ k2 =>
     have H := HA.out
     clear HA
     simp only [spec_MadeBy.l0] at H
     obtain ⟨g1, d2, H⟩ := bd_ H
     try dsimp only at H
     replace H := ox_ H
     rcases H with ⟨rfl, H⟩ | ⟨rfl, H⟩
     ·
      obtain rfl := Option.some.inj H
      have a9 := cz20 a0.out
      have b0 := cz21 a0.out
      have b1 := blk_frozen a0.out 0
      have b2 := blk_frozen a0.out 1
      go_wp2_with (first | (go_at_call 36; (with_reducible refine (spec_SubOk.calls k2 _ _ l0_0 _ _ l0_1 a4 true _ (y3 HR0_0.out HB.out) a6.out (y3 HR0_1.out HB.out) a8.out d2.out).mono ?_); rintro e e9 ⟨rfl, hb⟩; replace a0 := ak (blk_below (g := a3) (o := .cells #[.slice A0_0 l0_0.length c0_0, .slice A0_1 l0_1.length c0_1] 27 (0, 0)) (xb a0.out) hb); replace HB := ak (below_step z1o_0 hb); (try clear hb); (try clear hb2); (try clear hk); (try clear hi)))
      repeat (go_quiet (first | (go_at_call 36; (with_reducible refine (spec_SubOk.calls k2 _ _ l0_0 _ _ l0_1 a4 true _ (y3 HR0_0.out HB.out) a6.out (y3 HR0_1.out HB.out) a8.out d2.out).mono ?_); rintro e e9 ⟨rfl, hb⟩; replace a0 := ak (blk_below (g := a3) (o := .cells #[.slice A0_0 l0_0.length c0_0, .slice A0_1 l0_1.length c0_1] 27 (0, 0)) (xb a0.out) hb); replace HB := ak (below_step z1o_0 hb); (try clear hb); (try clear hb2); (try clear hk); (try clear hi))); try go_wp2_with (first | (go_at_call 36; (with_reducible refine (spec_SubOk.calls k2 _ _ l0_0 _ _ l0_1 a4 true _ (y3 HR0_0.out HB.out) a6.out (y3 HR0_1.out HB.out) a8.out d2.out).mono ?_); rintro e e9 ⟨rfl, hb⟩; replace a0 := ak (blk_below (g := a3) (o := .cells #[.slice A0_0 l0_0.length c0_0, .slice A0_1 l0_1.length c0_1] 27 (0, 0)) (xb a0.out) hb); replace HB := ak (below_step z1o_0 hb); (try clear hb); (try clear hb2); (try clear hk); (try clear hi))))
      go_ret
      exact ⟨(by first | rfl | (simp [errW_none, errW_some] <;> rfl) | (simp [*, errW_none, errW_some] <;> rfl)), z1o_0⟩
     have H' := ak H
     clear H
     have a9 := cz20 a0.out
     have b0 := cz21 a0.out
     have b1 := blk_frozen a0.out 0
     have b2 := blk_frozen a0.out 1
     go_wp2_with (first | (go_at_call 36; (with_reducible refine (spec_SubOk.calls k2 _ _ l0_0 _ _ l0_1 a4 false _ (y3 HR0_0.out HB.out) a6.out (y3 HR0_1.out HB.out) a8.out d2.out).mono ?_); rintro e f0 ⟨rfl, hb⟩; replace a0 := ak (blk_below (g := a3) (o := .cells #[.slice A0_0 l0_0.length c0_0, .slice A0_1 l0_1.length c0_1] 27 (0, 0)) (xb a0.out) hb); replace HB := ak (below_step z1o_0 hb); (try clear hb); (try clear hb2); (try clear hk); (try clear hi)))
     repeat (go_quiet (first | (go_at_call 36; (with_reducible refine (spec_SubOk.calls k2 _ _ l0_0 _ _ l0_1 a4 false _ (y3 HR0_0.out HB.out) a6.out (y3 HR0_1.out HB.out) a8.out d2.out).mono ?_); rintro e f0 ⟨rfl, hb⟩; replace a0 := ak (blk_below (g := a3) (o := .cells #[.slice A0_0 l0_0.length c0_0, .slice A0_1 l0_1.length c0_1] 27 (0, 0)) (xb a0.out) hb); replace HB := ak (below_step z1o_0 hb); (try clear hb); (try clear hb2); (try clear hk); (try clear hi))); try go_wp2_with (first | (go_at_call 36; (with_reducible refine (spec_SubOk.calls k2 _ _ l0_0 _ _ l0_1 a4 false _ (y3 HR0_0.out HB.out) a6.out (y3 HR0_1.out HB.out) a8.out d2.out).mono ?_); rintro e f0 ⟨rfl, hb⟩; replace a0 := ak (blk_below (g := a3) (o := .cells #[.slice A0_0 l0_0.length c0_0, .slice A0_1 l0_1.length c0_1] 27 (0, 0)) (xb a0.out) hb); replace HB := ak (below_step z1o_0 hb); (try clear hb); (try clear hb2); (try clear hk); (try clear hi))))
     go_loopg [7, 8] k2 (fun kq v7 v8 w' => ∃ (b8 : Int) (a2 : Int), v7 = .int .i64 b8 ∧ v8 = .int .i64 a2 ∧ Aside0 (spec_MadeBy.l1 kq (l0_1.length : Int) a4 b8 a2 l0_0 l0_1 = some r) ∧ Aside0 (kq ≤ k2) ∧ Aside0 (w'.heap[a3]? = some (.cells #[(.slice A0_0 l0_0.length c0_0), (.slice A0_1 l0_1.length c0_1)] 27 (0, 0))) ∧ Aside0 (Below w.heap.size w w'))
     case atStart => exact ⟨(a4), (0), z1o_2, z1o_2, H', ⟨Nat.le_refl _⟩, ⟨(xb a0.out)⟩, ⟨z1o_0⟩⟩
     case round =>
      clear H'
      try clear e8
      try clear g2
      try clear a9
      try clear b0
      try clear b1
      try clear b2
      obtain ⟨b8, a2, rfl, rfl, HA, HK3, a0, HB⟩ := hrel
      cases gk with
      | zero => exact absurd HA.out (by simp [spec_MadeBy.l1])
      | succ k3 =>
       have H := HA.out
       clear HA
       simp only [spec_MadeBy.l1] at H
       replace H := os_ H
       rcases H with ⟨d0, H⟩ | ⟨d0, H⟩
       ·
        have H' := ak H
        clear H
        go_wp2
        repeat (go_quiet (fail); try go_wp2)
        go_loopg [7, 9] k3 (fun kq v7 v9 w' => ∃ (b3 : Int) (a5 : Int), v7 = .int .i64 b3 ∧ v9 = .int .i64 a5 ∧ Aside0 (spec_MadeBy.l2 kq (l0_1.length : Int) a4 b3 a2 a5 l0_0 l0_1 = some r) ∧ Aside0 (kq ≤ k3) ∧ Aside0 (w'.heap[a3]? = some (.cells #[(.slice A0_0 l0_0.length c0_0), (.slice A0_1 l0_1.length c0_1)] 27 (0, 0))) ∧ Aside0 (Below w.heap.size w w'))
        case atStart => exact ⟨(b8), (0), z1o_2, z1o_2, H', ⟨Nat.le_refl _⟩, ⟨(xb a0.out)⟩, ⟨z1o_0⟩⟩
        case round =>
         clear H'
         try clear e8
         try clear g2
         try clear g3
         try clear d0
         try clear a9
         try clear b0
         try clear b1
         try clear b2
         obtain ⟨b3, a5, rfl, rfl, HA, HK4, a0, HB⟩ := hrel
         cases gk with
         | zero => exact absurd HA.out (by simp [spec_MadeBy.l2])
         | succ k4 =>
          have H := HA.out
          clear HA
          simp only [spec_MadeBy.l2] at H
          replace H := os_ H
          rcases H with ⟨d4, H⟩ | ⟨d4, H⟩
          ·
           replace H := ok_ H
           obtain ⟨e1, H⟩ := H
           have f1 := eq_true e1
           have f2 : decide (0 ≤ a2) = true := dT_ e1
           clear e1
           obtain ⟨ji24, hji24⟩ : ∃ j_ : Int, (shr .i64 a4 a2) = j_ := ⟨_, rfl⟩
           replace H : (if (Int.tmod (ji24) 2) = 1 then (if 0 ≤ a5 then (if (Int.tmod (shr .i64 a4 a5) 2) = 1 then ((spec_l1Meet.f k4 l0_0 a2 a5).bind fun a7 => (if 0 ≤ a7 then (if a2 < (l0_1.length : Int) then (if 0 ≤ (rd l0_1 a2) then (spec_MadeBy.l2 k4 (l0_1.length : Int) a4 (Go.bits .or .i64 (Go.bits .or .i64 b3 (shl .i64 1 a7)) (shl .i64 1 (rd l0_1 a2))) a2 (wrap64 (a5 + 1)) l0_0 l0_1) else (none)) else (none)) else (none))) else (spec_MadeBy.l2 k4 (l0_1.length : Int) a4 b3 a2 (wrap64 (a5 + 1)) l0_0 l0_1)) else (none)) else (spec_MadeBy.l2 k4 (l0_1.length : Int) a4 b3 a2 (wrap64 (a5 + 1)) l0_0 l0_1)) = some r := by first | (rw [hji24] at H; exact H) | (simp only [hji24] at H ⊢; exact H)
           have hji24_ : (a4 / 2 ^ min a2.toNat 64) = ji24 := hji24
           have hji24z : a2 ≤ 64 → (a4 / 2 ^ a2.toNat) = ji24 := shr_small hji24
           replace H := oe2 H
           rcases H with ⟨⟨-, d5, d6⟩, H⟩ | ⟨⟨g4, d5, d6⟩, H⟩
           ·
            replace H := ok_ H
            obtain ⟨e2, H⟩ := H
            have f3 := eq_true e2
            have f4 : decide (0 ≤ a5) = true := dT_ e2
            clear e2
            obtain ⟨ji27, hji27⟩ : ∃ j_ : Int, (shr .i64 a4 a5) = j_ := ⟨_, rfl⟩
            replace H : (if (Int.tmod (ji27) 2) = 1 then ((spec_l1Meet.f k4 l0_0 a2 a5).bind fun a7 => (if 0 ≤ a7 then (if a2 < (l0_1.length : Int) then (if 0 ≤ (rd l0_1 a2) then (spec_MadeBy.l2 k4 (l0_1.length : Int) a4 (Go.bits .or .i64 (Go.bits .or .i64 b3 (shl .i64 1 a7)) (shl .i64 1 (rd l0_1 a2))) a2 (wrap64 (a5 + 1)) l0_0 l0_1) else (none)) else (none)) else (none))) else (spec_MadeBy.l2 k4 (l0_1.length : Int) a4 b3 a2 (wrap64 (a5 + 1)) l0_0 l0_1)) = some r := by first | (rw [hji27] at H; exact H) | (simp only [hji27] at H ⊢; exact H)
            have hji27_ : (a4 / 2 ^ min a5.toNat 64) = ji27 := hji27
            have hji27z : a5 ≤ 64 → (a4 / 2 ^ a5.toNat) = ji27 := shr_small hji27
            replace H := oe2 H
            rcases H with ⟨⟨-, d7, d8⟩, H⟩ | ⟨⟨g5, d7, d8⟩, H⟩
            ·
             obtain ⟨a7, d9, H⟩ := bd_ H
             replace H := ok_ H
             obtain ⟨e3, H⟩ := H
             have f5 := eq_true e3
             have f6 : decide (0 ≤ a7) = true := dT_ e3
             clear e3
             obtain ⟨ji31, hji31⟩ : ∃ j_ : Int, (shl .i64 1 a7) = j_ := ⟨_, rfl⟩
             replace H : (if a2 < (l0_1.length : Int) then (if 0 ≤ (rd l0_1 a2) then (spec_MadeBy.l2 k4 (l0_1.length : Int) a4 (Go.bits .or .i64 (Go.bits .or .i64 b3 (ji31)) (shl .i64 1 (rd l0_1 a2))) a2 (wrap64 (a5 + 1)) l0_0 l0_1) else (none)) else (none)) = some r := by first | (rw [hji31] at H; exact H) | (simp only [hji31] at H ⊢; exact H)
             (try rw [hji31] at d9)
             have hji31_ : (IntKind.i64.wrap (1 * 2 ^ min a7.toNat 64)) = ji31 := hji31
             have hji31z : a7 ≤ 64 → (IntKind.i64.wrap (1 * 2 ^ a7.toNat)) = ji31 := shl_small hji31
             have hji31u : (IntKind.i64.wrap (2 ^ min a7.toNat 64)) = ji31 := by have h_ := hji31_; rw [Int.one_mul] at h_; exact h_
             have hji31v : a7 ≤ 64 → (IntKind.i64.wrap (2 ^ a7.toNat)) = ji31 := fun hle_ => by have h_ := hji31z hle_; rw [Int.one_mul] at h_; exact h_
             have hji31y : (wrap64 (1 * 2 ^ min a7.toNat 64)) = ji31 := (i64_w _).symm.trans hji31_
             have hji31x : a7 ≤ 64 → (wrap64 (1 * 2 ^ a7.toNat)) = ji31 := fun h_ => (i64_w _).symm.trans (hji31z h_)
             replace H := od_ H
             obtain ⟨f7, H⟩ := H
             replace H := ok_ H
             obtain ⟨e4, H⟩ := H
             have f8 := eq_true e4
             have f9 : decide (0 ≤ (rd l0_1 a2)) = true := dT_ e4
             clear e4
             obtain ⟨ji34, hji34⟩ : ∃ j_ : Int, (shl .i64 1 (rd l0_1 a2)) = j_ := ⟨_, rfl⟩
             replace H : (spec_MadeBy.l2 k4 (l0_1.length : Int) a4 (Go.bits .or .i64 (Go.bits .or .i64 b3 (ji31)) (ji34)) a2 (wrap64 (a5 + 1)) l0_0 l0_1) = some r := by first | (rw [hji34] at H; exact H) | (simp only [hji34] at H ⊢; exact H)
             (try rw [hji34] at d9)
             have hji34_ : (IntKind.i64.wrap (1 * 2 ^ min (rd l0_1 a2).toNat 64)) = ji34 := hji34
             have hji34z : (rd l0_1 a2) ≤ 64 → (IntKind.i64.wrap (1 * 2 ^ (rd l0_1 a2).toNat)) = ji34 := shl_small hji34
             have hji34u : (IntKind.i64.wrap (2 ^ min (rd l0_1 a2).toNat 64)) = ji34 := by have h_ := hji34_; rw [Int.one_mul] at h_; exact h_
             have hji34v : (rd l0_1 a2) ≤ 64 → (IntKind.i64.wrap (2 ^ (rd l0_1 a2).toNat)) = ji34 := fun hle_ => by have h_ := hji34z hle_; rw [Int.one_mul] at h_; exact h_
             have hji34y : (wrap64 (1 * 2 ^ min (rd l0_1 a2).toNat 64)) = ji34 := (i64_w _).symm.trans hji34_
             have hji34x : (rd l0_1 a2) ≤ 64 → (wrap64 (1 * 2 ^ (rd l0_1 a2).toNat)) = ji34 := fun h_ => (i64_w _).symm.trans (hji34z h_)
             have H' := ak H
             clear H
             have a9 := cz20 a0.out
             have b0 := cz21 a0.out
             have b1 := blk_frozen a0.out 0
             have b2 := blk_frozen a0.out 1
             go_wp2_with (first | (go_at_call 77; (with_reducible refine (spec_l1Meet.calls k4 _ _ l0_0 a2 a5 a7 _ (y3 HR0_0.out HB.out) a6.out d9.out).mono ?_); rintro e w' ⟨rfl, ⟨nd, rfl⟩⟩; (try first | exact ⟨rfl, _, World.drewN_drewN _ _ _⟩ | exact ⟨rfl, _, Eq.trans (World.drewN_drewN _ _ _) (congrArg (World.drewN _) (Nat.add_assoc _ _ _))⟩); have b4 : 0 ≤ (a2 : Int) := oa_; have q700 : a2 < (l0_1.length : Int) := oa_; obtain ⟨ad700, e700, hx700_0⟩ := Kd.at_int HR0_1.out a2 b4 q700; cases e700; replace hx700_0 := (HB.out.cell (World.block_lt_of_cell? w _ hx700_0)).trans hx700_0; replace b4 := eq_true b4; replace q700 := eq_true q700))
             repeat (go_quiet (first | (go_at_call 77; (with_reducible refine (spec_l1Meet.calls k4 _ _ l0_0 a2 a5 a7 _ (y3 HR0_0.out HB.out) a6.out d9.out).mono ?_); rintro e w' ⟨rfl, ⟨nd, rfl⟩⟩; (try first | exact ⟨rfl, _, World.drewN_drewN _ _ _⟩ | exact ⟨rfl, _, Eq.trans (World.drewN_drewN _ _ _) (congrArg (World.drewN _) (Nat.add_assoc _ _ _))⟩); have b4 : 0 ≤ (a2 : Int) := oa_; have q700 : a2 < (l0_1.length : Int) := oa_; obtain ⟨ad700, e700, hx700_0⟩ := Kd.at_int HR0_1.out a2 b4 q700; cases e700; replace hx700_0 := (HB.out.cell (World.block_lt_of_cell? w _ hx700_0)).trans hx700_0; replace b4 := eq_true b4; replace q700 := eq_true q700)); try go_wp2_with (first | (go_at_call 77; (with_reducible refine (spec_l1Meet.calls k4 _ _ l0_0 a2 a5 a7 _ (y3 HR0_0.out HB.out) a6.out d9.out).mono ?_); rintro e w' ⟨rfl, ⟨nd, rfl⟩⟩; (try first | exact ⟨rfl, _, World.drewN_drewN _ _ _⟩ | exact ⟨rfl, _, Eq.trans (World.drewN_drewN _ _ _) (congrArg (World.drewN _) (Nat.add_assoc _ _ _))⟩); have b4 : 0 ≤ (a2 : Int) := oa_; have q700 : a2 < (l0_1.length : Int) := oa_; obtain ⟨ad700, e700, hx700_0⟩ := Kd.at_int HR0_1.out a2 b4 q700; cases e700; replace hx700_0 := (HB.out.cell (World.block_lt_of_cell? w _ hx700_0)).trans hx700_0; replace b4 := eq_true b4; replace q700 := eq_true q700)))
             go_roundg k4
             case measure => have := d1.out; have := HK2.out; have := HK3.out; have := HK4.out; omega
             case rel => exact ⟨(Go.bits .or .i64 (Go.bits .or .i64 b3 (ji31)) (ji34)), (wrap64 (a5 + 1)), (by first | rfl | (simp; done) | (simp only [← hji31, ← hji34] <;> (first | rfl | simp)) | (simp [*]; done)), z1o_2, H', ⟨z1o_3⟩, ⟨(xb a0.out)⟩, ⟨z1o_0⟩⟩
            have H' := ak H
            clear H
            go_wp2
            repeat (go_quiet (fail); try go_wp2)
            go_roundg k4
            case measure => have := d1.out; have := HK2.out; have := HK3.out; have := HK4.out; omega
            case rel => exact ⟨(b3), (wrap64 (a5 + 1)), z1o_2, z1o_2, H', ⟨z1o_3⟩, ⟨(xb a0.out)⟩, ⟨z1o_0⟩⟩
           have H' := ak H
           clear H
           go_wp2
           repeat (go_quiet (fail); try go_wp2)
           go_roundg k4
           case measure => have := d1.out; have := HK2.out; have := HK3.out; have := HK4.out; omega
           case rel => exact ⟨(b3), (wrap64 (a5 + 1)), z1o_2, z1o_2, H', ⟨z1o_3⟩, ⟨(xb a0.out)⟩, ⟨z1o_0⟩⟩
          have H' := ak H
          clear H
          go_wp2
          repeat (go_quiet (fail); try go_wp2)
          go_roundg k4
          case measure => have := d1.out; have := HK2.out; have := HK3.out; have := HK4.out; omega
          case rel => exact ⟨(b3), (wrap64 (a2 + 1)), z1o_2, z1o_2, H', ⟨z1o_3⟩, ⟨(xb a0.out)⟩, ⟨z1o_0⟩⟩
       have H' := ak H
       clear H
       go_wp2
       repeat (go_quiet (fail); try go_wp2)
       go_roundg k3
       case measure => have := d1.out; have := HK2.out; have := HK3.out; omega
       case rel => exact ⟨(b8), z1o_2, H', ⟨(by have := d1.out; have := HK2.out; have := HK3.out; omega)⟩, ⟨(xb a0.out)⟩, ⟨z1o_0⟩⟩

end Go.Proofs.Ytacifhahfamipaa.P
