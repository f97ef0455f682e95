-- written by gen.py (a program of this session) out of the kit's print of this seat's translation
import Derived.Test.YtjgfpiilfnchnaaPk2
import Derived.Test.YtjgfpiilfnchnaaFSpecL5With
import Derived.Test.YtjgfpiilfnchnaaPk4
namespace Go.Proofs.Ytjgfpiilfnchnaa.P
open Go.RowKit Go.Proofs.YtjgfpiilfnchnaaW.PrintWords Go.Proofs.YtjgfpiilfnchnaaW.PrintLast Go.Proofs.YtjgfpiilfnchnaaW.PrintMore
attribute [local go_sem] max2_int min2_int max_two min_two max_three min_three max_four min_four
set_option linter.unusedVariables false
set_option linter.unusedSimpArgs false
theorem zp_2 {p : Prop} (h : p := by first | rfl | (simp; done) | (simp [*]; done)) : p := h
theorem zp_1 {p : Prop} (h : p := by repeat (first | (with_reducible first | exact HB.out | apply below_alloc | apply pw_below_drewN | apply below_drew1) | exact HB.out)) : p := h
theorem zp_0 {p : Prop} (h : p := by repeat (first | (with_reducible first | exact HB.out | apply below_alloc | apply pw_below_drewN | apply below_drew1 | refine below_set ?_ b3.out) | exact HB.out)) : p := h
set_option maxHeartbeats 8000000 in
set_option maxRecDepth 100000 in
theorem spec_BothWaysOk.calls (k : Nat) (A0_0 : Option Addr) (c0_0 : Nat) (l0_0 : List (List Int)) (A0_1 : Option Addr) (c0_1 : Nat) (l0_1 : List Int) (r : Bool) (w : World) (hr0_0 : Kd.C (Kd.slice 3 (Kd.int .i64)) w A0_0 l0_0.length l0_0) (hc0_0 : l0_0.length ≤ c0_0) (hr0_1 : Kd.C (Kd.int .i64) w A0_1 l0_1.length l0_1) (hc0_1 : l0_1.length ≤ c0_1) (h : spec_BothWaysOk.f k l0_0 l0_1 = some r) :
 Calls Try.prog 40 #[.agg #[.slice A0_0 l0_0.length c0_0, .slice A0_1 l0_1.length c0_1]] w fun e w' => e = .returned (.bool r) ∧ Below w.heap.size w w' := by
 have hu26 := Try.underlying26
 have HR0_0 := ak hr0_0
 have a8 := ak hc0_0
 clear hr0_0 hc0_0
 have HR0_1 := ak hr0_1
 have a9 := ak hc0_1
 clear hr0_1 hc0_1
 have HB := ak (Below.refl w.heap.size w)
 have H : (spec_BothWaysOk.l0 k 0 l0_0 l0_1) = some r := h
 clear h
 have H' := ak H
 clear H
 go_enter Try.func40, Try.ntmps40
 go_wp2_with (first | ((with_reducible refine gate_dst (N := 1) rfl ?_); refine bx_ (N := 1) (cs := #[.slice A0_0 l0_0.length c0_0, .slice A0_1 l0_1.length c0_1]) (t := 26) ?_; intro a1 hg w2 hbox hb; have a0 := ak (hbox); have d0 := ak ((by rw [hg]; exact (below_size zp_1) : w.heap.size ≤ a1)); have b3 := ak ((by rw [hg]; exact (below_size zp_1) : w.heap.size ≤ a1)); replace HB := ak (below_step zp_1 hb); clear hb hbox hg))
 go_loopg [3] k (fun kq v3 w' => ∃ (a2 : Int), v3 = .int .i64 a2 ∧ Aside0 (spec_BothWaysOk.l0 kq a2 l0_0 l0_1 = some r) ∧ Aside0 (kq ≤ k) ∧ Aside0 (w'.heap[a1]? = some (.cells #[(.slice A0_0 l0_0.length c0_0), (.slice A0_1 l0_1.length c0_1)] 26 (0, 0))) ∧ Aside0 (Below w.heap.size w w'))
 case atStart => exact ⟨(0), zp_2, H', ⟨Nat.le_refl _⟩, ⟨(xb a0.out)⟩, ⟨zp_0⟩⟩
 case round =>
  clear H'
  obtain ⟨a2, rfl, HA, HK1, a0, HB⟩ := hrel
  cases gk with
  | zero => exact absurd HA.out (by simp [spec_BothWaysOk.l0])
  | succ k1 =>
   have H := HA.out
   clear HA
   simp only [spec_BothWaysOk.l0] at H
   have b6 := ak H
   clear H
   go_upto_region 2 with (fail)
   go_cut [13] (fun d2 wc => ∃ (kq : Nat) (b0 : Bool), d2 = .bool b0 ∧ Aside0 (spec_BothWaysOk.j1 kq a2 b0 l0_0 l0_1 = some r) ∧ Aside0 (kq ≤ k1) ∧ Aside0 (wc.heap[a1]? = some (.cells #[(.slice A0_0 l0_0.length c0_0), (.slice A0_1 l0_1.length c0_1)] 26 (0, 0))) ∧ Aside0 (Below w.heap.size w wc))
   case first =>
    have H := b6.out
    clear b6
    replace H := os_ H
    rcases H with ⟨b1, H⟩ | ⟨b1, H⟩
    ·
     (first | rw [b1] | (simp only [i64_w, i32_w]; rw [b1]) | skip)
     obtain ⟨b4, A5, H⟩ := bd_ H
     try dsimp only at H
     have H' := ak H
     clear H
     have a4 := cz20 a0.out
     have a5 := cz21 a0.out
     have a6 := blk_frozen a0.out 0
     have a7 := blk_frozen a0.out 1
     go_wp2_with (first | (go_at_call 16; (with_reducible refine (spec_LogicOk.calls k1 _ _ l0_0 _ _ l0_1 b4 _ (y3 HR0_0.out HB.out) a8.out (y3 HR0_1.out HB.out) a9.out A5.out).mono ?_); rintro e w' ⟨rfl, hb⟩; replace a0 := ak (blk_below (g := a1) (o := .cells #[.slice A0_0 l0_0.length c0_0, .slice A0_1 l0_1.length c0_1] 26 (0, 0)) (xb a0.out) hb); replace HB := ak (below_step zp_0 hb); (try clear hb); (try clear hb2); (try clear hk); (try clear hi)))
     go_meet
     case rel => exact ⟨_, (b4), zp_2, H', ⟨(by have := HK1.out; first | omega | exact Nat.le_refl _)⟩, ⟨(xb a0.out)⟩, ⟨zp_0⟩⟩
    (first | rw [b1] | (simp only [i64_w, i32_w]; rw [b1]) | skip)
    have H' := ak H
    clear H
    have a4 := cz20 a0.out
    have a5 := cz21 a0.out
    have a6 := blk_frozen a0.out 0
    have a7 := blk_frozen a0.out 1
    go_wp2
    go_meet
    case rel => exact ⟨_, (false), zp_2, H', ⟨(by have := HK1.out; first | omega | exact Nat.le_refl _)⟩, ⟨(xb a0.out)⟩, ⟨zp_0⟩⟩
   case rest =>
    clear b6
    obtain ⟨kq, b0, rfl, HA, b2, a0, HB⟩ := hcut
    cases kq with
    | zero => exact absurd HA.out (by simp [spec_BothWaysOk.j1])
    | succ b7 =>
     have H := HA.out
     clear HA
     simp only [spec_BothWaysOk.j1] at H
     replace H := ox_ H
     rcases H with ⟨rfl, H⟩ | ⟨rfl, H⟩
     ·
      have H' := ak H
      clear H
      go_wp2
      go_loopg [4] b7 (fun kq v4 w' => ∃ (a3 : Int), v4 = .int .i64 a3 ∧ Aside0 (spec_BothWaysOk.l1 kq a2 a3 l0_0 l0_1 = some r) ∧ Aside0 (kq ≤ b7) ∧ Aside0 (w'.heap[a1]? = some (.cells #[(.slice A0_0 l0_0.length c0_0), (.slice A0_1 l0_1.length c0_1)] 26 (0, 0))) ∧ Aside0 (Below w.heap.size w w'))
      case atStart => exact ⟨(0), zp_2, H', ⟨Nat.le_refl _⟩, ⟨(xb a0.out)⟩, ⟨zp_0⟩⟩
      case round =>
       clear H'
       try clear c9
       obtain ⟨a3, rfl, HA, HK3, a0, HB⟩ := hrel
       cases gk with
       | zero => exact absurd HA.out (by simp [spec_BothWaysOk.l1])
       | succ k3 =>
        have H := HA.out
        clear HA
        simp only [spec_BothWaysOk.l1] at H
        replace H := os_ H
        rcases H with ⟨b5, H⟩ | ⟨b5, H⟩
        ·
         obtain ⟨d3, b8, H⟩ := bd_ H
         try dsimp only at H
         replace H := ox_ H
         rcases H with ⟨rfl, H⟩ | ⟨rfl, H⟩
         ·
          obtain ⟨d4, d1, H⟩ := bd_ H
          try dsimp only at H
          replace H := ox_ H
          rcases H with ⟨rfl, H⟩ | ⟨rfl, H⟩
          ·
           have H' := ak H
           clear H
           have a4 := cz20 a0.out
           have a5 := cz21 a0.out
           have a6 := blk_frozen a0.out 0
           have a7 := blk_frozen a0.out 1
           go_wp2_with (first | ((with_reducible refine gate_callee (f := 69) rfl ?_); refine gl_ (some 26) Try.func69 #[.agg #[.slice A0_0 l0_0.length c0_0, .slice A0_1 l0_1.length c0_1], .int .i64 a2, .int .i64 a3] ?_; (with_reducible refine (spec_l5With.calls k3 _ _ l0_0 _ _ l0_1 a2 a3 true _ (y3 HR0_0.out HB.out) a8.out (y3 HR0_1.out HB.out) a9.out b8.out).mono ?_); rintro e w' ⟨rfl, hb⟩; refine ⟨_, rfl, ?_⟩; replace a0 := ak (blk_below (g := a1) (o := .cells #[.slice A0_0 l0_0.length c0_0, .slice A0_1 l0_1.length c0_1] 26 (0, 0)) (xb a0.out) hb); replace HB := ak (below_step zp_0 hb); (try clear hb); (try clear hb2); (try clear hk); (try clear hi); have a4 := cz20 a0.out; have a5 := cz21 a0.out; have a6 := blk_frozen a0.out 0; have a7 := blk_frozen a0.out 1) | (go_at_call 69; (with_reducible refine (spec_l5With.calls k3 _ _ l0_0 _ _ l0_1 a3 a2 true _ (y3 HR0_0.out HB.out) a8.out (y3 HR0_1.out HB.out) a9.out d1.out).mono ?_); rintro e w' ⟨rfl, hb⟩; replace a0 := ak (blk_below (g := a1) (o := .cells #[.slice A0_0 l0_0.length c0_0, .slice A0_1 l0_1.length c0_1] 26 (0, 0)) (xb a0.out) hb); replace HB := ak (below_step zp_0 hb); (try clear hb); (try clear hb2); (try clear hk); (try clear hi)))
           go_roundg k3
           case measure => have := HK1.out; have := b2.out; have := HK3.out; omega
           case rel => exact ⟨(wrap64 (a3 + 1)), zp_2, H', ⟨(by have := HK1.out; have := b2.out; have := HK3.out; omega)⟩, ⟨(xb a0.out)⟩, ⟨zp_0⟩⟩
          obtain rfl := Option.some.inj H
          have a4 := cz20 a0.out
          have a5 := cz21 a0.out
          have a6 := blk_frozen a0.out 0
          have a7 := blk_frozen a0.out 1
          go_wp2_with (first | ((with_reducible refine gate_callee (f := 69) rfl ?_); refine gl_ (some 26) Try.func69 #[.agg #[.slice A0_0 l0_0.length c0_0, .slice A0_1 l0_1.length c0_1], .int .i64 a2, .int .i64 a3] ?_; (with_reducible refine (spec_l5With.calls k3 _ _ l0_0 _ _ l0_1 a2 a3 true _ (y3 HR0_0.out HB.out) a8.out (y3 HR0_1.out HB.out) a9.out b8.out).mono ?_); rintro e w' ⟨rfl, hb⟩; refine ⟨_, rfl, ?_⟩; replace a0 := ak (blk_below (g := a1) (o := .cells #[.slice A0_0 l0_0.length c0_0, .slice A0_1 l0_1.length c0_1] 26 (0, 0)) (xb a0.out) hb); replace HB := ak (below_step zp_0 hb); (try clear hb); (try clear hb2); (try clear hk); (try clear hi); have a4 := cz20 a0.out; have a5 := cz21 a0.out; have a6 := blk_frozen a0.out 0; have a7 := blk_frozen a0.out 1) | (go_at_call 69; (with_reducible refine (spec_l5With.calls k3 _ _ l0_0 _ _ l0_1 a3 a2 false _ (y3 HR0_0.out HB.out) a8.out (y3 HR0_1.out HB.out) a9.out d1.out).mono ?_); rintro e w' ⟨rfl, hb⟩; replace a0 := ak (blk_below (g := a1) (o := .cells #[.slice A0_0 l0_0.length c0_0, .slice A0_1 l0_1.length c0_1] 26 (0, 0)) (xb a0.out) hb); replace HB := ak (below_step zp_0 hb); (try clear hb); (try clear hb2); (try clear hk); (try clear hi)))
          go_ret
          exact ⟨(by first | rfl | (simp [errW_none, errW_some] <;> rfl) | (simp [*, errW_none, errW_some] <;> rfl)), zp_0⟩
         have H' := ak H
         clear H
         have a4 := cz20 a0.out
         have a5 := cz21 a0.out
         have a6 := blk_frozen a0.out 0
         have a7 := blk_frozen a0.out 1
         go_wp2_with (first | ((with_reducible refine gate_callee (f := 69) rfl ?_); refine gl_ (some 26) Try.func69 #[.agg #[.slice A0_0 l0_0.length c0_0, .slice A0_1 l0_1.length c0_1], .int .i64 a2, .int .i64 a3] ?_; (with_reducible refine (spec_l5With.calls k3 _ _ l0_0 _ _ l0_1 a2 a3 false _ (y3 HR0_0.out HB.out) a8.out (y3 HR0_1.out HB.out) a9.out b8.out).mono ?_); rintro e w' ⟨rfl, hb⟩; refine ⟨_, rfl, ?_⟩; replace a0 := ak (blk_below (g := a1) (o := .cells #[.slice A0_0 l0_0.length c0_0, .slice A0_1 l0_1.length c0_1] 26 (0, 0)) (xb a0.out) hb); replace HB := ak (below_step zp_0 hb); (try clear hb); (try clear hb2); (try clear hk); (try clear hi)))
         go_roundg k3
         case measure => have := HK1.out; have := b2.out; have := HK3.out; omega
         case rel => exact ⟨(wrap64 (a3 + 1)), zp_2, H', ⟨(by have := HK1.out; have := b2.out; have := HK3.out; omega)⟩, ⟨(xb a0.out)⟩, ⟨zp_0⟩⟩
        have H' := ak H
        clear H
        have a4 := cz20 a0.out
        have a5 := cz21 a0.out
        have a6 := blk_frozen a0.out 0
        have a7 := blk_frozen a0.out 1
        go_wp2
        go_roundg k3
        case measure => have := HK1.out; have := b2.out; have := HK3.out; omega
        case rel => exact ⟨(wrap64 (a2 + 1)), zp_2, H', ⟨(by have := HK1.out; have := b2.out; have := HK3.out; omega)⟩, ⟨(xb a0.out)⟩, ⟨zp_0⟩⟩
     obtain ⟨b9, d5, H⟩ := bd_ H
     try dsimp only at H
     obtain rfl := Option.some.inj H
     have a4 := cz20 a0.out
     have a5 := cz21 a0.out
     have a6 := blk_frozen a0.out 0
     have a7 := blk_frozen a0.out 1
     go_wp2_with (first | ((with_reducible refine gate_callee (f := 16) rfl ?_); refine gl_ (some 35) Try.func16 #[.agg #[.slice A0_0 l0_0.length c0_0, .slice A0_1 l0_1.length c0_1]] ?_; (with_reducible refine (spec_LogicOk.calls b7 _ _ l0_0 _ _ l0_1 b9 _ (y3 HR0_0.out HB.out) a8.out (y3 HR0_1.out HB.out) a9.out d5.out).mono ?_); rintro e w' ⟨rfl, hb⟩; refine ⟨_, rfl, ?_⟩; replace a0 := ak (blk_below (g := a1) (o := .cells #[.slice A0_0 l0_0.length c0_0, .slice A0_1 l0_1.length c0_1] 26 (0, 0)) (xb a0.out) hb); replace HB := ak (below_step zp_0 hb); (try clear hb); (try clear hb2); (try clear hk); (try clear hi)))
     go_ret
     exact ⟨(by first | rfl | (simp [errW_none, errW_some] <;> rfl) | (simp [*, errW_none, errW_some] <;> rfl)), zp_0⟩

end Go.Proofs.Ytjgfpiilfnchnaa.P
