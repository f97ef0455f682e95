-- written by gen.py (a program of this session) out of the kit's print of this seat's translation
import Derived.Test.YtacifhahfamipaaPk2
import Derived.Test.YtacifhahfamipaaFSpecL5With
import Derived.Test.YtacifhahfamipaaPk4
namespace Go.Proofs.Ytacifhahfamipaa.P
open Go.RowKit Go.Proofs.YtacifhahfamipaaW.PrintWords Go.Proofs.YtacifhahfamipaaW.PrintLast Go.Proofs.YtacifhahfamipaaW.PrintMore
attribute [local go_sem] max2_int min2_int max_two min_two max_three min_three max_four min_four
set_option linter.unusedVariables false
set_option linter.unusedSimpArgs false
theorem zr_3 {p : Prop} (h : p := by have := HK1.out; have := d0.out; have := HK3.out; omega) : p := h
theorem zr_2 {p : Prop} (h : p := by repeat (first | (with_reducible first | exact HB.out | apply below_alloc | apply pw_below_drewN | apply below_drew1) | exact HB.out)) : p := h
theorem zr_1 {p : Prop} (h : p := by first | rfl | (simp; done) | (simp [*]; done)) : p := h
theorem zr_0 {p : Prop} (h : p := by repeat (first | (with_reducible first | exact HB.out | apply below_alloc | apply pw_below_drewN | apply below_drew1 | refine below_set ?_ b6.out) | exact HB.out)) : p := h
set_option maxHeartbeats 8000000 in
set_option maxRecDepth 100000 in
theorem spec_CentreOf.calls (k : Nat) (A0_0 : Option Addr) (c0_0 : Nat) (l0_0 : List (List Int)) (A0_1 : Option Addr) (c0_1 : Nat) (l0_1 : List Int) (r : List Int) (w : World) (hr0_0 : Kd.C (Kd.slice 3 (Kd.int .i64)) w A0_0 l0_0.length l0_0) (hc0_0 : l0_0.length ≤ c0_0) (hr0_1 : Kd.C (Kd.int .i64) w A0_1 l0_1.length l0_1) (hc0_1 : l0_1.length ≤ c0_1) (h : spec_CentreOf.f k l0_0 l0_1 = some r) :
 Calls Try.prog 59 #[.agg #[.slice A0_0 l0_0.length c0_0, .slice A0_1 l0_1.length c0_1]] w fun e w' => ∃ v0_ : Value, e = .returned (v0_) ∧ Kd.R (Kd.int .i64) 3 w' w.heap.size (fun _ => True) v0_ r ∧ Below w.heap.size w w' := by
 have hu27 := Try.underlying27
 have HR0_0 := ak hr0_0
 have b0 := ak hc0_0
 clear hr0_0 hc0_0
 have HR0_1 := ak hr0_1
 have b1 := ak hc0_1
 clear hr0_1 hc0_1
 have HB := ak (Below.refl w.heap.size w)
 have H : (spec_CentreOf.l0 k (([] : List Int)) 0 l0_0 l0_1) = some r := h
 clear h
 obtain ⟨y1273, hy1273⟩ : ∃ y_ : List Int, y_ = (([] : List Int)) := ⟨_, rfl⟩
 replace H : (spec_CentreOf.l0 k y1273 0 l0_0 l0_1) = some r := by first | (rw [hy1273]; with_reducible exact H) | (have H2_ := (Option.bind_some _ _).symm.trans H; rw [hy1273]; with_reducible exact H2_) | (have H2_ := (Option.bind_some _ _).symm.trans H; with_reducible exact H2_) | with_reducible exact H | (rw [hy1273]; exact H) | exact H
 have Ny1273 := ak hy1273
 clear hy1273
 have H' := ak H
 clear H
 go_enter Try.func59, Try.ntmps59
 go_wp2_with (first | ((with_reducible refine gate_dst (N := 1) rfl ?_); refine bx_ (N := 1) (cs := #[.slice A0_0 l0_0.length c0_0, .slice A0_1 l0_1.length c0_1]) (t := 27) ?_; intro a1 hg w2 hbox hb; have a0 := ak (hbox); have d2 := ak ((by rw [hg]; exact (below_size zr_2) : w.heap.size ≤ a1)); have b6 := ak ((by rw [hg]; exact (below_size zr_2) : w.heap.size ≤ a1)); replace HB := ak (below_step zr_2 hb); clear hb hbox hg) | ((with_reducible refine gate_dst (N := 7) rfl ?_); refine Kd.R_lit (Kd.int .i64) _ 3 ?hg (N := 7) ?hd (xs := ([] : List Int)) (inner := []) (ok := fun _ => True) (okp := fun _ => True) ?hr ?hp (fun _ hk => hk) trivial (Below.refl _ _) (Nat.le_refl _) (by simp) ?_; (case hd => rfl); (case hg => rfl); (case hr => first | (go_simp; done) | (go_simp; rfl)); (case hp => exact (Reps.none _ _)); intro d4 w3 ho4 hb hg_ hnew_; clear hg_ hnew_; (first | rw [← Ny1273.out] at ho4 | (simp only [Int.reduceToNat] at ho4; rw [← Ny1273.out] at ho4)); have b7 := ak (Kd.R_lower ho4 (below_size zr_0)); replace a0 := ak (blk_below (g := a1) (o := .cells #[.slice A0_0 l0_0.length c0_0, .slice A0_1 l0_1.length c0_1] 27 (0, 0)) (xb a0.out) hb); replace HB := ak (below_step zr_0 hb); clear hb ho4))
 go_loopg [3, 4] k (fun kq v3 v4 w' => ∃ (a8 : List Int) (a3 : Int), v4 = .int .i64 a3 ∧ Aside0 (spec_CentreOf.l0 kq a8 a3 l0_0 l0_1 = some r) ∧ Aside0 (kq ≤ k) ∧ Aside0 (Kd.R (Kd.int .i64) 3 w' w.heap.size (fun _ => True) v3 a8) ∧ Aside0 (w'.heap[a1]? = some (.cells #[(.slice A0_0 l0_0.length c0_0), (.slice A0_1 l0_1.length c0_1)] 27 (0, 0))) ∧ Aside0 (Below w.heap.size w w'))
 case atStart => exact ⟨(y1273), (0), zr_1, H', ⟨Nat.le_refl _⟩, ⟨(xR b7.out)⟩, ⟨(xb a0.out)⟩, ⟨zr_0⟩⟩
 case round =>
  clear H'
  obtain ⟨a8, a3, rfl, HA, HK1, a2, a0, HB⟩ := hrel
  cases gk with
  | zero => exact absurd HA.out (by simp [spec_CentreOf.l0])
  | succ k1 =>
   have H := HA.out
   clear HA
   simp only [spec_CentreOf.l0] at H
   have d3 := ak H
   clear H
   go_upto_region 3 with (fail)
   go_cut [16] (fun e0 wc => ∃ (kq : Nat) (b2 : Bool), e0 = .bool b2 ∧ Aside0 (spec_CentreOf.j1 kq a8 a3 b2 l0_0 l0_1 = some r) ∧ Aside0 (kq ≤ k1) ∧ Aside0 (Kd.R (Kd.int .i64) 3 wc w.heap.size (fun _ => True) u3 a8) ∧ Aside0 (wc.heap[a1]? = some (.cells #[(.slice A0_0 l0_0.length c0_0), (.slice A0_1 l0_1.length c0_1)] 27 (0, 0))) ∧ Aside0 (Below w.heap.size w wc))
   case first =>
    have H := d3.out
    clear d3
    replace H := os_ H
    rcases H with ⟨b3, H⟩ | ⟨b3, H⟩
    ·
     (first | rw [b3] | (simp only [i64_w, i32_w]; rw [b3]) | skip)
     obtain ⟨b4, A7, H⟩ := bd_ H
     try dsimp only at H
     have H' := ak H
     clear H
     have a4 := cz20 a0.out
     have a5 := cz21 a0.out
     have a6 := blk_frozen a0.out 0
     have a7 := blk_frozen a0.out 1
     go_wp2_with (first | (go_at_call 30; (with_reducible refine (spec_LogicOk.calls k1 _ _ l0_0 _ _ l0_1 b4 _ (y3 HR0_0.out HB.out) b0.out (y3 HR0_1.out HB.out) b1.out A7.out).mono ?_); rintro e w' ⟨rfl, hb⟩; replace a2 := ak (Kd.R_below (xR a2.out) hb); replace a0 := ak (blk_below (g := a1) (o := .cells #[.slice A0_0 l0_0.length c0_0, .slice A0_1 l0_1.length c0_1] 27 (0, 0)) (xb a0.out) hb); replace HB := ak (below_step zr_0 hb); (try clear hb); (try clear hb2); (try clear hk); (try clear hi)))
     go_meet
     case rel => exact ⟨_, (b4), zr_1, H', ⟨(by have := HK1.out; first | omega | exact Nat.le_refl _)⟩, ⟨(xR a2.out)⟩, ⟨(xb a0.out)⟩, ⟨zr_0⟩⟩
    (first | rw [b3] | (simp only [i64_w, i32_w]; rw [b3]) | skip)
    have H' := ak H
    clear H
    have a4 := cz20 a0.out
    have a5 := cz21 a0.out
    have a6 := blk_frozen a0.out 0
    have a7 := blk_frozen a0.out 1
    go_wp2
    go_meet
    case rel => exact ⟨_, (false), zr_1, H', ⟨(by have := HK1.out; first | omega | exact Nat.le_refl _)⟩, ⟨(xR a2.out)⟩, ⟨(xb a0.out)⟩, ⟨zr_0⟩⟩
   case rest =>
    clear d3
    obtain ⟨kq, b2, rfl, HA, d0, a2, a0, HB⟩ := hcut
    cases kq with
    | zero => exact absurd HA.out (by simp [spec_CentreOf.j1])
    | succ d5 =>
     have H := HA.out
     clear HA
     simp only [spec_CentreOf.j1] at H
     replace H := ox_ H
     rcases H with ⟨rfl, H⟩ | ⟨rfl, H⟩
     ·
      have H' := ak H
      clear H
      go_wp2
      go_loopg [5, 6] d5 (fun kq v5 v6 w' => ∃ (b8 : Bool) (a9 : Int), v5 = .bool b8 ∧ v6 = .int .i64 a9 ∧ Aside0 (spec_CentreOf.l1 kq a8 a3 b8 a9 l0_0 l0_1 = some r) ∧ Aside0 (kq ≤ d5) ∧ Aside0 (Kd.R (Kd.int .i64) 3 w' w.heap.size (fun _ => True) u3 a8) ∧ Aside0 (w'.heap[a1]? = some (.cells #[(.slice A0_0 l0_0.length c0_0), (.slice A0_1 l0_1.length c0_1)] 27 (0, 0))) ∧ Aside0 (Below w.heap.size w w'))
      case atStart => exact ⟨(true), (0), zr_1, zr_1, H', ⟨Nat.le_refl _⟩, ⟨(xR a2.out)⟩, ⟨(xb a0.out)⟩, ⟨zr_0⟩⟩
      case round =>
       clear H'
       try clear e2
       obtain ⟨b8, a9, rfl, rfl, HA, HK3, a2, a0, HB⟩ := hrel
       cases gk with
       | zero => exact absurd HA.out (by simp [spec_CentreOf.l1])
       | succ k3 =>
        have H := HA.out
        clear HA
        simp only [spec_CentreOf.l1] at H
        replace H := os_ H
        rcases H with ⟨d1, H⟩ | ⟨d1, H⟩
        ·
         replace H := ox_ H
         rcases H with ⟨rfl, H⟩ | ⟨rfl, H⟩
         ·
          obtain ⟨d6, d7, H⟩ := bd_ H
          try dsimp only at H
          replace H := ox_ H
          rcases H with ⟨rfl, H⟩ | ⟨rfl, H⟩
          ·
           obtain ⟨b5, e1, H⟩ := bd_ H
           try dsimp only at H
           have H' := ak H
           clear H
           have a4 := cz20 a0.out
           have a5 := cz21 a0.out
           have a6 := blk_frozen a0.out 0
           have a7 := blk_frozen a0.out 1
           go_wp2_with (first | (go_at_call 103; (with_reducible refine (spec_l5With.calls k3 _ _ l0_0 _ _ l0_1 a3 a9 true _ (y3 HR0_0.out HB.out) b0.out (y3 HR0_1.out HB.out) b1.out d7.out).mono ?_); rintro e w' ⟨rfl, hb⟩; replace a2 := ak (Kd.R_below (xR a2.out) hb); replace a0 := ak (blk_below (g := a1) (o := .cells #[.slice A0_0 l0_0.length c0_0, .slice A0_1 l0_1.length c0_1] 27 (0, 0)) (xb a0.out) hb); replace HB := ak (below_step zr_0 hb); (try clear hb); (try clear hb2); (try clear hk); (try clear hi); have a4 := cz20 a0.out; have a5 := cz21 a0.out; have a6 := blk_frozen a0.out 0; have a7 := blk_frozen a0.out 1) | (go_at_call 103; (with_reducible refine (spec_l5With.calls k3 _ _ l0_0 _ _ l0_1 a9 a3 b5 _ (y3 HR0_0.out HB.out) b0.out (y3 HR0_1.out HB.out) b1.out e1.out).mono ?_); rintro e w' ⟨rfl, hb⟩; replace a2 := ak (Kd.R_below (xR a2.out) hb); replace a0 := ak (blk_below (g := a1) (o := .cells #[.slice A0_0 l0_0.length c0_0, .slice A0_1 l0_1.length c0_1] 27 (0, 0)) (xb a0.out) hb); replace HB := ak (below_step zr_0 hb); (try clear hb); (try clear hb2); (try clear hk); (try clear hi)))
           go_roundg k3
           case measure => have := HK1.out; have := d0.out; have := HK3.out; omega
           case rel => exact ⟨(b5), (wrap64 (a9 + 1)), zr_1, zr_1, H', ⟨zr_3⟩, ⟨(xR a2.out)⟩, ⟨(xb a0.out)⟩, ⟨zr_0⟩⟩
          have H' := ak H
          clear H
          have a4 := cz20 a0.out
          have a5 := cz21 a0.out
          have a6 := blk_frozen a0.out 0
          have a7 := blk_frozen a0.out 1
          go_wp2_with (first | (go_at_call 103; (with_reducible refine (spec_l5With.calls k3 _ _ l0_0 _ _ l0_1 a3 a9 false _ (y3 HR0_0.out HB.out) b0.out (y3 HR0_1.out HB.out) b1.out d7.out).mono ?_); rintro e w' ⟨rfl, hb⟩; replace a2 := ak (Kd.R_below (xR a2.out) hb); replace a0 := ak (blk_below (g := a1) (o := .cells #[.slice A0_0 l0_0.length c0_0, .slice A0_1 l0_1.length c0_1] 27 (0, 0)) (xb a0.out) hb); replace HB := ak (below_step zr_0 hb); (try clear hb); (try clear hb2); (try clear hk); (try clear hi)))
          go_roundg k3
          case measure => have := HK1.out; have := d0.out; have := HK3.out; omega
          case rel => exact ⟨(false), (wrap64 (a9 + 1)), zr_1, zr_1, H', ⟨zr_3⟩, ⟨(xR a2.out)⟩, ⟨(xb a0.out)⟩, ⟨zr_0⟩⟩
         have H' := ak H
         clear H
         have a4 := cz20 a0.out
         have a5 := cz21 a0.out
         have a6 := blk_frozen a0.out 0
         have a7 := blk_frozen a0.out 1
         go_wp2
         go_roundg k3
         case measure => have := HK1.out; have := d0.out; have := HK3.out; omega
         case rel => exact ⟨(false), (wrap64 (a9 + 1)), zr_1, zr_1, H', ⟨zr_3⟩, ⟨(xR a2.out)⟩, ⟨(xb a0.out)⟩, ⟨zr_0⟩⟩
        replace H := ox_ H
        rcases H with ⟨rfl, H⟩ | ⟨rfl, H⟩
        ·
         replace H := ok_ H
         obtain ⟨d8, H⟩ := H
         have LMc25 := ak d8
         clear d8
         obtain ⟨y1279, hy1279⟩ : ∃ y_ : List Int, y_ = (a8 ++ [a3]) := ⟨_, rfl⟩
         replace H : (spec_CentreOf.l0 k3 y1279 (wrap64 (a3 + 1)) l0_0 l0_1) = some r := by first | (rw [hy1279]; with_reducible exact H) | (have H2_ := (Option.bind_some _ _).symm.trans H; rw [hy1279]; with_reducible exact H2_) | (have H2_ := (Option.bind_some _ _).symm.trans H; with_reducible exact H2_) | with_reducible exact H | (rw [hy1279]; exact H) | exact H
         have Ny1279 := ak hy1279
         clear hy1279
         have H' := ak H
         clear H
         have a4 := cz20 a0.out
         have a5 := cz21 a0.out
         have a6 := blk_frozen a0.out 0
         have a7 := blk_frozen a0.out 1
         go_wp2_with (first | ((with_reducible refine gate_builtin (b := .append) (xs := #[.tmp 40, .tmp 42]) rfl ?_); at_builtin; refine Kd.R_append (Kd.int .i64) (w0 := w) w.heap.size rfl (.tmp 40) (.tmp 42) 25 3 (.int .i64 0) 8 rfl Try.underlying25 info3 rfl (by decide) (by omega) u3 a8 a3 [.int .i64 a3] (fun _ => True) (fun _ => False) rfl rfl ?aP (fun _ hk => hk.elim) ?aF ?aO ?aB ?aS ?aL ?_; (case aP => exact rfl); (case aB => exact zr_0); (case aF => exact (fun _ _ => trivial)); (case aO => exact (xR a2.out)); (case aS => exact (below_size zr_0)); (case aL => have := LMc25.out; omega); intro d9 e3 ho hb hg hat; rw [← Ny1279.out] at ho; replace a0 := ak (blk_grown (g := a1) (o := .cells #[.slice A0_0 l0_0.length c0_0, .slice A0_1 l0_1.length c0_1] 27 (0, 0)) (xb a0.out) hg (Kd.R_ne a2.out a0.out (by decide))); replace HB := ak (hb); have b9 := ak (ho); clear a2; clear ho hb hg hat))
         go_roundg k3
         case measure => have := HK1.out; have := d0.out; have := HK3.out; omega
         case rel => exact ⟨(y1279), (wrap64 (a3 + 1)), zr_1, H', ⟨zr_3⟩, ⟨(xR b9.out)⟩, ⟨(xb a0.out)⟩, ⟨zr_0⟩⟩
        have H' := ak H
        clear H
        have a4 := cz20 a0.out
        have a5 := cz21 a0.out
        have a6 := blk_frozen a0.out 0
        have a7 := blk_frozen a0.out 1
        go_wp2
        go_roundg k3
        case measure => have := HK1.out; have := d0.out; have := HK3.out; omega
        case rel => exact ⟨(a8), (wrap64 (a3 + 1)), zr_1, H', ⟨zr_3⟩, ⟨(xR a2.out)⟩, ⟨(xb a0.out)⟩, ⟨zr_0⟩⟩
     obtain rfl := Option.some.inj H
     go_wp2
     go_ret
     exact ⟨_, (by first | rfl | (simp [errW_none, errW_some] <;> rfl) | (simp [*, errW_none, errW_some] <;> rfl)), (xR a2.out), zr_0⟩

end Go.Proofs.Ytacifhahfamipaa.P
