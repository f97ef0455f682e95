-- written by gen.py (a program of this session) out of the kit's print of this seat's translation
import Derived.Test.YtilgbnbeonlbnaaPk2
import Derived.Test.YtilgbnbeonlbnaaFSpecLeastOf
namespace Go.Proofs.Ytilgbnbeonlbnaa.P
open Go.RowKit Go.Proofs.YtilgbnbeonlbnaaW.PrintWords Go.Proofs.YtilgbnbeonlbnaaW.PrintLast Go.Proofs.YtilgbnbeonlbnaaW.PrintMore
attribute [local go_sem] max2_int min2_int max_two min_two max_three min_three max_four min_four
set_option linter.unusedVariables false
set_option linter.unusedSimpArgs false
theorem zb_2 {p : Prop} (h : p := by have := HK1.out; have := b2.out; have := HK3.out; omega) : p := h
theorem zb_1 {p : Prop} (h : p := by first | rfl | (simp; done) | (simp [*]; done)) : p := h
theorem zb_0 {p : Prop} (h : p := by repeat (first | (with_reducible first | exact HB.out | apply below_alloc | apply pw_below_drewN | apply below_drew1) | exact HB.out)) : p := h
set_option maxHeartbeats 8000000 in
set_option maxRecDepth 100000 in
theorem spec_AtomsOf.calls (k : Nat) (A0 : Option Addr) (c0 : Nat) (l0 : List (List Int)) (r : List Int) (w : World) (hr0 : Kd.C (Kd.slice 3 (Kd.int .i64)) w A0 l0.length l0) (hc0 : l0.length ≤ c0) (h : spec_AtomsOf.f k l0 = some r) :
 Calls Try.prog 41 #[.slice A0 l0.length c0] w fun e w' => ∃ v0_ : Value, e = .returned (v0_) ∧ Kd.R (Kd.int .i64) 3 w' w.heap.size (fun _ => True) v0_ r ∧ Below w.heap.size w w' := by
 have HR0 := ak hr0
 have d8 := ak hc0
 clear hr0 hc0
 have HB := ak (Below.refl w.heap.size w)
 have H : ((spec_LeastOf.f k l0).bind fun a4 => (spec_AtomsOf.l0 k l0 (([] : List Int)) a4.1 a4.2 0)) = some r := h
 clear h
 obtain ⟨y558, hy558⟩ : ∃ y_ : List Int, y_ = (([] : List Int)) := ⟨_, rfl⟩
 replace H : ((spec_LeastOf.f k l0).bind fun a4 => (spec_AtomsOf.l0 k l0 y558 a4.1 a4.2 0)) = some r := by first | (rw [hy558]; with_reducible exact H) | (have H2_ := (Option.bind_some _ _).symm.trans H; rw [hy558]; with_reducible exact H2_) | (have H2_ := (Option.bind_some _ _).symm.trans H; with_reducible exact H2_) | with_reducible exact H | (rw [hy558]; exact H) | exact H
 have Ny558 := ak hy558
 clear hy558
 obtain ⟨⟨a6, a5⟩, A2, H⟩ := bd_ H
 try dsimp only at H
 have H' := ak H
 clear H
 go_enter Try.func41, Try.ntmps41
 go_wp2_with (first | ((with_reducible refine gate_dst (N := 9) rfl ?_); refine Kd.R_lit (Kd.int .i64) _ 3 ?hg (N := 9) ?hd (xs := ([] : List Int)) (inner := []) (ok := fun _ => True) (okp := fun _ => True) ?hr ?hp (fun _ hk => hk) trivial (Below.refl _ _) (Nat.le_refl _) (by simp) ?_; (case hd => rfl); (case hg => rfl); (case hr => first | (go_simp; done) | (go_simp; rfl)); (case hp => exact (Reps.none _ _)); intro d9 w3 ho4 hb hg_ hnew_; clear hg_ hnew_; (first | rw [← Ny558.out] at ho4 | (simp only [Int.reduceToNat] at ho4; rw [← Ny558.out] at ho4)); have b3 := ak (Kd.R_lower ho4 (below_size zb_0)); replace HB := ak (below_step zb_0 hb); clear hb ho4) | ((with_reducible refine gate_callee (f := 23) rfl ?_); refine gl_ (some 12) Try.func23 #[.slice A0 l0.length c0] ?_; (with_reducible refine (spec_LeastOf.calls k _ _ l0 a6 a5 _ (y3 HR0.out HB.out) d8.out A2.out).mono ?_); rintro e w' ⟨rfl, ⟨nd, rfl⟩⟩; refine ⟨_, rfl, ?_⟩))
 go_loopg [3, 6] k (fun kq v3 v6 w' => ∃ (a1 : List Int) (a0 : Int), v6 = .int .i64 a0 ∧ Aside0 (spec_AtomsOf.l0 kq l0 a1 a6 a5 a0 = some r) ∧ Aside0 (kq ≤ k) ∧ Aside0 (Kd.R (Kd.int .i64) 3 w' w.heap.size (fun _ => True) v3 a1) ∧ Aside0 (Below w.heap.size w w'))
 case atStart => exact ⟨(y558), (0), zb_1, H', ⟨Nat.le_refl _⟩, ⟨(xR b3.out)⟩, ⟨zb_0⟩⟩
 case round =>
  clear H'
  obtain ⟨a1, a0, rfl, HA, HK1, a2, HB⟩ := hrel
  cases gk with
  | zero => exact absurd HA.out (by simp [spec_AtomsOf.l0])
  | succ k1 =>
   have H := HA.out
   clear HA
   simp only [spec_AtomsOf.l0] at H
   have d0 := ak H
   clear H
   go_upto_region 4 with (fail)
   go_cut [21] (fun e0 wc => ∃ (kq : Nat) (a7 : Bool), e0 = .bool a7 ∧ Aside0 (spec_AtomsOf.j1 kq l0 a1 a6 a5 a0 a7 = some r) ∧ Aside0 (kq ≤ k1) ∧ Aside0 (Kd.R (Kd.int .i64) 3 wc w.heap.size (fun _ => True) u3 a1) ∧ Aside0 (Below w.heap.size w wc))
   case first =>
    have H := d0.out
    clear d0
    replace H := os_ H
    rcases H with ⟨a8, H⟩ | ⟨a8, H⟩
    ·
     (first | rw [a8] | (simp only [i64_w, i32_w]; rw [a8]) | skip)
     have H' := ak H
     clear H
     go_wp2
     go_meet
     case rel => exact ⟨_, (a5), zb_1, H', ⟨(by have := HK1.out; first | omega | exact Nat.le_refl _)⟩, ⟨(xR a2.out)⟩, ⟨zb_0⟩⟩
    (first | rw [a8] | (simp only [i64_w, i32_w]; rw [a8]) | skip)
    have H' := ak H
    clear H
    go_wp2
    go_meet
    case rel => exact ⟨_, (false), zb_1, H', ⟨(by have := HK1.out; first | omega | exact Nat.le_refl _)⟩, ⟨(xR a2.out)⟩, ⟨zb_0⟩⟩
   case rest =>
    clear d0
    obtain ⟨kq, a7, rfl, HA, b2, a2, HB⟩ := hcut
    cases kq with
    | zero => exact absurd HA.out (by simp [spec_AtomsOf.j1])
    | succ d4 =>
     have H := HA.out
     clear HA
     simp only [spec_AtomsOf.j1] at H
     replace H := ox_ H
     rcases H with ⟨rfl, H⟩ | ⟨rfl, H⟩
     ·
      have H' := ak H
      clear H
      go_wp2
      go_loopg [7, 8] d4 (fun kq v7 v8 w' => ∃ (a9 : Int) (a3 : Int), v7 = .int .i64 a9 ∧ v8 = .int .i64 a3 ∧ Aside0 (spec_AtomsOf.l1 kq l0 a1 a6 a5 a0 a9 a3 = some r) ∧ Aside0 (kq ≤ d4) ∧ Aside0 (Kd.R (Kd.int .i64) 3 w' w.heap.size (fun _ => True) u3 a1) ∧ Aside0 (Below w.heap.size w w'))
      case atStart => exact ⟨(0), (0), zb_1, zb_1, H', ⟨Nat.le_refl _⟩, ⟨(xR a2.out)⟩, ⟨zb_0⟩⟩
      case round =>
       clear H'
       try clear c7
       obtain ⟨a9, a3, rfl, rfl, HA, HK3, a2, HB⟩ := hrel
       cases gk with
       | zero => exact absurd HA.out (by simp [spec_AtomsOf.l1])
       | succ k3 =>
        have H := HA.out
        clear HA
        simp only [spec_AtomsOf.l1] at H
        replace H := os_ H
        rcases H with ⟨d1, H⟩ | ⟨d1, H⟩
        ·
         replace H := od3 H
         obtain ⟨e1, d5, d6, H⟩ := H
         have H' := ak H
         clear H
         have b0 : 0 ≤ (a3 : Int) := oa_
         have q563 : a3 < (l0.length : Int) := oa_
         obtain ⟨ad563, d2, d3, e563, hx563_0, hl563_0, hi563_0⟩ := at_L1 HR0.out a3 b0 q563
         cases e563
         replace hx563_0 := (HB.out.cell (World.block_lt_of_cell? w _ hx563_0)).trans hx563_0
         have HR563_0 := ak hi563_0
         have b9 := ak hl563_0
         clear hi563_0 hl563_0
         replace b0 := eq_true b0
         replace q563 := eq_true q563
         have b1 : 0 ≤ (a0 : Int) := oa_
         have q564 : a0 < ((rd_L1 l0 a3).length : Int) := oa_
         obtain ⟨ad564, e564, hx564_0⟩ := Kd.at_int HR563_0.out a0 b1 q564
         cases e564
         replace hx564_0 := (HB.out.cell (World.block_lt_of_cell? w _ hx564_0)).trans hx564_0
         replace b1 := eq_true b1
         replace q564 := eq_true q564
         go_wp2
         go_roundg k3
         case measure => have := HK1.out; have := b2.out; have := HK3.out; omega
         case rel => exact ⟨(wrap64 (a9 + (rd (rd_L1 l0 a3) a0))), (wrap64 (a3 + 1)), zb_1, zb_1, H', ⟨zb_2⟩, ⟨(xR a2.out)⟩, ⟨zb_0⟩⟩
        replace H := oe2 H
        rcases H with ⟨⟨-, b4, b5⟩, H⟩ | ⟨⟨e3, b4, b5⟩, H⟩
        ·
         replace H := oe2 H
         rcases H with ⟨⟨-, b6, b7⟩, H⟩ | ⟨⟨e4, b6, b7⟩, H⟩
         ·
          have H' := ak H
          clear H
          go_wp2
          go_roundg k3
          case measure => have := HK1.out; have := b2.out; have := HK3.out; omega
          case rel => exact ⟨(a1), (wrap64 (a0 + 1)), zb_1, H', ⟨zb_2⟩, ⟨(xR a2.out)⟩, ⟨zb_0⟩⟩
         replace H := ok_ H
         obtain ⟨d7, H⟩ := H
         have LMc14 := ak d7
         clear d7
         obtain ⟨y565, hy565⟩ : ∃ y_ : List Int, y_ = (a1 ++ [a0]) := ⟨_, rfl⟩
         replace H : (spec_AtomsOf.l0 k3 l0 y565 a6 a5 (wrap64 (a0 + 1))) = some r := by first | (rw [hy565]; with_reducible exact H) | (have H2_ := (Option.bind_some _ _).symm.trans H; rw [hy565]; with_reducible exact H2_) | (have H2_ := (Option.bind_some _ _).symm.trans H; with_reducible exact H2_) | with_reducible exact H | (rw [hy565]; exact H) | exact H
         have Ny565 := ak hy565
         clear hy565
         have H' := ak H
         clear H
         go_wp2_with (first | ((with_reducible refine gate_builtin (b := .append) (xs := #[.tmp 46, .tmp 48]) rfl ?_); at_builtin; refine Kd.R_append (Kd.int .i64) (w0 := w) w.heap.size rfl (.tmp 46) (.tmp 48) 32 3 (.int .i64 0) 8 rfl Try.underlying32 info3 rfl (by decide) (by omega) u3 a1 a0 [.int .i64 a0] (fun _ => True) (fun _ => False) rfl rfl ?aP (fun _ hk => hk.elim) ?aF ?aO ?aB ?aS ?aL ?_; (case aP => exact rfl); (case aB => exact zb_0); (case aF => exact (fun _ _ => trivial)); (case aO => exact (xR a2.out)); (case aS => exact (below_size zb_0)); (case aL => have := LMc14.out; omega); intro e2 e5 ho hb hg hat; rw [← Ny565.out] at ho; replace HB := ak (hb); have b8 := ak (ho); clear a2; clear ho hb hg hat))
         go_roundg k3
         case measure => have := HK1.out; have := b2.out; have := HK3.out; omega
         case rel => exact ⟨(y565), (wrap64 (a0 + 1)), zb_1, H', ⟨zb_2⟩, ⟨(xR b8.out)⟩, ⟨zb_0⟩⟩
        have H' := ak H
        clear H
        go_wp2
        go_roundg k3
        case measure => have := HK1.out; have := b2.out; have := HK3.out; omega
        case rel => exact ⟨(a1), (wrap64 (a0 + 1)), zb_1, H', ⟨zb_2⟩, ⟨(xR a2.out)⟩, ⟨zb_0⟩⟩
     obtain rfl := Option.some.inj H
     go_wp2
     go_ret
     exact ⟨_, (by first | rfl | (simp [errW_none, errW_some] <;> rfl) | (simp [*, errW_none, errW_some] <;> rfl)), (xR a2.out), zb_0⟩

end Go.Proofs.Ytilgbnbeonlbnaa.P
