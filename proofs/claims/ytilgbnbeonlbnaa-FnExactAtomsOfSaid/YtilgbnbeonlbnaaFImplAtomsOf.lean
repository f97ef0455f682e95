-- written by gen.py (a program of this session) out of the kit's print of this seat's translation
import Derived.Test.YtilgbnbeonlbnaaPk2
import Derived.Test.YtilgbnbeonlbnaaFImplLeastOf
namespace Go.Proofs.Ytilgbnbeonlbnaa.P
open Go.RowKit Go.Proofs.YtilgbnbeonlbnaaW.PrintWords Go.Proofs.YtilgbnbeonlbnaaW.PrintLast Go.Proofs.YtilgbnbeonlbnaaW.PrintMore
attribute [local go_sem] max2_int min2_int max_two min_two max_three min_three max_four min_four
set_option linter.unusedVariables false
set_option linter.unusedSimpArgs false
theorem z0_1 {p : Prop} (h : p := by first | rfl | (simp; done) | (simp [*]; done)) : p := h
theorem z0_0 {p : Prop} (h : p := by repeat (first | (with_reducible first | exact HB.out | apply below_alloc | apply pw_below_drewN | apply below_drew1) | exact HB.out)) : p := h
set_option maxHeartbeats 8000000 in
set_option maxRecDepth 100000 in
theorem impl_AtomsOf.calls (k : Nat) (A0 : Option Addr) (c0 : Nat) (l0 : List (List Int)) (r : List Int) (w : World) (hr0 : Kd.C (Kd.slice 3 (Kd.int .i64)) w A0 l0.length l0) (hc0 : l0.length ≤ c0) (h : impl_AtomsOf.f k l0 = some r) :
 Calls Try.prog 42 #[.slice A0 l0.length c0] w fun e w' => ∃ v0_ : Value, e = .returned (v0_) ∧ Kd.R (Kd.int .i64) 3 w' w.heap.size (fun _ => True) v0_ r ∧ Below w.heap.size w w' := by
 have HR0 := ak hr0
 have d0 := ak hc0
 clear hr0 hc0
 have HB := ak (Below.refl w.heap.size w)
 have H : ((impl_LeastOf.f k l0).bind fun a6 => (if a6.2 = true then (impl_AtomsOf.l0 k l0 a6.1 (([] : List Int)) (l0.length : Int) 0) else (some ([] : List Int)))) = some r := h
 clear h
 obtain ⟨⟨a4, d4⟩, A2, H⟩ := bd_ H
 try dsimp only at H
 replace H := ox_ H
 rcases H with ⟨rfl, H⟩ | ⟨rfl, H⟩
 ·
  obtain ⟨y570, hy570⟩ : ∃ y_ : List Int, y_ = (([] : List Int)) := ⟨_, rfl⟩
  replace H : (impl_AtomsOf.l0 k l0 a4 y570 (l0.length : Int) 0) = some r := by first | (rw [hy570]; with_reducible exact H) | (have H2_ := (Option.bind_some _ _).symm.trans H; rw [hy570]; with_reducible exact H2_) | (have H2_ := (Option.bind_some _ _).symm.trans H; with_reducible exact H2_) | with_reducible exact H | (rw [hy570]; exact H) | exact H
  have Ny570 := ak hy570
  clear hy570
  have H' := ak H
  clear H
  go_enter Try.func42, Try.ntmps42
  go_wp2_with (first | ((with_reducible refine gate_callee (f := 24) rfl ?_); refine gl_ (some 11) Try.func24 #[.slice A0 l0.length c0] ?_; (with_reducible refine (impl_LeastOf.calls k _ _ l0 a4 true _ (y4 HR0.out) d0.out A2.out).mono ?_); rintro e w' ⟨rfl, ⟨nd, rfl⟩⟩; refine ⟨_, rfl, ?_⟩) | ((with_reducible refine gate_dst (N := 16) rfl ?_); refine Kd.R_lit (Kd.int .i64) _ 3 ?hg (N := 16) ?hd (xs := ([] : List Int)) (inner := []) (ok := fun _ => True) (okp := fun _ => True) ?hr ?hp (fun _ hk => hk) trivial (Below.refl _ _) (Nat.le_refl _) (by simp) ?_; (case hd => rfl); (case hg => rfl); (case hr => first | (go_simp; done) | (go_simp; rfl)); (case hp => exact (Reps.none _ _)); intro d5 w4 ho5 hb hg_ hnew_; clear hg_ hnew_; (first | rw [← Ny570.out] at ho5 | (simp only [Int.reduceToNat] at ho5; rw [← Ny570.out] at ho5)); have a9 := ak (Kd.R_lower ho5 (below_size z0_0)); replace HB := ak (below_step z0_0 hb); clear hb ho5))
  go_loopg [5, 19] k (fun kq v5 d6 w' => ∃ (a2 : List Int) (a0 : Int), d6 = .int .i64 a0 ∧ Aside0 (impl_AtomsOf.l0 kq l0 a4 a2 (l0.length : Int) a0 = some r) ∧ Aside0 (kq ≤ k) ∧ Aside0 (Kd.R (Kd.int .i64) 3 w' w.heap.size (fun _ => True) v5 a2) ∧ Aside0 (Below w.heap.size w w'))
  case atStart => exact ⟨(y570), (0), z0_1, H', ⟨Nat.le_refl _⟩, ⟨(xR a9.out)⟩, ⟨z0_0⟩⟩
  case round =>
   clear H'
   try clear c3
   obtain ⟨a2, a0, rfl, HA, HK1, a3, HB⟩ := hrel
   cases gk with
   | zero => exact absurd HA.out (by simp [impl_AtomsOf.l0])
   | succ k1 =>
    have H := HA.out
    clear HA
    simp only [impl_AtomsOf.l0] at H
    replace H := os_ H
    rcases H with ⟨b0, H⟩ | ⟨b0, H⟩
    ·
     have H' := ak H
     clear H
     go_wp2
     go_loopg [7, 24] k1 (fun kq v7 d7 w' => ∃ (a5 : Int) (a1 : Int), v7 = .int .i64 a5 ∧ d7 = .int .i64 a1 ∧ Aside0 (impl_AtomsOf.l1 kq l0 a4 a2 a0 a5 (l0.length : Int) a0 (l0.length : Int) a1 = some r) ∧ Aside0 (kq ≤ k1) ∧ Aside0 (Kd.R (Kd.int .i64) 3 w' w.heap.size (fun _ => True) u5 a2) ∧ Aside0 (Below w.heap.size w w'))
     case atStart => exact ⟨(0), (0), z0_1, z0_1, H', ⟨Nat.le_refl _⟩, ⟨(xR a3.out)⟩, ⟨z0_0⟩⟩
     case round =>
      clear H'
      try clear c3
      try clear c6
      try clear b0
      obtain ⟨a5, a1, rfl, rfl, HA, HK2, a3, HB⟩ := hrel
      cases gk with
      | zero => exact absurd HA.out (by simp [impl_AtomsOf.l1])
      | succ k2 =>
       have H := HA.out
       clear HA
       simp only [impl_AtomsOf.l1] at H
       replace H := os_ H
       rcases H with ⟨b7, H⟩ | ⟨b7, H⟩
       ·
        replace H := od4 H
        obtain ⟨d8, d9, d1, d2, H⟩ := H
        have H' := ak H
        clear H
        have a7 : 0 ≤ (a1 : Int) := oa_
        have q573 : a1 < (l0.length : Int) := oa_
        obtain ⟨ad573, b8, b9, e573, hx573_0, hl573_0, hi573_0⟩ := at_L1 HR0.out a1 a7 q573
        cases e573
        replace hx573_0 := (HB.out.cell (World.block_lt_of_cell? w _ hx573_0)).trans hx573_0
        have HR573_0 := ak hi573_0
        have b6 := ak hl573_0
        clear hi573_0 hl573_0
        replace a7 := eq_true a7
        replace q573 := eq_true q573
        have a8 : 0 ≤ (a0 : Int) := oa_
        have q574 : a0 < ((rd_L1 l0 a1).length : Int) := oa_
        obtain ⟨ad574, e574, hx574_0⟩ := Kd.at_int HR573_0.out a0 a8 q574
        cases e574
        replace hx574_0 := (HB.out.cell (World.block_lt_of_cell? w _ hx574_0)).trans hx574_0
        replace a8 := eq_true a8
        replace q574 := eq_true q574
        go_wp2
        go_roundg k2
        case measure => have := HK1.out; have := HK2.out; omega
        case rel => exact ⟨(wrap64 (a5 + (rd (rd_L1 l0 a1) a0))), (wrap64 (a1 + 1)), z0_1, z0_1, H', ⟨(by have := HK1.out; have := HK2.out; omega)⟩, ⟨(xR a3.out)⟩, ⟨z0_0⟩⟩
       replace H := oe2 H
       rcases H with ⟨⟨-, b1, b2⟩, H⟩ | ⟨⟨e1, b1, b2⟩, H⟩
       ·
        have H' := ak H
        clear H
        go_wp2
        go_roundg k2
        case measure => have := HK1.out; have := HK2.out; omega
        case rel => exact ⟨(a2), (wrap64 (a0 + 1)), z0_1, H', ⟨(by have := HK1.out; have := HK2.out; omega)⟩, ⟨(xR a3.out)⟩, ⟨z0_0⟩⟩
       replace H := oe2 H
       rcases H with ⟨⟨-, b3, b4⟩, H⟩ | ⟨⟨e2, b3, b4⟩, H⟩
       ·
        replace H := ok_ H
        obtain ⟨d3, H⟩ := H
        have LMc14 := ak d3
        clear d3
        obtain ⟨y575, hy575⟩ : ∃ y_ : List Int, y_ = (a2 ++ [a0]) := ⟨_, rfl⟩
        replace H : (impl_AtomsOf.l0 k2 l0 a4 y575 (l0.length : Int) (wrap64 (a0 + 1))) = some r := by first | (rw [hy575]; with_reducible exact H) | (have H2_ := (Option.bind_some _ _).symm.trans H; rw [hy575]; with_reducible exact H2_) | (have H2_ := (Option.bind_some _ _).symm.trans H; with_reducible exact H2_) | with_reducible exact H | (rw [hy575]; exact H) | exact H
        have Ny575 := ak hy575
        clear hy575
        have H' := ak H
        clear H
        go_wp2_with (first | ((with_reducible refine gate_builtin (b := .append) (xs := #[.tmp 44, .tmp 46]) rfl ?_); at_builtin; refine Kd.R_append (Kd.int .i64) (w0 := w) w.heap.size rfl (.tmp 44) (.tmp 46) 32 3 (.int .i64 0) 8 rfl Try.underlying32 info3 rfl (by decide) (by omega) u5 a2 a0 [.int .i64 a0] (fun _ => True) (fun _ => False) rfl rfl ?aP (fun _ hk => hk.elim) ?aF ?aO ?aB ?aS ?aL ?_; (case aP => exact rfl); (case aB => exact z0_0); (case aF => exact (fun _ _ => trivial)); (case aO => exact (xR a3.out)); (case aS => exact (below_size z0_0)); (case aL => have := LMc14.out; omega); intro e0 e3 ho hb hg hat; rw [← Ny575.out] at ho; replace HB := ak (hb); have b5 := ak (ho); clear a3; clear ho hb hg hat))
        go_roundg k2
        case measure => have := HK1.out; have := HK2.out; omega
        case rel => exact ⟨(y575), (wrap64 (a0 + 1)), z0_1, H', ⟨(by have := HK1.out; have := HK2.out; omega)⟩, ⟨(xR b5.out)⟩, ⟨z0_0⟩⟩
       have H' := ak H
       clear H
       go_wp2
       go_roundg k2
       case measure => have := HK1.out; have := HK2.out; omega
       case rel => exact ⟨(a2), (wrap64 (a0 + 1)), z0_1, H', ⟨(by have := HK1.out; have := HK2.out; omega)⟩, ⟨(xR a3.out)⟩, ⟨z0_0⟩⟩
    obtain rfl := Option.some.inj H
    go_wp2
    go_ret
    exact ⟨_, (by first | rfl | (simp [errW_none, errW_some] <;> rfl) | (simp [*, errW_none, errW_some] <;> rfl)), (xR a3.out), z0_0⟩
 obtain rfl := Option.some.inj H
 go_enter Try.func42, Try.ntmps42
 go_wp2_with (first | ((with_reducible refine gate_callee (f := 24) rfl ?_); refine gl_ (some 11) Try.func24 #[.slice A0 l0.length c0] ?_; (with_reducible refine (impl_LeastOf.calls k _ _ l0 a4 false _ (y4 HR0.out) d0.out A2.out).mono ?_); rintro e w' ⟨rfl, ⟨nd, rfl⟩⟩; refine ⟨_, rfl, ?_⟩))
 go_ret
 exact ⟨_, (by first | rfl | (simp [errW_none, errW_some] <;> rfl) | (simp [*, errW_none, errW_some] <;> rfl)), (by first | exact Kd.R_nil _ _ _ _ _ | exact Kd.N_nil _ _ _ _ _ | exact Kd.V_nil _ _ _ _ _ | exact Kd.Q_nil _ _ _ _ _ | exact Kd.S_nil _ _ _ _ _), z0_0⟩

end Go.Proofs.Ytilgbnbeonlbnaa.P
