-- written by gen.py (a program of this session) out of the kit's print of this seat's translation
import Derived.Test.YtacifhahfamipaaPk2
import Derived.Test.YtacifhahfamipaaPk3
import Derived.Test.YtacifhahfamipaaPk4
namespace Go.Proofs.Ytacifhahfamipaa.P
open Go.RowKit Go.Proofs.YtacifhahfamipaaW.PrintWords Go.Proofs.YtacifhahfamipaaW.PrintLast Go.Proofs.YtacifhahfamipaaW.PrintMore
attribute [local go_sem] max2_int min2_int max_two min_two max_three min_three max_four min_four
set_option linter.unusedVariables false
set_option linter.unusedSimpArgs false
theorem z1w_2 {p : Prop} (h : p := by repeat (first | (with_reducible first | exact HB.out | apply below_alloc | apply pw_below_drewN | apply below_drew1) | exact HB.out)) : p := h
theorem z1w_1 {p : Prop} (h : p := by first | rfl | (simp; done) | (simp [*]; done)) : p := h
theorem z1w_0 {p : Prop} (h : p := by repeat (first | (with_reducible first | exact HB.out | apply below_alloc | apply pw_below_drewN | apply below_drew1 | refine below_set ?_ b9.out) | exact HB.out)) : p := h
set_option maxHeartbeats 8000000 in
set_option maxRecDepth 100000 in
theorem spec_SubOk.calls (k : Nat) (A0_0 : Option Addr) (c0_0 : Nat) (l0_0 : List (List Int)) (A0_1 : Option Addr) (c0_1 : Nat) (l0_1 : List Int) (a1 : Int) (r : Bool) (w : World) (hr0_0 : Kd.C (Kd.slice 3 (Kd.int .i64)) w A0_0 l0_0.length l0_0) (hc0_0 : l0_0.length ≤ c0_0) (hr0_1 : Kd.C (Kd.int .i64) w A0_1 l0_1.length l0_1) (hc0_1 : l0_1.length ≤ c0_1) (h : spec_SubOk.f k l0_0 l0_1 a1 = some r) :
 Calls Try.prog 36 #[.agg #[.slice A0_0 l0_0.length c0_0, .slice A0_1 l0_1.length c0_1], .int .i64 a1] w fun e w' => e = .returned (.bool r) ∧ Below w.heap.size w w' := by
 have hu27 := Try.underlying27
 have HR0_0 := ak hr0_0
 have b1 := ak hc0_0
 clear hr0_0 hc0_0
 have HR0_1 := ak hr0_1
 have b4 := ak hc0_1
 clear hr0_1 hc0_1
 have HB := ak (Below.refl w.heap.size w)
 have H : ((spec_LogicOk.f k l0_0 l0_1).bind fun d0 => (if d0 = true then ((spec_l1In.f a1 1 (wrap64 ((shl .i64 1 (l0_1.length : Int)) - 1))).bind fun b2 => (spec_SubOk.j0 k a1 (l0_1.length : Int) (!b2) l0_0 l0_1)) else (spec_SubOk.j0 k a1 (l0_1.length : Int) true l0_0 l0_1))) = some r := h
 clear h
 have e1 := ak H
 clear H
 go_enter Try.func36, Try.ntmps36
 go_upto_region 2 with (first | ((with_reducible refine gate_dst (N := 2) rfl ?_); refine bx_ (N := 2) (cs := #[.slice A0_0 l0_0.length c0_0, .slice A0_1 l0_1.length c0_1]) (t := 27) ?_; intro a8 hg w4 hbox hb; have a0 := ak (hbox); have e6 := ak ((by rw [hg]; exact (below_size z1w_2) : w.heap.size ≤ a8)); have b9 := ak ((by rw [hg]; exact (below_size z1w_2) : w.heap.size ≤ a8)); replace HB := ak (below_step z1w_2 hb); clear hb hbox hg; have a4 := cz20 a0.out; have a5 := cz21 a0.out; have a6 := blk_frozen a0.out 0; have a7 := blk_frozen a0.out 1))
 (try simp only [Act.put, List.setIfInBounds_toArray, List.set_cons_zero, List.set_cons_succ])
 go_cut [21] (fun f6 wc => ∃ (kq : Nat) (b3 : Bool), f6 = .bool b3 ∧ Aside0 (spec_SubOk.j0 kq a1 (l0_1.length : Int) b3 l0_0 l0_1 = some r) ∧ Aside0 (kq ≤ k) ∧ Aside0 (wc.heap[a8]? = some (.cells #[(.slice A0_0 l0_0.length c0_0), (.slice A0_1 l0_1.length c0_1)] 27 (0, 0))) ∧ Aside0 (Below w.heap.size w wc))
 case first =>
  have H := e1.out
  clear e1
  obtain ⟨d0, A6, H⟩ := bd_ H
  try dsimp only at H
  replace H := ox_ H
  rcases H with ⟨rfl, H⟩ | ⟨rfl, H⟩
  ·
   obtain ⟨ji8, hji8⟩ : ∃ j_ : Int, (shl .i64 1 (l0_1.length : Int)) = j_ := ⟨_, rfl⟩
   replace H : ((spec_l1In.f a1 1 (wrap64 ((ji8) - 1))).bind fun b2 => (spec_SubOk.j0 k a1 (l0_1.length : Int) (!b2) l0_0 l0_1)) = some r := by first | (rw [hji8] at H; exact H) | (simp only [hji8] at H ⊢; exact H)
   (try rw [hji8] at A6)
   have hji8_ : (IntKind.i64.wrap (1 * 2 ^ min (l0_1.length : Int).toNat 64)) = ji8 := hji8
   have hji8z : (l0_1.length : Int) ≤ 64 → (IntKind.i64.wrap (1 * 2 ^ (l0_1.length : Int).toNat)) = ji8 := shl_small hji8
   have hji8p : (IntKind.i64.wrap (1 * 2 ^ min l0_1.length 64)) = ji8 := hji8_
   have hji8q : (l0_1.length : Int) ≤ 64 → (IntKind.i64.wrap (1 * 2 ^ l0_1.length)) = ji8 := hji8z
   have hji8r : (IntKind.i64.wrap (2 ^ min l0_1.length 64)) = ji8 := by have h_ := hji8p; rw [Int.one_mul] at h_; exact h_
   have hji8s : (l0_1.length : Int) ≤ 64 → (IntKind.i64.wrap (2 ^ l0_1.length)) = ji8 := fun hle_ => by have h_ := hji8q hle_; rw [Int.one_mul] at h_; exact h_
   have hji8u : (IntKind.i64.wrap (2 ^ min (l0_1.length : Int).toNat 64)) = ji8 := by have h_ := hji8_; rw [Int.one_mul] at h_; exact h_
   have hji8v : (l0_1.length : Int) ≤ 64 → (IntKind.i64.wrap (2 ^ (l0_1.length : Int).toNat)) = ji8 := fun hle_ => by have h_ := hji8z hle_; rw [Int.one_mul] at h_; exact h_
   have hji8y : (wrap64 (1 * 2 ^ min (l0_1.length : Int).toNat 64)) = ji8 := (i64_w _).symm.trans hji8_
   have hji8x : (l0_1.length : Int) ≤ 64 → (wrap64 (1 * 2 ^ (l0_1.length : Int).toNat)) = ji8 := fun h_ => (i64_w _).symm.trans (hji8z h_)
   obtain ⟨b2, A9, H⟩ := bd_ H
   try dsimp only at H
   have H' := ak H
   clear H
   have a4 := cz20 a0.out
   have a5 := cz21 a0.out
   have a6 := blk_frozen a0.out 0
   have a7 := blk_frozen a0.out 1
   go_wp2_with (first | ((with_reducible refine gate_callee (f := 30) rfl ?_); refine gl_ (some 12) Try.func30 #[.agg #[.slice A0_0 l0_0.length c0_0, .slice A0_1 l0_1.length c0_1]] ?_; (with_reducible refine (spec_LogicOk.calls k _ _ l0_0 _ _ l0_1 true _ (y3 HR0_0.out HB.out) b1.out (y3 HR0_1.out HB.out) b4.out A6.out).mono ?_); rintro e w' ⟨rfl, hb⟩; refine ⟨_, rfl, ?_⟩; replace a0 := ak (blk_below (g := a8) (o := .cells #[.slice A0_0 l0_0.length c0_0, .slice A0_1 l0_1.length c0_1] 27 (0, 0)) (xb a0.out) hb); replace HB := ak (below_step z1w_0 hb); (try clear hb); (try clear hb2); (try clear hk); (try clear hi)) | (go_at_call 72; (with_reducible refine (spec_l1In.calls a1 1 (wrap64 ((ji8) - 1)) b2 _ A9.out).mono ?_); rintro e w' ⟨rfl, ⟨nd, rfl⟩⟩))
   go_meet
   case rel => exact ⟨_, (!b2), z1w_1, H', ⟨(by first | omega | exact Nat.le_refl _)⟩, ⟨(xb a0.out)⟩, ⟨z1w_0⟩⟩
  have H' := ak H
  clear H
  have a4 := cz20 a0.out
  have a5 := cz21 a0.out
  have a6 := blk_frozen a0.out 0
  have a7 := blk_frozen a0.out 1
  go_wp2_with (first | ((with_reducible refine gate_callee (f := 30) rfl ?_); refine gl_ (some 12) Try.func30 #[.agg #[.slice A0_0 l0_0.length c0_0, .slice A0_1 l0_1.length c0_1]] ?_; (with_reducible refine (spec_LogicOk.calls k _ _ l0_0 _ _ l0_1 false _ (y3 HR0_0.out HB.out) b1.out (y3 HR0_1.out HB.out) b4.out A6.out).mono ?_); rintro e w' ⟨rfl, hb⟩; refine ⟨_, rfl, ?_⟩; replace a0 := ak (blk_below (g := a8) (o := .cells #[.slice A0_0 l0_0.length c0_0, .slice A0_1 l0_1.length c0_1] 27 (0, 0)) (xb a0.out) hb); replace HB := ak (below_step z1w_0 hb); (try clear hb); (try clear hb2); (try clear hk); (try clear hi)))
  go_meet
  case rel => exact ⟨_, (true), z1w_1, H', ⟨(by first | omega | exact Nat.le_refl _)⟩, ⟨(xb a0.out)⟩, ⟨z1w_0⟩⟩
 case rest =>
  clear e1
  try clear a4
  try clear a5
  try clear a6
  try clear a7
  obtain ⟨kq, b3, rfl, HA, b5, a0, HB⟩ := hcut
  cases kq with
  | zero => exact absurd HA.out (by simp [spec_SubOk.j0])
  | succ e7 =>
   have H := HA.out
   clear HA
   simp only [spec_SubOk.j0] at H
   replace H := ox_ H
   rcases H with ⟨rfl, H⟩ | ⟨rfl, H⟩
   ·
    obtain rfl := Option.some.inj H
    go_wp2
    go_ret
    exact ⟨(by first | rfl | (simp [errW_none, errW_some] <;> rfl) | (simp [*, errW_none, errW_some] <;> rfl)), z1w_0⟩
   have H' := ak H
   clear H
   go_wp2
   go_loopg [6] e7 (fun kq v6 w' => ∃ (a2 : Int), v6 = .int .i64 a2 ∧ Aside0 (spec_SubOk.l0 kq a1 (l0_1.length : Int) a2 l0_0 l0_1 = some r) ∧ Aside0 (kq ≤ e7) ∧ Aside0 (w'.heap[a8]? = some (.cells #[(.slice A0_0 l0_0.length c0_0), (.slice A0_1 l0_1.length c0_1)] 27 (0, 0))) ∧ Aside0 (Below w.heap.size w w'))
   case atStart => exact ⟨(0), z1w_1, H', ⟨Nat.le_refl _⟩, ⟨(xb a0.out)⟩, ⟨z1w_0⟩⟩
   case round =>
    clear H'
    try clear f7
    try clear a4
    try clear a5
    try clear a6
    try clear a7
    obtain ⟨a2, rfl, HA, HK2, a0, HB⟩ := hrel
    cases gk with
    | zero => exact absurd HA.out (by simp [spec_SubOk.l0])
    | succ k2 =>
     have H := HA.out
     clear HA
     simp only [spec_SubOk.l0] at H
     replace H := os_ H
     rcases H with ⟨b6, H⟩ | ⟨b6, H⟩
     ·
      replace H := ok_ H
      obtain ⟨e0, H⟩ := H
      have d1 := eq_true e0
      have d2 : decide (0 ≤ a2) = true := dT_ e0
      clear e0
      obtain ⟨ji17, hji17⟩ : ∃ j_ : Int, (shr .i64 a1 a2) = j_ := ⟨_, rfl⟩
      replace H : (if (Int.tmod (ji17) 2) = 0 then (spec_SubOk.l0 k2 a1 (l0_1.length : Int) (wrap64 (a2 + 1)) l0_0 l0_1) else (spec_SubOk.l1 k2 a1 (l0_1.length : Int) a2 0 l0_0 l0_1)) = some r := by first | (rw [hji17] at H; exact H) | (simp only [hji17] at H ⊢; exact H)
      have hji17_ : (a1 / 2 ^ min a2.toNat 64) = ji17 := hji17
      have hji17z : a2 ≤ 64 → (a1 / 2 ^ a2.toNat) = ji17 := shr_small hji17
      replace H := oe2 H
      rcases H with ⟨⟨-, b7, b8⟩, H⟩ | ⟨⟨f8, b7, b8⟩, H⟩
      ·
       have H' := ak H
       clear H
       go_wp2
       go_roundg k2
       case measure => have := b5.out; have := HK2.out; omega
       case rel => exact ⟨(wrap64 (a2 + 1)), z1w_1, H', ⟨(by have := b5.out; have := HK2.out; omega)⟩, ⟨(xb a0.out)⟩, ⟨z1w_0⟩⟩
      have H' := ak H
      clear H
      go_wp2
      go_loopg [7] k2 (fun kq v7 w' => ∃ (a3 : Int), v7 = .int .i64 a3 ∧ Aside0 (spec_SubOk.l1 kq a1 (l0_1.length : Int) a2 a3 l0_0 l0_1 = some r) ∧ Aside0 (kq ≤ k2) ∧ Aside0 (w'.heap[a8]? = some (.cells #[(.slice A0_0 l0_0.length c0_0), (.slice A0_1 l0_1.length c0_1)] 27 (0, 0))) ∧ Aside0 (Below w.heap.size w w'))
      case atStart => exact ⟨(0), z1w_1, H', ⟨Nat.le_refl _⟩, ⟨(xb a0.out)⟩, ⟨z1w_0⟩⟩
      case round =>
       clear H'
       try clear f7
       try clear f9
       try clear b6
       try clear e0
       try clear d1
       try clear d2
       try clear f8
       try clear b7
       try clear b8
       try clear a4
       try clear a5
       try clear a6
       try clear a7
       obtain ⟨a3, rfl, HA, HK3, a0, HB⟩ := hrel
       cases gk with
       | zero => exact absurd HA.out (by simp [spec_SubOk.l1])
       | succ k3 =>
        have H := HA.out
        clear HA
        simp only [spec_SubOk.l1] at H
        replace H := os_ H
        rcases H with ⟨d3, H⟩ | ⟨d3, H⟩
        ·
         replace H := ok_ H
         obtain ⟨e2, H⟩ := H
         have e8 := eq_true e2
         have e9 : decide (0 ≤ a3) = true := dT_ e2
         clear e2
         obtain ⟨ji21, hji21⟩ : ∃ j_ : Int, (shr .i64 a1 a3) = j_ := ⟨_, rfl⟩
         replace H : (if (Int.tmod (ji21) 2) = 1 then ((spec_l1Meet.f k3 l0_0 a2 a3).bind fun a9 => (if 0 ≤ a9 then (if (Int.tmod (shr .i64 a1 a9) 2) = 0 then (some false) else (spec_SubOk.l1 k3 a1 (l0_1.length : Int) a2 (wrap64 (a3 + 1)) l0_0 l0_1)) else (none))) else (spec_SubOk.l1 k3 a1 (l0_1.length : Int) a2 (wrap64 (a3 + 1)) l0_0 l0_1)) = some r := by first | (rw [hji21] at H; exact H) | (simp only [hji21] at H ⊢; exact H)
         have hji21_ : (a1 / 2 ^ min a3.toNat 64) = ji21 := hji21
         have hji21z : a3 ≤ 64 → (a1 / 2 ^ a3.toNat) = ji21 := shr_small hji21
         replace H := oe2 H
         rcases H with ⟨⟨-, d4, d5⟩, H⟩ | ⟨⟨g0, d4, d5⟩, H⟩
         ·
          obtain ⟨a9, e3, H⟩ := bd_ H
          replace H := ok_ H
          obtain ⟨e4, H⟩ := H
          have f0 := eq_true e4
          have f1 : decide (0 ≤ a9) = true := dT_ e4
          clear e4
          obtain ⟨ji25, hji25⟩ : ∃ j_ : Int, (shr .i64 a1 a9) = j_ := ⟨_, rfl⟩
          replace H : (if (Int.tmod (ji25) 2) = 0 then (some false) else (spec_SubOk.l1 k3 a1 (l0_1.length : Int) a2 (wrap64 (a3 + 1)) l0_0 l0_1)) = some r := by first | (rw [hji25] at H; exact H) | (simp only [hji25] at H ⊢; exact H)
          (try rw [hji25] at e3)
          have hji25_ : (a1 / 2 ^ min a9.toNat 64) = ji25 := hji25
          have hji25z : a9 ≤ 64 → (a1 / 2 ^ a9.toNat) = ji25 := shr_small hji25
          replace H := oe2 H
          rcases H with ⟨⟨-, d6, d7⟩, H⟩ | ⟨⟨g1, d6, d7⟩, H⟩
          ·
           obtain rfl := Option.some.inj H
           have a4 := cz20 a0.out
           have a5 := cz21 a0.out
           have a6 := blk_frozen a0.out 0
           have a7 := blk_frozen a0.out 1
           go_wp2_with (first | (go_at_call 77; (with_reducible refine (spec_l1Meet.calls k3 _ _ l0_0 a2 a3 a9 _ (y3 HR0_0.out HB.out) b1.out e3.out).mono ?_); rintro e w' ⟨rfl, ⟨nd, rfl⟩⟩))
           go_ret
           exact ⟨(by first | rfl | (simp [errW_none, errW_some] <;> rfl) | (simp only [← hji17, ← hji21, ← hji25]; first | rfl | (simp [errW_none, errW_some] <;> rfl)) | (simp [*, errW_none, errW_some] <;> rfl)), z1w_0⟩
          have H' := ak H
          clear H
          have a4 := cz20 a0.out
          have a5 := cz21 a0.out
          have a6 := blk_frozen a0.out 0
          have a7 := blk_frozen a0.out 1
          go_wp2_with (first | (go_at_call 77; (with_reducible refine (spec_l1Meet.calls k3 _ _ l0_0 a2 a3 a9 _ (y3 HR0_0.out HB.out) b1.out e3.out).mono ?_); rintro e w' ⟨rfl, ⟨nd, rfl⟩⟩))
          go_roundg k3
          case measure => have := b5.out; have := HK2.out; have := HK3.out; omega
          case rel => exact ⟨(wrap64 (a3 + 1)), z1w_1, H', ⟨(by have := b5.out; have := HK2.out; have := HK3.out; omega)⟩, ⟨(xb a0.out)⟩, ⟨z1w_0⟩⟩
         have H' := ak H
         clear H
         go_wp2
         go_roundg k3
         case measure => have := b5.out; have := HK2.out; have := HK3.out; omega
         case rel => exact ⟨(wrap64 (a3 + 1)), z1w_1, H', ⟨(by have := b5.out; have := HK2.out; have := HK3.out; omega)⟩, ⟨(xb a0.out)⟩, ⟨z1w_0⟩⟩
        replace H := od2 H
        obtain ⟨f2, f3, H⟩ := H
        replace H := ok_ H
        obtain ⟨e5, H⟩ := H
        have f4 := eq_true e5
        have f5 : decide (0 ≤ (rd l0_1 a2)) = true := dT_ e5
        clear e5
        obtain ⟨ji32, hji32⟩ : ∃ j_ : Int, (shr .i64 a1 (rd l0_1 a2)) = j_ := ⟨_, rfl⟩
        replace H : (if (Int.tmod (ji32) 2) = 0 then (some false) else (spec_SubOk.l0 k3 a1 (l0_1.length : Int) (wrap64 (a2 + 1)) l0_0 l0_1)) = some r := by first | (rw [hji32] at H; exact H) | (simp only [hji32] at H ⊢; exact H)
        have hji32_ : (a1 / 2 ^ min (rd l0_1 a2).toNat 64) = ji32 := hji32
        have hji32z : (rd l0_1 a2) ≤ 64 → (a1 / 2 ^ (rd l0_1 a2).toNat) = ji32 := shr_small hji32
        replace H := oe2 H
        rcases H with ⟨⟨-, d8, d9⟩, H⟩ | ⟨⟨g2, d8, d9⟩, H⟩
        ·
         obtain rfl := Option.some.inj H
         have a4 := cz20 a0.out
         have a5 := cz21 a0.out
         have a6 := blk_frozen a0.out 0
         have a7 := blk_frozen a0.out 1
         have b0 : 0 ≤ (a2 : Int) := oa_
         have q694 : a2 < (l0_1.length : Int) := oa_
         obtain ⟨ad694, e694, hx694_0⟩ := Kd.at_int HR0_1.out a2 b0 q694
         cases e694
         replace hx694_0 := (HB.out.cell (World.block_lt_of_cell? w _ hx694_0)).trans hx694_0
         replace b0 := eq_true b0
         replace q694 := eq_true q694
         go_wp2
         go_ret
         exact ⟨(by first | rfl | (simp [errW_none, errW_some] <;> rfl) | (simp only [← hji17, ← hji32]; first | rfl | (simp [errW_none, errW_some] <;> rfl)) | (simp [*, errW_none, errW_some] <;> rfl)), z1w_0⟩
        have H' := ak H
        clear H
        have a4 := cz20 a0.out
        have a5 := cz21 a0.out
        have a6 := blk_frozen a0.out 0
        have a7 := blk_frozen a0.out 1
        have b0 : 0 ≤ (a2 : Int) := oa_
        have q694 : a2 < (l0_1.length : Int) := oa_
        obtain ⟨ad694, e694, hx694_0⟩ := Kd.at_int HR0_1.out a2 b0 q694
        cases e694
        replace hx694_0 := (HB.out.cell (World.block_lt_of_cell? w _ hx694_0)).trans hx694_0
        replace b0 := eq_true b0
        replace q694 := eq_true q694
        go_wp2
        go_roundg k3
        case measure => have := b5.out; have := HK2.out; have := HK3.out; omega
        case rel => exact ⟨(wrap64 (a2 + 1)), z1w_1, H', ⟨(by have := b5.out; have := HK2.out; have := HK3.out; omega)⟩, ⟨(xb a0.out)⟩, ⟨z1w_0⟩⟩
     obtain rfl := Option.some.inj H
     go_wp2
     go_ret
     exact ⟨(by first | rfl | (simp [errW_none, errW_some] <;> rfl) | (simp [*, errW_none, errW_some] <;> rfl)), z1w_0⟩

end Go.Proofs.Ytacifhahfamipaa.P
