/- 4 texts of this seat joined: walks, and the laws of what they compute. -/
import Derived.Test.YtacifhahfamipaaPk2
import Derived.Test.YtacifhahfamipaaPk3
namespace Go.Proofs.Ytacifhahfamipaa.P
open Go.RowKit Go.Proofs.YtacifhahfamipaaW.PrintWords Go.Proofs.YtacifhahfamipaaW.PrintLast Go.Proofs.YtacifhahfamipaaW.PrintMore
attribute [local go_sem] max2_int min2_int max_two min_two max_three min_three max_four min_four
set_option linter.unusedVariables false
set_option linter.unusedSimpArgs false
theorem z6_3 {p : Prop} (h : p := by have := a9.out; have := HK2.out; have := d7.out; have := HK4.out; have := d3.out; omega) : p := h
theorem z6_2 {p : Prop} (h : p := by have := a9.out; have := HK2.out; have := HK3.out; have := HK4.out; have := HK5.out; omega) : p := h
theorem z6_1 {p : Prop} (h : p := by first | rfl | (simp; done) | (simp [*]; done)) : p := h
theorem z6_0 {p : Prop} (h : p := by repeat (first | exact Drawn0.refl _ | apply Drawn0.step)) : p := h
set_option maxHeartbeats 8000000 in
set_option maxRecDepth 100000 in
theorem impl_OrderOk.calls (k : Nat) (A0 : Option Addr) (c0 : Nat) (l0 : List (List Int)) (r : Bool) (w : World) (hr0 : Kd.C (Kd.slice 3 (Kd.int .i64)) w A0 l0.length l0) (hc0 : l0.length ≤ c0) (h : impl_OrderOk.f k l0 = some r) :
 Calls Try.prog 67 #[.slice A0 l0.length c0] w fun e w' => e = .returned (.bool r) ∧ Drawn0 w w' := by
 have HR0 := ak hr0
 have m8 := ak hc0
 clear hr0 hc0
 have H : (if (l0.length : Int) < 1 then (impl_OrderOk.j0 k l0 (l0.length : Int) true) else (impl_OrderOk.j0 k l0 (l0.length : Int) (decide ((l0.length : Int) > 12)))) = some r := h
 clear h
 have h4 := ak H
 clear H
 go_enter Try.func67, Try.ntmps67
 go_upto_region 2 with (fail)
 go_cut [18] (fun k8 wc => ∃ (kq : Nat) (b6 : Bool), k8 = .bool b6 ∧ Aside0 (impl_OrderOk.j0 kq l0 (l0.length : Int) b6 = some r) ∧ Aside0 (kq ≤ k) ∧ Drawn0 w wc)
 case first =>
  have H := h4.out
  clear h4
  replace H := op_ H
  rcases H with ⟨c3, H⟩ | ⟨c3, H⟩
  ·
   have b7 : decide ((l0.length : Int) < 1) = true := dT_ c3
   have h5 : decide (l0.length < 1) = true := dT_ (by omega)
   clear c3
   (first | rw [b7] | (simp only [i64_w, i32_w]; rw [b7]) | skip)
   have H' := ak H
   clear H
   go_wp2
   go_meet
   case rel => exact ⟨_, (true), z6_1, H', ⟨(by first | omega | exact Nat.le_refl _)⟩, z6_0⟩
  have b7 : decide ((l0.length : Int) < 1) = false := dF_ c3
  have h5 : decide (l0.length < 1) = false := dF_ (by omega)
  clear c3
  (first | rw [b7] | (simp only [i64_w, i32_w]; rw [b7]) | skip)
  have H' := ak H
  clear H
  go_wp2
  go_meet
  case rel => exact ⟨_, (decide ((l0.length : Int) > 12)), z6_1, H', ⟨(by first | omega | exact Nat.le_refl _)⟩, z6_0⟩
 case rest =>
  clear h4
  obtain ⟨kq, b6, rfl, HA, a9, ⟨mc1, rfl⟩⟩ := hcut
  cases kq with
  | zero => exact absurd HA.out (by simp [impl_OrderOk.j0])
  | succ i6 =>
   have H := HA.out
   clear HA
   simp only [impl_OrderOk.j0] at H
   replace H := ox_ H
   rcases H with ⟨rfl, H⟩ | ⟨rfl, H⟩
   ·
    obtain rfl := Option.some.inj H
    go_wp2
    go_ret
    exact ⟨z6_1, z6_0⟩
   have H' := ak H
   clear H
   go_wp2
   go_loopg [21] i6 (fun kq k9 w' => ∃ (a0 : Int), k9 = .int .i64 a0 ∧ Aside0 (impl_OrderOk.l0 kq l0 (l0.length : Int) l0 (l0.length : Int) a0 = some r) ∧ Aside0 (kq ≤ i6) ∧ Drawn0 w w')
   case atStart => exact ⟨(0), z6_1, H', ⟨Nat.le_refl _⟩, z6_0⟩
   case round =>
    clear H'
    try clear c4
    obtain ⟨a0, rfl, HA, HK2, ⟨m2, rfl⟩⟩ := hrel
    cases gk with
    | zero => exact absurd HA.out (by simp [impl_OrderOk.l0])
    | succ k2 =>
     have H := HA.out
     clear HA
     simp only [impl_OrderOk.l0] at H
     replace H := os_ H
     rcases H with ⟨b1, H⟩ | ⟨b1, H⟩
     ·
      replace H := od2 H
      obtain ⟨e0, e1, H⟩ := H
      have h6 := ak H
      clear H
      obtain ⟨ad148, h7, h8, e148, hx148_0, h3, HR148_0, e2, q148⟩ := al_ HR0.out a0
      cases e148
      go_upto_region 7 with (fail)
      go_cut [36] (fun l5 wc => ∃ (kq : Nat) (b8 : Bool), l5 = .bool b8 ∧ Aside0 (impl_OrderOk.j2 kq l0 (l0.length : Int) a0 (rd_L1 l0 a0) l0 (l0.length : Int) a0 b8 = some r) ∧ Aside0 (kq ≤ k2) ∧ Drawn0 w wc)
      case first =>
       have H := h6.out
       clear h6
       replace H := oe2 H
       rcases H with ⟨⟨c9, b9, h9⟩, H⟩ | ⟨⟨c9, b9, h9⟩, H⟩
       ·
        have i0 : ((rd_L1 l0 a0).length == l0.length) = true := by first | simpa using c9 | (simp at c9 ⊢; omega)
        clear c9
        (first | rw [b9] | (simp only [i64_w, i32_w]; rw [b9]) | skip)
        replace H := od_ H
        obtain ⟨i7, H⟩ := H
        have H' := ak H
        clear H
        obtain ⟨ad149, e149, hx149_0, l6, q149⟩ := ai_ HR148_0.out a0
        cases e149
        go_wp2
        go_meet
        case rel => exact ⟨_, (((rd (rd_L1 l0 a0) a0) != 1)), z6_1, H', ⟨(by have := a9.out; have := HK2.out; first | omega | exact Nat.le_refl _)⟩, z6_0⟩
       have i0 : ((rd_L1 l0 a0).length == l0.length) = false := by first | simpa using c9 | (simp at c9 ⊢; omega)
       (first | rw [b9] | (simp only [i64_w, i32_w]; rw [b9]) | skip)
       have H' := ak H
       clear H
       go_wp2
       go_meet
       case rel => exact ⟨_, (true), z6_1, H', ⟨(by have := a9.out; have := HK2.out; first | omega | exact Nat.le_refl _)⟩, z6_0⟩
      case rest =>
       clear h6
       try clear c4
       try clear c5
       try clear b1
       try clear c6
       try clear e0
       try clear c7
       try clear e1
       try clear hx148_0
       try clear e2
       try clear q148
       obtain ⟨kq, b8, rfl, HA, d7, ⟨mc7, rfl⟩⟩ := hcut
       cases kq with
       | zero => exact absurd HA.out (by simp [impl_OrderOk.j2])
       | succ i8 =>
        have H := HA.out
        clear HA
        simp only [impl_OrderOk.j2] at H
        replace H := ox_ H
        rcases H with ⟨rfl, H⟩ | ⟨rfl, H⟩
        ·
         obtain rfl := Option.some.inj H
         go_wp2
         go_ret
         exact ⟨z6_1, z6_0⟩
        have H' := ak H
        clear H
        go_wp2
        go_loopg [39] i8 (fun kq l7 w' => ∃ (a1 : Int), l7 = .int .i64 a1 ∧ Aside0 (impl_OrderOk.l1 kq l0 (l0.length : Int) a0 l0 (l0.length : Int) a0 (rd_L1 l0 a0) ((rd_L1 l0 a0).length : Int) a1 = some r) ∧ Aside0 (kq ≤ i8) ∧ Drawn0 w w')
        case atStart => exact ⟨(0), z6_1, H', ⟨Nat.le_refl _⟩, z6_0⟩
        case round =>
         clear H'
         try clear c4
         try clear c5
         try clear b1
         try clear c6
         try clear e0
         try clear c7
         try clear e1
         try clear l8
         try clear hx148_0
         try clear e2
         try clear q148
         obtain ⟨a1, rfl, HA, HK4, ⟨m4, rfl⟩⟩ := hrel
         cases gk with
         | zero => exact absurd HA.out (by simp [impl_OrderOk.l1])
         | succ k4 =>
          have H := HA.out
          clear HA
          simp only [impl_OrderOk.l1] at H
          replace H := os_ H
          rcases H with ⟨d8, H⟩ | ⟨d8, H⟩
          ·
           replace H := od2 H
           obtain ⟨f2, f3, H⟩ := H
           have e3 := ak H
           clear H
           obtain ⟨ad150, e150, hx150_0, i1, q150⟩ := ai_ HR148_0.out a1
           cases e150
           go_upto_region 12 with (fail)
           go_cut [49] (fun l9 wc => ∃ (kq : Nat) (b2 : Bool), l9 = .bool b2 ∧ Aside0 (impl_OrderOk.j4 kq l0 (l0.length : Int) a0 a1 (rd (rd_L1 l0 a0) a1) l0 (l0.length : Int) a0 (rd_L1 l0 a0) ((rd_L1 l0 a0).length : Int) a1 b2 = some r) ∧ Aside0 (kq ≤ k4) ∧ Drawn0 w wc)
           case first =>
            have H := e3.out
            clear e3
            replace H := oe2 H
            rcases H with ⟨⟨-, b0, f4⟩, H⟩ | ⟨⟨m9, b0, f4⟩, H⟩
            ·
             (first | rw [b0] | (simp only [i64_w, i32_w]; rw [b0]) | skip)
             have H' := ak H
             clear H
             go_wp2
             go_meet
             case rel => exact ⟨_, (false), z6_1, H', ⟨(by have := a9.out; have := HK2.out; have := d7.out; have := HK4.out; first | omega | exact Nat.le_refl _)⟩, z6_0⟩
            (first | rw [b0] | (simp only [i64_w, i32_w]; rw [b0]) | skip)
            have H' := ak H
            clear H
            go_wp2
            go_meet
            case rel => exact ⟨_, (((rd (rd_L1 l0 a0) a1) != 1)), z6_1, H', ⟨(by have := a9.out; have := HK2.out; have := d7.out; have := HK4.out; first | omega | exact Nat.le_refl _)⟩, z6_0⟩
           case rest =>
            clear e3
            try clear c4
            try clear c5
            try clear b1
            try clear c6
            try clear e0
            try clear c7
            try clear e1
            try clear l8
            try clear n0
            try clear d8
            try clear n1
            try clear f2
            try clear n2
            try clear f3
            try clear hx148_0
            try clear hx150_0
            try clear e2
            try clear i1
            try clear q148
            try clear q150
            obtain ⟨kq, b2, rfl, HA, d3, ⟨mc14, rfl⟩⟩ := hcut
            cases kq with
            | zero => exact absurd HA.out (by simp [impl_OrderOk.j4])
            | succ e4 =>
             have H := HA.out
             clear HA
             simp only [impl_OrderOk.j4] at H
             replace H := ox_ H
             rcases H with ⟨rfl, H⟩ | ⟨rfl, H⟩
             ·
              obtain rfl := Option.some.inj H
              go_wp2
              go_ret
              exact ⟨z6_1, z6_0⟩
             replace H := od2 H
             obtain ⟨i9, j1, H⟩ := H
             replace H := oe2 H
             rcases H with ⟨⟨f1, f5, f6⟩, H⟩ | ⟨⟨f1, f5, f6⟩, H⟩
             ·
              have f7 : ((rd_L1 l0 a1).length == l0.length) = true := by first | simpa using f1 | (simp at f1 ⊢; omega)
              clear f1
              replace H := oe2 H
              rcases H with ⟨⟨-, f8, f9⟩, H⟩ | ⟨⟨n3, f8, f9⟩, H⟩
              ·
               replace H := oe2 H
               rcases H with ⟨⟨-, g0, g1⟩, H⟩ | ⟨⟨n4, g0, g1⟩, H⟩
               ·
                have H' := ak H
                clear H
                obtain ⟨ad151, a6, a7, e151, hx151_0, a5, HR151_0, d4, q151⟩ := al_ HR0.out a1
                obtain rfl := ij_ e151
                go_wp2
                go_roundg e4
                case measure => have := a9.out; have := HK2.out; have := d7.out; have := HK4.out; have := d3.out; omega
                case rel => exact ⟨(wrap64 (a1 + 1)), z6_1, H', ⟨z6_3⟩, z6_0⟩
               replace H := od2 H
               obtain ⟨j3, j5, H⟩ := H
               replace H := oe2 H
               rcases H with ⟨⟨-, g2, g3⟩, H⟩ | ⟨⟨n5, g2, g3⟩, H⟩
               ·
                obtain rfl := Option.some.inj H
                obtain ⟨ad151, a6, a7, e151, hx151_0, a5, HR151_0, d4, q151⟩ := al_ HR0.out a1
                obtain rfl := ij_ e151
                obtain ⟨ad152, e5, e6, e152, hx152_0, d5, HR152_0, i2, q152⟩ := al_ HR0.out a1
                obtain rfl := ij_ e152
                obtain ⟨rfl, rfl⟩ := is_ hx151_0 hx152_0
                obtain ⟨ad153, e153, hx153_0, i3, q153⟩ := ai_ HR152_0.out a0
                cases e153
                go_wp2
                go_ret
                exact ⟨z6_1, z6_0⟩
               have H' := ak H
               clear H
               obtain ⟨ad151, a6, a7, e151, hx151_0, a5, HR151_0, d4, q151⟩ := al_ HR0.out a1
               obtain rfl := ij_ e151
               obtain ⟨ad152, e5, e6, e152, hx152_0, d5, HR152_0, i2, q152⟩ := al_ HR0.out a1
               obtain rfl := ij_ e152
               obtain ⟨rfl, rfl⟩ := is_ hx151_0 hx152_0
               obtain ⟨ad153, e153, hx153_0, i3, q153⟩ := ai_ HR152_0.out a0
               cases e153
               go_wp2
               go_roundg e4
               case measure => have := a9.out; have := HK2.out; have := d7.out; have := HK4.out; have := d3.out; omega
               case rel => exact ⟨(wrap64 (a1 + 1)), z6_1, H', ⟨z6_3⟩, z6_0⟩
              have H' := ak H
              clear H
              obtain ⟨ad151, a6, a7, e151, hx151_0, a5, HR151_0, d4, q151⟩ := al_ HR0.out a1
              obtain rfl := ij_ e151
              go_wp2
              go_roundg e4
              case measure => have := a9.out; have := HK2.out; have := d7.out; have := HK4.out; have := d3.out; omega
              case rel => exact ⟨(wrap64 (a1 + 1)), z6_1, H', ⟨z6_3⟩, z6_0⟩
             have f7 : ((rd_L1 l0 a1).length == l0.length) = false := by first | simpa using f1 | (simp at f1 ⊢; omega)
             obtain rfl := Option.some.inj H
             obtain ⟨ad151, a6, a7, e151, hx151_0, a5, HR151_0, d4, q151⟩ := al_ HR0.out a1
             obtain rfl := ij_ e151
             go_wp2
             go_ret
             exact ⟨z6_1, z6_0⟩
          have H' := ak H
          clear H
          go_wp2
          go_roundg k4
          case measure => have := a9.out; have := HK2.out; have := d7.out; have := HK4.out; omega
          case rel => exact ⟨(wrap64 (a0 + 1)), z6_1, H', ⟨(by have := a9.out; have := HK2.out; have := d7.out; have := HK4.out; omega)⟩, z6_0⟩
     have H' := ak H
     clear H
     go_wp2
     go_loopg [79] k2 (fun kq m0 w' => ∃ (a2 : Int), m0 = .int .i64 a2 ∧ Aside0 (impl_OrderOk.l2 kq l0 (l0.length : Int) (l0.length : Int) a2 = some r) ∧ Aside0 (kq ≤ k2) ∧ Drawn0 w w')
     case atStart => exact ⟨(0), z6_1, H', ⟨Nat.le_refl _⟩, z6_0⟩
     case round =>
      clear H'
      try clear c4
      try clear c5
      try clear b1
      obtain ⟨a2, rfl, HA, HK3, ⟨m3, rfl⟩⟩ := hrel
      cases gk with
      | zero => exact absurd HA.out (by simp [impl_OrderOk.l2])
      | succ k3 =>
       have H := HA.out
       clear HA
       simp only [impl_OrderOk.l2] at H
       replace H := os_ H
       rcases H with ⟨d0, H⟩ | ⟨d0, H⟩
       ·
        have H' := ak H
        clear H
        go_wp2
        go_loopg [83] k3 (fun kq m1 w' => ∃ (a3 : Int), m1 = .int .i64 a3 ∧ Aside0 (impl_OrderOk.l3 kq l0 (l0.length : Int) a2 (l0.length : Int) a2 (l0.length : Int) a3 = some r) ∧ Aside0 (kq ≤ k3) ∧ Drawn0 w w')
        case atStart => exact ⟨(0), z6_1, H', ⟨Nat.le_refl _⟩, z6_0⟩
        case round =>
         clear H'
         try clear c4
         try clear c5
         try clear b1
         try clear m6
         try clear d0
         obtain ⟨a3, rfl, HA, HK4, ⟨m4, rfl⟩⟩ := hrel
         cases gk with
         | zero => exact absurd HA.out (by simp [impl_OrderOk.l3])
         | succ k4 =>
          have H := HA.out
          clear HA
          simp only [impl_OrderOk.l3] at H
          replace H := os_ H
          rcases H with ⟨d9, H⟩ | ⟨d9, H⟩
          ·
           have H' := ak H
           clear H
           go_wp2
           go_loopg [87] k4 (fun kq m7 w' => ∃ (a4 : Int), m7 = .int .i64 a4 ∧ Aside0 (impl_OrderOk.l4 kq l0 (l0.length : Int) a2 a3 (l0.length : Int) a2 (l0.length : Int) a3 (l0.length : Int) a4 = some r) ∧ Aside0 (kq ≤ k4) ∧ Drawn0 w w')
           case atStart => exact ⟨(0), z6_1, H', ⟨Nat.le_refl _⟩, z6_0⟩
           case round =>
            clear H'
            try clear c4
            try clear c5
            try clear b1
            try clear m6
            try clear d0
            try clear n6
            try clear d9
            obtain ⟨a4, rfl, HA, HK5, ⟨m5, rfl⟩⟩ := hrel
            cases gk with
            | zero => exact absurd HA.out (by simp [impl_OrderOk.l4])
            | succ k5 =>
             have H := HA.out
             clear HA
             simp only [impl_OrderOk.l4] at H
             replace H := os_ H
             rcases H with ⟨g4, H⟩ | ⟨g4, H⟩
             ·
              replace H := od4 H
              obtain ⟨j6, j7, j8, j9, H⟩ := H
              replace H := oe2 H
              rcases H with ⟨⟨-, g5, g6⟩, H⟩ | ⟨⟨n7, g5, g6⟩, H⟩
              ·
               replace H := od3 H
               obtain ⟨k0, k1, k6, H⟩ := H
               replace H := oe2 H
               rcases H with ⟨⟨-, g7, g8⟩, H⟩ | ⟨⟨n8, g7, g8⟩, H⟩
               ·
                replace H := od_ H
                obtain ⟨k7, H⟩ := H
                replace H := oe2 H
                rcases H with ⟨⟨-, g9, h0⟩, H⟩ | ⟨⟨n9, g9, h0⟩, H⟩
                ·
                 have H' := ak H
                 clear H
                 obtain ⟨ad154, b3, b4, e154, hx154_0, a8, HR154_0, e7, q154⟩ := al_ HR0.out a2
                 cases e154
                 obtain ⟨ad155, e155, hx155_0, e8, q155⟩ := ai_ HR154_0.out a3
                 cases e155
                 obtain ⟨ad156, d1, d2, e156, hx156_0, b5, HR156_0, h1, q156⟩ := al_ HR0.out a3
                 obtain rfl := ij_ e156
                 obtain ⟨ad157, e157, hx157_0, h2, q157⟩ := ai_ HR156_0.out a4
                 cases e157
                 obtain ⟨ad158, e9, f0, e158, hx158_0, d6, HR158_0, i4, q158⟩ := al_ HR0.out a2
                 obtain rfl := ij_ e158
                 obtain ⟨rfl, rfl⟩ := is_ hx154_0 hx158_0
                 obtain ⟨ad159, e159, hx159_0, i5, q159⟩ := ai_ HR158_0.out a4
                 cases e159
                 go_wp2
                 go_roundg k5
                 case measure => have := a9.out; have := HK2.out; have := HK3.out; have := HK4.out; have := HK5.out; omega
                 case rel => exact ⟨(wrap64 (a4 + 1)), z6_1, H', ⟨z6_2⟩, z6_0⟩
                obtain rfl := Option.some.inj H
                obtain ⟨ad154, b3, b4, e154, hx154_0, a8, HR154_0, e7, q154⟩ := al_ HR0.out a2
                cases e154
                obtain ⟨ad155, e155, hx155_0, e8, q155⟩ := ai_ HR154_0.out a3
                cases e155
                obtain ⟨ad156, d1, d2, e156, hx156_0, b5, HR156_0, h1, q156⟩ := al_ HR0.out a3
                obtain rfl := ij_ e156
                obtain ⟨ad157, e157, hx157_0, h2, q157⟩ := ai_ HR156_0.out a4
                cases e157
                obtain ⟨ad158, e9, f0, e158, hx158_0, d6, HR158_0, i4, q158⟩ := al_ HR0.out a2
                obtain rfl := ij_ e158
                obtain ⟨rfl, rfl⟩ := is_ hx154_0 hx158_0
                obtain ⟨ad159, e159, hx159_0, i5, q159⟩ := ai_ HR158_0.out a4
                cases e159
                go_wp2
                go_ret
                exact ⟨z6_1, z6_0⟩
               have H' := ak H
               clear H
               obtain ⟨ad154, b3, b4, e154, hx154_0, a8, HR154_0, e7, q154⟩ := al_ HR0.out a2
               cases e154
               obtain ⟨ad155, e155, hx155_0, e8, q155⟩ := ai_ HR154_0.out a3
               cases e155
               obtain ⟨ad156, d1, d2, e156, hx156_0, b5, HR156_0, h1, q156⟩ := al_ HR0.out a3
               obtain rfl := ij_ e156
               obtain ⟨ad157, e157, hx157_0, h2, q157⟩ := ai_ HR156_0.out a4
               cases e157
               go_wp2
               go_roundg k5
               case measure => have := a9.out; have := HK2.out; have := HK3.out; have := HK4.out; have := HK5.out; omega
               case rel => exact ⟨(wrap64 (a4 + 1)), z6_1, H', ⟨z6_2⟩, z6_0⟩
              have H' := ak H
              clear H
              obtain ⟨ad154, b3, b4, e154, hx154_0, a8, HR154_0, e7, q154⟩ := al_ HR0.out a2
              cases e154
              obtain ⟨ad155, e155, hx155_0, e8, q155⟩ := ai_ HR154_0.out a3
              cases e155
              go_wp2
              go_roundg k5
              case measure => have := a9.out; have := HK2.out; have := HK3.out; have := HK4.out; have := HK5.out; omega
              case rel => exact ⟨(wrap64 (a4 + 1)), z6_1, H', ⟨z6_2⟩, z6_0⟩
             have H' := ak H
             clear H
             go_wp2
             go_roundg k5
             case measure => have := a9.out; have := HK2.out; have := HK3.out; have := HK4.out; have := HK5.out; omega
             case rel => exact ⟨(wrap64 (a3 + 1)), z6_1, H', ⟨z6_2⟩, z6_0⟩
          have H' := ak H
          clear H
          go_wp2
          go_roundg k4
          case measure => have := a9.out; have := HK2.out; have := HK3.out; have := HK4.out; omega
          case rel => exact ⟨(wrap64 (a2 + 1)), z6_1, H', ⟨(by have := a9.out; have := HK2.out; have := HK3.out; have := HK4.out; omega)⟩, z6_0⟩
       obtain rfl := Option.some.inj H
       go_wp2
       go_ret
       exact ⟨z6_1, z6_0⟩

end Go.Proofs.Ytacifhahfamipaa.P

namespace Go.Proofs.Ytacifhahfamipaa.P
open Go.RowKit Go.Proofs.YtacifhahfamipaaW.PrintWords Go.Proofs.YtacifhahfamipaaW.PrintLast Go.Proofs.YtacifhahfamipaaW.PrintMore
attribute [local go_sem] max2_int min2_int max_two min_two max_three min_three max_four min_four
set_option linter.unusedVariables false
set_option linter.unusedSimpArgs false
def impl_turned.T9 : Bool × List (List Nat × List Nat) := (true, [([], []), ([], []), ([0, 1], [0, 1]), ([2], [2]), ([], []), ([], []), ([], []), ([5, 6], [5, 6]), ([7], [7]), ([], []), ([8, 9], [8, 9]), ([10], [10]), ([3, 4, 0, 1, 2, 3, 4, 5, 6, 7, 8, 9, 10, 11], [3, 4]), ([12, 11, 0, 1, 2, 3, 4, 5, 6, 7, 8, 9, 10, 11], [11, 12])])
def impl_turned.B9 : List Nat := [0, 0, 3, 7, 0, 0, 0, 96, 224, 0, 992, 2016, 4095, 8191]
theorem impl_turned.tab9 : rtab .any (opsOf Try.f105 9) = impl_turned.T9 := by kernel_rfl
theorem impl_turned.bits9 : waitsOk impl_turned.T9.2 impl_turned.B9 = true := by kernel_rfl
theorem z7_1 {p : Prop} (h : p := by first | rfl | (simp; done) | (simp [*]; done)) : p := h
theorem z7_0 {p : Prop} (h : p := by repeat (first | (with_reducible first | exact HB.out | apply below_alloc | apply pw_below_drewN | apply below_drew1) | exact HB.out)) : p := h
set_option maxHeartbeats 8000000 in
set_option maxRecDepth 100000 in
theorem impl_turned.calls (k : Nat) (A0 : Option Addr) (c0 : Nat) (l0 : List (List Int)) (r : List (List Int)) (w : World) (hr0 : Kd.C (Kd.slice 3 (Kd.int .i64)) w A0 l0.length l0) (hc0 : l0.length ≤ c0) (h : impl_turned.f k l0 = some r) :
 Calls Try.prog 105 #[.slice A0 l0.length c0] w fun e w' => ∃ v0_ : Value, e = .returned (v0_) ∧ Kd.S (Kd.slice 3 (Kd.int .i64)) 25 w' w.heap.size (fun _ => True) v0_ r ∧ Below w.heap.size w w' := by
 have HR0 := ak hr0
 have f8 := ak hc0
 clear hr0 hc0
 have HB := ak (Below.refl w.heap.size w)
 have H : (if 0 ≤ (l0.length : Int) then (if ((l0.length : Int) : Int).toNat ≤ 11728124029610 then (impl_turned.l0 k l0 (List.replicate ((l0.length : Int) : Int).toNat []) (l0.length : Int) 0) else (none)) else (none)) = some r := h
 clear h
 replace H := ok_ H
 obtain ⟨c2, H⟩ := H
 have b3 := eq_true c2
 have b4 : decide (0 ≤ (l0.length : Int)) = true := dT_ c2
 clear c2
 replace H := ok_ H
 obtain ⟨c3, H⟩ := H
 have b5 := eq_true c3
 have b6 : decide (((l0.length : Int) : Int).toNat ≤ 11728124029610) = true := dT_ c3
 clear c3
 obtain ⟨y177, hy177⟩ : ∃ y_ : List (List Int), y_ = (List.replicate ((l0.length : Int) : Int).toNat []) := ⟨_, rfl⟩
 replace H : (impl_turned.l0 k l0 y177 (l0.length : Int) 0) = some r := by first | (rw [hy177]; with_reducible exact H) | (have H2_ := (Option.bind_some _ _).symm.trans H; rw [hy177]; with_reducible exact H2_) | (have H2_ := (Option.bind_some _ _).symm.trans H; with_reducible exact H2_) | with_reducible exact H | (rw [hy177]; exact H) | exact H
 have Ny177 := ak hy177
 clear hy177
 have H' := ak H
 clear H
 go_enter Try.func105, Try.ntmps105
 go_wp2_with (first | ((with_reducible refine gate_dst (N := 8) rfl ?_); refine Kd.S_make (Kd.slice 3 (Kd.int .i64)) _ 25 rfl (N := 8) rfl 24 _ _ rfl (l0.length : Int) rfl rfl Try.underlying24 (.slice none 0 0) 24 info25 rfl (by decide) (by omega) [] (ok := fun _ => True) (okp := fun _ => True) ⟨_, rfl, Kd.R_nil _ _ _ _ _⟩ (fun _ hk => hk) trivial (oa_) (Nat.le_trans (Nat.mul_le_mul_right _ (oa_ : (l0.length : Int).toNat ≤ 11728124029610)) (by omega)) (Below.refl _ _) (Nat.le_refl _) ?_; intro d8 w4 ho5 hb hg_ hnew_; clear hg_ hnew_; (first | rw [← Ny177.out] at ho5 | (simp only [Int.reduceToNat] at ho5; rw [← Ny177.out] at ho5)); have b7 := ak (Kd.S_lower ho5 (below_size z7_0)); replace HB := ak (below_step z7_0 hb); clear hb ho5))
 go_loopg [11] k (fun kq f5 w' => ∃ (a4 : List (List Int)) (a0 : Int), f5 = .int .i64 a0 ∧ Aside0 (impl_turned.l0 kq l0 a4 (l0.length : Int) a0 = some r) ∧ Aside0 (kq ≤ k) ∧ Aside0 (Kd.S (Kd.slice 3 (Kd.int .i64)) 25 w' w.heap.size (fun _ => True) d8 a4) ∧ Aside0 (Below w.heap.size w w'))
 case atStart => exact ⟨(y177), (0), z7_1, H', ⟨Nat.le_refl _⟩, ⟨(xS b7.out)⟩, ⟨z7_0⟩⟩
 case round =>
  clear H'
  try clear c2
  try clear b3
  try clear b4
  try clear c3
  try clear b5
  try clear b6
  obtain ⟨a4, a0, rfl, HA, HK1, a2, HB⟩ := hrel
  cases gk with
  | zero => exact absurd HA.out (by simp [impl_turned.l0])
  | succ k1 =>
   have H := HA.out
   clear HA
   simp only [impl_turned.l0] at H
   replace H := os_ H
   rcases H with ⟨b8, H⟩ | ⟨b8, H⟩
   ·
    replace H := ok_ H
    obtain ⟨c7, H⟩ := H
    have d9 := eq_true c7
    have e0 : decide (0 ≤ (l0.length : Int)) = true := dT_ c7
    clear c7
    replace H := ok_ H
    obtain ⟨c8, H⟩ := H
    have e1 := eq_true c8
    have e2 : decide (((l0.length : Int) : Int).toNat ≤ 35184372088832) = true := dT_ c8
    clear c8
    obtain ⟨y180, hy180⟩ : ∃ y_ : List Int, y_ = (List.replicate ((l0.length : Int) : Int).toNat 0) := ⟨_, rfl⟩
    replace H : (if 0 ≤ a0 then (if a0 < (a4.length : Int) then (impl_turned.l1 k1 l0 (a4.set (a0 : Int).toNat y180) a0 (l0.length : Int) a0 (l0.length : Int) 0) else (none)) else (none)) = some r := by first | (rw [hy180]; with_reducible exact H) | (have H2_ := (Option.bind_some _ _).symm.trans H; rw [hy180]; with_reducible exact H2_) | (have H2_ := (Option.bind_some _ _).symm.trans H; with_reducible exact H2_) | with_reducible exact H | (rw [hy180]; exact H) | exact H
    have Ny180 := ak hy180
    clear hy180
    replace H := od2 H
    obtain ⟨e3, b9, H⟩ := H
    obtain ⟨y183, hy183⟩ : ∃ y_ : List (List Int), y_ = (a4.set (a0 : Int).toNat y180) := ⟨_, rfl⟩
    replace H : (impl_turned.l1 k1 l0 y183 a0 (l0.length : Int) a0 (l0.length : Int) 0) = some r := by first | (rw [hy183]; with_reducible exact H) | (have H2_ := (Option.bind_some _ _).symm.trans H; rw [hy183]; with_reducible exact H2_) | (have H2_ := (Option.bind_some _ _).symm.trans H; with_reducible exact H2_) | with_reducible exact H | (rw [hy183]; exact H) | exact H
    have Ny183 := ak hy183
    clear hy183
    have H' := ak H
    clear H
    go_wp2_with (first | ((with_reducible refine gate_dst (N := 18) rfl ?_); refine Kd.R_make (Kd.int .i64) _ 3 rfl (N := 18) rfl 25 _ _ rfl (l0.length : Int) rfl rfl Try.underlying25 (.int .i64 0) 8 info3 rfl (by decide) (by omega) 0 (ok := fun _ => True) (okp := fun _ => True) rfl (fun _ hk => hk) trivial (oa_) (Nat.le_trans (Nat.mul_le_mul_right _ (oa_ : (l0.length : Int).toNat ≤ 35184372088832)) (by omega)) (Below.refl _ _) (Nat.le_refl _) ?_; intro a6 e4 ho13 hb hg_ hnew_; clear hg_ hnew_; (first | rw [← Ny180.out] at ho13 | (simp only [Int.reduceToNat] at ho13; rw [← Ny180.out] at ho13)); replace a2 := ak (Kd.S_elder' (xS a2.out) (Kd.R_base ho13) hb); have a5 := ak (Kd.R_lower ho13 (below_size z7_0)); replace HB := ak (below_step z7_0 hb); clear hb ho13; have d5 : 0 ≤ (a0 : Int) := oa_; have q11 : (a0 : Int) < ((a4.length : Int) : Int) := oa_; obtain ⟨go11, a8, d0, d1, gl11, cl11, HG11⟩ := Kd.S_form a2.out (by omega); (first | cases d0 | (injection d0 with ea_ en_ ec_; (first | subst ea_ | (injection ea_ with ea_; subst ea_)); subst ec_; clear en_)); have GB11 := ak d1; have GG11 := ak HG11; clear d1 gl11 HG11; obtain ⟨_, ce11, hcl11, hM11, hcc11, hfr11, _, _⟩ := Kd.S_elem a2.out [] (a0 : Int) d5 q11; obtain ⟨ve11_0, rfl, ge11_0⟩ := hM11; have hx11_0 := hcc11 0 _ rfl; have hf11_0 := hfr11 0; (try simp only [show ((Kd.slice 3 (Kd.int .i64))).sz = 1 from rfl, Nat.mul_one, Nat.add_zero] at hx11_0); (try simp only [show ((Kd.slice 3 (Kd.int .i64))).sz = 1 from rfl, Nat.mul_one, Nat.add_zero] at hf11_0); clear hcl11 hcc11 hfr11; (try clear hM11); replace d5 := eq_true d5; replace q11 := eq_true q11; have n_ := ak (Kd.S_mono (ok' := (fun k_ => some k_ ≠ (a6 : Value).ownBlock)) a2.out (fun k_ hk => hk.2)); clear a2; have a2 := n_; clear n_; have HX14 := ak (show Kd.S (Kd.slice 3 (Kd.int .i64)) 25 e4 w.heap.size (fun k_ => ((fun _ => True)) k_ ∧ ¬ ((fun k_ => some k_ = (a6 : Value).ownBlock)) k_) (.slice (some ⟨go11, 0, none⟩) a4.length a8) a4 from (by (with_reducible repeat (first | apply Kd.S_alloc | apply Kd.S_drewN | apply Kd.S_drew)); exact Kd.S_mono a2.out (fun k_ hk => ⟨trivial, fun e_ => hk e_⟩))); obtain ⟨oki14, ce14, hcl14, hM14, hcc14, hfr14, hoki14, hH14⟩ := Kd.S_elem HX14.out [] (a0 : Int) (oa_) (by have h_ : (a0 : Int) < ((a4.length : Int) : Int) := oa_; first | exact h_ | (have e_ := (Kd.S_reads' a2.out).1; omega) | simpa using h_); obtain ⟨ve14_0, rfl, ge14_0⟩ := hM14; have HP14 := Kd.S_seg hH14 (oa_) (by have h_ : (a0 : Int) < ((a4.length : Int) : Int) := oa_; first | exact h_ | (have e_ := (Kd.S_reads' a2.out).1; omega) | simpa using h_) (seg := [a6]) (j := 0) (show 1 ≤ 1 from by decide) (x' := y180) (Kd.M_row (Kd.R_mono (Kd.R_tight rfl (Kd.R_mono (ok' := fun k_ => ((fun _ => True)) k_ ∧ k_ ≠ go11) (Kd.R_apart' (a5.out) (Kd.S_typed a2.out) (by decide)) (fun k_ hk => ⟨trivial, fun e_ => (hk.2) (by rw [e_]; rfl)⟩))) (fun _ h_ => Or.inr (h_)))) (fun _ hk => hk) (fun k_ hk_ => ((Kd.R_mono (ok' := fun k_ => ((fun _ => True)) k_ ∧ k_ ≠ go11) (Kd.R_apart' (a5.out) (Kd.S_typed a2.out) (by decide)) (fun k_ hk => ⟨trivial, fun e_ => (hk.2) (by rw [e_]; rfl)⟩))).1 k_ hk_.symm); have hx14_0 := hcc14 0 _ rfl; (try simp only [show ((Kd.slice 3 (Kd.int .i64))).sz = 1 from rfl, Nat.mul_one, Nat.add_zero] at hx14_0); have hf14_0 := hfr14 0; (try simp only [show ((Kd.slice 3 (Kd.int .i64))).sz = 1 from rfl, Nat.mul_one, Nat.add_zero] at hf14_0); clear hcl14 hcc14 hfr14 hoki14 hH14; (try clear hM14); (try simp only [show ((Kd.slice 3 (Kd.int .i64))).sz = 1 from rfl, Nat.mul_one, Nat.add_zero] at HP14)) | ((with_reducible refine gate_store (t := 25) (p := 19) rfl ?_); refine store_event (t := 25) (p := 19) (v := ?vo_w15) (w1 := (e4.setCell ⟨go11, (a0 : Int).toNat, none⟩ (a6))) ?hg ?ho ?hn ?hr ?_; (case ho => rfl); (case hg => rfl); (case hn => rfl); (case hr => first | (go_simp; done) | (go_simp; rfl) | (obtain ⟨_, _, e_⟩ := Kd.R_slice a5.out; rw [e_]; first | (go_simp; done) | (go_simp; rfl))); intro e5 hw; have hg : e4.grownBy e5 (some go11) := (by rw [hw]; exact HP14.2); have hp_ : Kd.S (Kd.slice 3 (Kd.int .i64)) 25 e5 w.heap.size (fun _ => True) (.slice (some ⟨go11, 0, none⟩) a4.length a8) y183 := (by rw [hw, Ny183.out]; exact HP14.1); clear HP14; replace a2 := ak (hp_); replace HB := ak ((by rw [hw]; exact below_set (HB.out) GB11.out : Below w.heap.size w e5)); clear a5; clear hg hw hp_))
    go_loopg [22] k1 (fun kq f6 w' => ∃ (a3 : List (List Int)) (a1 : Int), f6 = .int .i64 a1 ∧ Aside0 (impl_turned.l1 kq l0 a3 a0 (l0.length : Int) a0 (l0.length : Int) a1 = some r) ∧ Aside0 (kq ≤ k1) ∧ Aside0 (Kd.S (Kd.slice 3 (Kd.int .i64)) 25 w' w.heap.size (fun _ => True) (.slice (some ⟨go11, 0, none⟩) a4.length a8) a3) ∧ Aside0 (Below w.heap.size w w'))
    case atStart => exact ⟨(y183), (0), z7_1, H', ⟨Nat.le_refl _⟩, ⟨(xS a2.out)⟩, ⟨z7_0⟩⟩
    case round =>
     clear H'
     try clear c2
     try clear b3
     try clear b4
     try clear c3
     try clear b5
     try clear b6
     try clear c6
     try clear b8
     try clear c7
     try clear d9
     try clear e0
     try clear c8
     try clear e1
     try clear e2
     try clear c9
     try clear e3
     try clear f9
     try clear b9
     try clear d5
     try clear q11
     try clear hx11_0
     try clear hx14_0
     obtain ⟨a3, a1, rfl, HA, HK2, a2, HB⟩ := hrel
     have hl3_2 := (Kd.S_reads' a2.out).1
     rw [hl3_2] at a2
     (try simp only [hl3_2])
     cases gk with
     | zero => exact absurd HA.out (by simp [impl_turned.l1])
     | succ k2 =>
      have H := HA.out
      clear HA
      simp only [impl_turned.l1] at H
      replace H := os_ H
      rcases H with ⟨d2, H⟩ | ⟨d2, H⟩
      ·
       replace H := od6 H
       obtain ⟨e9, f0, f1, f2, f3, f4, H⟩ := H
       obtain ⟨y187, hy187⟩ : ∃ y_ : List Int, y_ = ((rd_L1 a3 a0).set (a1 : Int).toNat (rd (rd_L1 l0 a1) a0)) := ⟨_, rfl⟩
       replace H : (impl_turned.l1 k2 l0 (a3.set (a0 : Int).toNat y187) a0 (l0.length : Int) a0 (l0.length : Int) (wrap64 (a1 + 1))) = some r := by first | (rw [hy187]; with_reducible exact H) | (have H2_ := (Option.bind_some _ _).symm.trans H; rw [hy187]; with_reducible exact H2_) | (have H2_ := (Option.bind_some _ _).symm.trans H; with_reducible exact H2_) | with_reducible exact H | (rw [hy187]; exact H) | exact H
       have Ny187 := ak hy187
       clear hy187
       obtain ⟨y189, hy189⟩ : ∃ y_ : List (List Int), y_ = (a3.set (a0 : Int).toNat y187) := ⟨_, rfl⟩
       replace H : (impl_turned.l1 k2 l0 y189 a0 (l0.length : Int) a0 (l0.length : Int) (wrap64 (a1 + 1))) = some r := by first | (rw [hy189]; with_reducible exact H) | (have H2_ := (Option.bind_some _ _).symm.trans H; rw [hy189]; with_reducible exact H2_) | (have H2_ := (Option.bind_some _ _).symm.trans H; with_reducible exact H2_) | with_reducible exact H | (rw [hy189]; exact H) | exact H
       have Ny189 := ak hy189
       clear hy189
       have H' := ak H
       clear H
       try go_wp2
       replace a2 := ak (Kd.S_drew a2.out)
       replace HB := ak (below_drew1 HB.out)
       have a7 : 0 ≤ (a0 : Int) := oa_
       have q184 : a0 < (a3.length : Int) := oa_
       obtain ⟨ad184, e6, a9, e184, hx184_0, hl184_0, hi184_0⟩ := at_L1 (Kd.S_reads' a2.out).2.2 a0 a7 q184
       obtain rfl : (⟨go11, 0, none⟩ : Addr) = ad184 := (by injection e184)
       obtain ⟨ce184, hce184, hMe184, hcc184⟩ := Kd.S_get a2.out [] a0 a7 (by first | exact q184 | exact oa_ | (have e_ := (Kd.S_reads' a2.out).1; omega))
       obtain ⟨ve184_0, rfl, ge184_0⟩ := hMe184
       have hv184_0 := hcc184 0 _ rfl
       rw [Nat.add_zero, show ((Kd.slice 3 (Kd.int .i64))).sz = 1 from rfl, Nat.mul_one] at hv184_0
       replace hv184_0 := Option.some.inj (hv184_0.symm.trans hx184_0)
       rw [hv184_0] at ge184_0
       have HL184_0 := ak (show Kd.R (Kd.int .i64) 3 _ _ _ _ (rd_L1 a3 a0) from ge184_0)
       clear hv184_0 ge184_0
       have HX184_0 := ak hx184_0
       clear hcc184 hce184
       (first | simp only [add_plain] at hx184_0 | simp only [add_at] at hx184_0 | simp only [Addr.add, Nat.zero_add] at hx184_0 | skip)
       have HR184_0 := ak hi184_0
       have d6 := ak hl184_0
       clear hi184_0 hl184_0
       replace a7 := eq_true a7
       replace q184 := eq_true q184
       have b0 : 0 ≤ (a1 : Int) := oa_
       have q185 : a1 < (l0.length : Int) := oa_
       obtain ⟨ad185, e7, b1, e185, hx185_0, hl185_0, hi185_0⟩ := at_L1 HR0.out a1 b0 q185
       have hw185_0 := hx185_0
       cases e185
       replace hx185_0 := (HB.out.cell (World.block_lt_of_cell? w _ hx185_0)).trans hx185_0
       have HR185_0 := ak hi185_0
       have d7 := ak hl185_0
       clear hi185_0 hl185_0
       replace b0 := eq_true b0
       replace q185 := eq_true q185
       have b2 : 0 ≤ (a0 : Int) := oa_
       have q186 : a0 < ((rd_L1 l0 a1).length : Int) := oa_
       obtain ⟨ad186, e186, hx186_0⟩ := Kd.at_int HR185_0.out a0 b2 q186
       have hw186_0 := hx186_0
       cases e186
       replace hx186_0 := (HB.out.cell (World.block_lt_of_cell? w _ hx186_0)).trans hx186_0
       replace b2 := eq_true b2
       replace q186 := eq_true q186
       have e8 : 0 ≤ (a1 : Int) := oa_
       have q23 : (a1 : Int) < (((rd_L1 a3 a0).length : Int) : Int) := oa_
       obtain ⟨go23, f7, d3, d4, gl23, cl23, HG23⟩ := Kd.R_form HL184_0.out (by omega)
       (first | cases d3 | (injection d3 with ea_ en_ ec_; (first | subst ea_ | (injection ea_ with ea_; subst ea_)); subst ec_; clear en_))
       have GB23 := ak d4
       have GG23 := ak HG23
       clear d4 gl23 HG23
       obtain ⟨hx23_0, hf23_0⟩ := Kd.R_celln 0 HL184_0.out (a1 : Int) e8 q23
       replace e8 := eq_true e8
       replace q23 := eq_true q23
       have hq25 : (a0 : Int) < (a3.length : Int) := (by have h_ : (a0 : Int) < ((a3.length : Int) : Int) := oa_; first | exact h_ | (have e_ := (Kd.S_reads' a2.out).1; omega) | simpa only [List.length_set, List.length_set] using h_)
       obtain ⟨oki25, ce25, hcl25, hM25, hcc25, hok25, hbk25⟩ := Kd.S_borrow a2.out [] (a0 : Int) (oa_) hq25
       obtain ⟨ve25_0, rfl, ge25_0⟩ := hM25
       have hv25 := hcc25 0 _ rfl
       rw [Nat.add_zero, show ((Kd.slice 3 (Kd.int .i64))).sz = 1 from rfl, Nat.mul_one] at hv25
       replace hv25 := Option.some.inj (hv25.symm.trans HX184_0.out)
       subst hv25
       clear hcc25 hcl25
       replace ge25_0 := (show Kd.R (Kd.int .i64) 3 _ _ _ _ (rd_L1 a3 a0) from ge25_0)
       have HP25 := Kd.R_putg ge25_0 (a1 : Int) (rd (rd_L1 l0 a1) a0)
       rw [← Ny187.out] at HP25
       have HS25 := hbk25 HP25.2 (fun k_ e_ => by injection e_ with e_; subst e_; exact ge25_0.1 _ rfl) (x' := y187) (Kd.M_row HP25.1)
       rw [← Ny189.out] at HS25
       have HQ25 := ak HS25
       clear HP25 HS25 hbk25 hok25
       refine start_ (n := 14) (S := fun w' => w'.cell? ⟨go11, (a0).toNat, none⟩ = some (.slice (some ⟨go23, 0, none⟩) (rd_L1 a3 a0).length a9) ∧ w'.cell? (ad185.add (a1).toNat) = some (.slice (some ad186) (rd_L1 l0 a1).length b1) ∧ w'.cell? (ad186.add (a0).toNat) = some (.int .i64 (rd (rd_L1 l0 a1) a0))) (ds := [13]) (bA 14 0) (by kernel_rfl) rfl rfl ⟨hx184_0, ((HB.out.cell (World.block_lt_of_cell? w _ hw185_0)).trans hw185_0), ((HB.out.cell (World.block_lt_of_cell? w _ hw186_0)).trans hw186_0)⟩ (fun hHeld => ?_); refine with_tabW impl_turned.tab9 impl_turned.bits9 (fun HT_ HW_ => ?_)
       generalize wr.drew = g0 at a2 HB GG23 HL184_0 HQ25 HR184_0 HR185_0 HX184_0 hf23_0 hx184_0 hx185_0 hx186_0 hx23_0 hHeld ⊢
       refine pu_ (i := 0) (N := some 25) (bA 14 1) ?_
       refine pu_ (i := 1) (N := some 26) (bA 14 3) ?_
       refine pu_ (i := 2) (N := some 27) (bA 14 7) ?_
       refine pu_ (i := 4) (N := some 29) (bA 14 23) ?_
       refine pu_ (i := 5) (N := some 30) (bA 14 55) ?_
       refine pu_ (i := 6) (N := some 31) (bA 14 119) ?_
       refine pu_ (i := 7) (N := some 32) (bA 14 247) ?_
       refine pu_ (i := 9) (N := some 34) (bA 14 759) ?_
       refine tk_ (i := 3) (N := some 28) (bA 14 767) ?_
       refine tk_ (i := 8) (N := some 33) (bA 14 1023) ?_
       refine pu_ (i := 10) (N := some 35) (bA 14 2047) ?_
       refine tk_ (i := 11) (N := some 36) (bA 14 4095) ?_
       refine pu_ (i := 12) (N := some 37) (bA 14 8191) ?_
       refine last_ (i := 13) (N := none) (bA 14 16383) rfl rfl (one_of HT_.out (by kernel_rfl)) (by decide) (fun K hK => ?_)
       refine skip_ (w1 := ?_) (by rfl) rfl ?_ ?_
       rotate_left
       ·
        go_simp
        rfl
       refine hK.out _ _ ?_
       clear hK K
       refine done_ (done_of HT_.out (by kernel_rfl)) ?_
       try go_wp2
       (try simp only [← hl3_2])
       go_roundg k2
       case measure => have := HK1.out; have := HK2.out; omega
       case rel => exact ⟨(y189), (wrap64 (a1 + 1)), z7_1, H', ⟨(by have := HK1.out; have := HK2.out; omega)⟩, ⟨(by (try simp only [hl3_2]); (with_reducible repeat (first | apply Kd.S_alloc | apply Kd.S_drewN | apply Kd.S_drew)); exact HQ25.out)⟩, ⟨(by repeat (first | (with_reducible first | exact HB.out | apply below_alloc | apply pw_below_drewN | apply below_drew1 | refine below_set ?_ GB23.out) | exact HB.out))⟩⟩
      have H' := ak H
      clear H
      go_wp2
      (try simp only [← hl3_2])
      go_roundg k2
      case measure => have := HK1.out; have := HK2.out; omega
      case rel => exact ⟨(a3), (wrap64 (a0 + 1)), z7_1, H', ⟨(by have := HK1.out; have := HK2.out; omega)⟩, ⟨(by (try simp only [hl3_2]); (with_reducible repeat (first | apply Kd.S_alloc | apply Kd.S_drewN | apply Kd.S_drew)); exact a2.out)⟩, ⟨z7_0⟩⟩
   obtain rfl := Option.some.inj H
   go_wp2
   go_ret
   exact ⟨_, (by first | rfl | (simp [errW_none, errW_some] <;> rfl) | (simp [*, errW_none, errW_some] <;> rfl)), (xS a2.out), z7_0⟩

end Go.Proofs.Ytacifhahfamipaa.P

namespace Go.Proofs.Ytacifhahfamipaa.P
open Go.RowKit Go.Proofs.YtacifhahfamipaaW.PrintWords Go.Proofs.YtacifhahfamipaaW.PrintLast Go.Proofs.YtacifhahfamipaaW.PrintMore
attribute [local go_sem] max2_int min2_int max_two min_two max_three min_three max_four min_four
set_option linter.unusedVariables false
set_option linter.unusedSimpArgs false
theorem z3_2 {p : Prop} (h : p := by first | rfl | (simp; done) | (simp [*]; done)) : p := h
theorem z3_1 {p : Prop} (h : p := by first | rfl | (simp [errW_none, errW_some] <;> rfl) | (simp [*, errW_none, errW_some] <;> rfl)) : p := h
theorem z3_0 {p : Prop} (h : p := by repeat (first | (with_reducible first | exact HB.out | apply below_alloc | apply pw_below_drewN | apply below_drew1) | exact HB.out)) : p := h
set_option maxHeartbeats 8000000 in
set_option maxRecDepth 100000 in
theorem impl_LatticeOk.calls (k : Nat) (A0 : Option Addr) (c0 : Nat) (l0 : List (List Int)) (r : Bool) (w : World) (hr0 : Kd.C (Kd.slice 3 (Kd.int .i64)) w A0 l0.length l0) (hc0 : l0.length ≤ c0) (h : impl_LatticeOk.f k l0 = some r) :
 Calls Try.prog 104 #[.slice A0 l0.length c0] w fun e w' => e = .returned (.bool r) ∧ Below w.heap.size w w' := by
 have HR0 := ak hr0
 have a5 := ak hc0
 clear hr0 hc0
 have HB := ak (Below.refl w.heap.size w)
 have H : ((impl_OrderOk.f k l0).bind fun a6 => (if a6 = true then ((impl_turned.f k l0).bind fun a3 => (impl_LatticeOk.l0 k l0 a3 (l0.length : Int) 0)) else (some false))) = some r := h
 clear h
 obtain ⟨a6, A2, H⟩ := bd_ H
 try dsimp only at H
 replace H := ox_ H
 rcases H with ⟨rfl, H⟩ | ⟨rfl, H⟩
 ·
  obtain ⟨a3, A4, H⟩ := bd_ H
  try dsimp only at H
  have H' := ak H
  clear H
  go_enter Try.func104, Try.ntmps104
  go_wp2_with (first | ((with_reducible refine gate_callee (f := 67) rfl ?_); refine gl_ (some 7) Try.func67 #[.slice A0 l0.length c0] ?_; (with_reducible refine (impl_OrderOk.calls k _ _ l0 true _ (y4 HR0.out) a5.out A2.out).mono ?_); rintro e w' ⟨rfl, ⟨nd, rfl⟩⟩; refine ⟨_, rfl, ?_⟩) | ((with_reducible refine gate_callee (f := 105) rfl ?_); refine gl_ (some 10) Try.func105 #[.slice A0 l0.length c0] ?_; (with_reducible refine (impl_turned.calls k _ _ l0 a3 _ (y4 HR0.out) a5.out A4.out).mono ?_); rintro e w' ⟨a7, rfl, ho0, hb⟩; refine ⟨_, rfl, ?_⟩; have a8 := ak (Kd.S_lower ho0 (below_size z3_0)); replace HB := ak (below_step z3_0 hb); (try clear hb); (try clear hb2); (try clear hk); (try clear hi); (try clear ho0)))
  go_loopg [13] k (fun kq b7 w' => ∃ (a0 : Int), b7 = .int .i64 a0 ∧ Aside0 (impl_LatticeOk.l0 kq l0 a3 (l0.length : Int) a0 = some r) ∧ Aside0 (kq ≤ k) ∧ Aside0 (Kd.S (Kd.slice 3 (Kd.int .i64)) 25 w' w.heap.size (fun _ => True) a7 a3) ∧ Aside0 (Below w.heap.size w w'))
  case atStart => exact ⟨(0), z3_2, H', ⟨Nat.le_refl _⟩, ⟨(xS a8.out)⟩, ⟨z3_0⟩⟩
  case round =>
   clear H'
   try clear c3
   obtain ⟨a0, rfl, HA, HK1, a2, HB⟩ := hrel
   cases gk with
   | zero => exact absurd HA.out (by simp [impl_LatticeOk.l0])
   | succ k1 =>
    have H := HA.out
    clear HA
    simp only [impl_LatticeOk.l0] at H
    replace H := os_ H
    rcases H with ⟨a9, H⟩ | ⟨a9, H⟩
    ·
     have H' := ak H
     clear H
     go_wp2
     go_loopg [18] k1 (fun kq b8 w' => ∃ (a1 : Int), b8 = .int .i64 a1 ∧ Aside0 (impl_LatticeOk.l1 kq l0 a3 a0 (l0.length : Int) a0 (l0.length : Int) a1 = some r) ∧ Aside0 (kq ≤ k1) ∧ Aside0 (Kd.S (Kd.slice 3 (Kd.int .i64)) 25 w' w.heap.size (fun _ => True) a7 a3) ∧ Aside0 (Below w.heap.size w w'))
     case atStart => exact ⟨(0), z3_2, H', ⟨Nat.le_refl _⟩, ⟨(xS a2.out)⟩, ⟨z3_0⟩⟩
     case round =>
      clear H'
      try clear c3
      try clear c6
      try clear a9
      obtain ⟨a1, rfl, HA, HK2, a2, HB⟩ := hrel
      cases gk with
      | zero => exact absurd HA.out (by simp [impl_LatticeOk.l1])
      | succ k2 =>
       have H := HA.out
       clear HA
       simp only [impl_LatticeOk.l1] at H
       replace H := os_ H
       rcases H with ⟨b2, H⟩ | ⟨b2, H⟩
       ·
        obtain ⟨a4, A8, H⟩ := bd_ H
        try dsimp only at H
        replace H := os_ H
        rcases H with ⟨b3, H⟩ | ⟨b3, H⟩
        ·
         obtain rfl := Option.some.inj H
         go_wp2_with (first | ((with_reducible refine gate_callee (f := 106) rfl ?_); refine gl_ (some 24) Try.func106 #[.slice A0 l0.length c0, .int .i64 a0, .int .i64 a1] ?_; (with_reducible refine (impl_meet.calls k2 _ _ l0 a0 a1 a4 _ (y3 HR0.out HB.out) a5.out A8.out).mono ?_); rintro e w' ⟨rfl, ⟨nd, rfl⟩⟩; refine ⟨_, rfl, ?_⟩))
         go_ret
         exact ⟨z3_1, z3_0⟩
        obtain ⟨b0, b6, H⟩ := bd_ H
        try dsimp only at H
        replace H := os_ H
        rcases H with ⟨b1, H⟩ | ⟨b1, H⟩
        ·
         obtain rfl := Option.some.inj H
         go_wp2_with (first | ((with_reducible refine gate_callee (f := 106) rfl ?_); refine gl_ (some 24) Try.func106 #[.slice A0 l0.length c0, .int .i64 a0, .int .i64 a1] ?_; (with_reducible refine (impl_meet.calls k2 _ _ l0 a0 a1 a4 _ (y3 HR0.out HB.out) a5.out A8.out).mono ?_); rintro e w' ⟨rfl, ⟨nd, rfl⟩⟩; refine ⟨_, rfl, ?_⟩; obtain ⟨b9, d0, b4⟩ := Kd.S_slice a2.out; subst b4) | (go_at_call 106; (with_reducible refine (impl_meet.calls k2 _ _ a3 a0 a1 b0 _ (y1 a2.out) (y2 a2.out) b6.out).mono ?_); rintro e w' ⟨rfl, ⟨nd, rfl⟩⟩))
         go_ret
         exact ⟨z3_1, z3_0⟩
        have H' := ak H
        clear H
        go_wp2_with (first | ((with_reducible refine gate_callee (f := 106) rfl ?_); refine gl_ (some 24) Try.func106 #[.slice A0 l0.length c0, .int .i64 a0, .int .i64 a1] ?_; (with_reducible refine (impl_meet.calls k2 _ _ l0 a0 a1 a4 _ (y3 HR0.out HB.out) a5.out A8.out).mono ?_); rintro e w' ⟨rfl, ⟨nd, rfl⟩⟩; refine ⟨_, rfl, ?_⟩; obtain ⟨d1, d2, b5⟩ := Kd.S_slice a2.out; subst b5) | (go_at_call 106; (with_reducible refine (impl_meet.calls k2 _ _ a3 a0 a1 b0 _ (y1 a2.out) (y2 a2.out) b6.out).mono ?_); rintro e w' ⟨rfl, ⟨nd, rfl⟩⟩))
        go_roundg k2
        case measure => have := HK1.out; have := HK2.out; omega
        case rel => exact ⟨(wrap64 (a1 + 1)), z3_2, H', ⟨(by have := HK1.out; have := HK2.out; omega)⟩, ⟨(xS a2.out)⟩, ⟨z3_0⟩⟩
       have H' := ak H
       clear H
       go_wp2
       go_roundg k2
       case measure => have := HK1.out; have := HK2.out; omega
       case rel => exact ⟨(wrap64 (a0 + 1)), z3_2, H', ⟨(by have := HK1.out; have := HK2.out; omega)⟩, ⟨(xS a2.out)⟩, ⟨z3_0⟩⟩
    obtain rfl := Option.some.inj H
    go_wp2
    go_ret
    exact ⟨z3_1, z3_0⟩
 obtain rfl := Option.some.inj H
 go_enter Try.func104, Try.ntmps104
 go_wp2_with (first | ((with_reducible refine gate_callee (f := 67) rfl ?_); refine gl_ (some 7) Try.func67 #[.slice A0 l0.length c0] ?_; (with_reducible refine (impl_OrderOk.calls k _ _ l0 false _ (y4 HR0.out) a5.out A2.out).mono ?_); rintro e w' ⟨rfl, ⟨nd, rfl⟩⟩; refine ⟨_, rfl, ?_⟩))
 go_ret
 exact ⟨z3_1, z3_0⟩

end Go.Proofs.Ytacifhahfamipaa.P

namespace Go.Proofs.Ytacifhahfamipaa.P
open Go.RowKit Go.Proofs.YtacifhahfamipaaW.PrintWords Go.Proofs.YtacifhahfamipaaW.PrintLast Go.Proofs.YtacifhahfamipaaW.PrintMore
attribute [local go_sem] max2_int min2_int max_two min_two max_three min_three max_four min_four
set_option linter.unusedVariables false
set_option linter.unusedSimpArgs false
theorem z4_1 {p : Prop} (h : p := by repeat (first | exact Drawn0.refl _ | apply Drawn0.step)) : p := h
theorem z4_0 {p : Prop} (h : p := by first | rfl | (simp; done) | (simp [*]; done)) : p := h
set_option maxHeartbeats 8000000 in
set_option maxRecDepth 100000 in
theorem impl_LeastOf.calls (k : Nat) (A0 : Option Addr) (c0 : Nat) (l0 : List (List Int)) (r1 : Int) (r2 : Bool) (w : World) (hr0 : Kd.C (Kd.slice 3 (Kd.int .i64)) w A0 l0.length l0) (hc0 : l0.length ≤ c0) (h : impl_LeastOf.f k l0 = some (r1, r2)) :
 Calls Try.prog 69 #[.slice A0 l0.length c0] w fun e w' => e = .returned (.tuple #[.int .i64 r1, .bool r2]) ∧ Drawn0 w w' := by
 have HR0 := ak hr0
 have b3 := ak hc0
 clear hr0 hc0
 have H : ((impl_OrderOk.f k l0).bind fun a3 => (if a3 = true then (impl_LeastOf.l0 k l0 (l0.length : Int) 0) else (some ((-1), false)))) = some (r1, r2) := h
 clear h
 obtain ⟨a3, A2, H⟩ := bd_ H
 try dsimp only at H
 replace H := ox_ H
 rcases H with ⟨rfl, H⟩ | ⟨rfl, H⟩
 ·
  have H' := ak H
  clear H
  go_enter Try.func69, Try.ntmps69
  go_wp2_with (first | ((with_reducible refine gate_callee (f := 67) rfl ?_); refine gl_ (some 10) Try.func67 #[.slice A0 l0.length c0] ?_; (with_reducible refine (impl_OrderOk.calls k _ _ l0 true _ (y4 HR0.out) b3.out A2.out).mono ?_); rintro e w' ⟨rfl, ⟨nd, rfl⟩⟩; refine ⟨_, rfl, ?_⟩))
  go_loopg [14] k (fun kq b4 w' => ∃ (a0 : Int), b4 = .int .i64 a0 ∧ Aside0 (impl_LeastOf.l0 kq l0 (l0.length : Int) a0 = some (r1, r2)) ∧ Aside0 (kq ≤ k) ∧ Drawn0 w w')
  case atStart => exact ⟨(0), z4_0, H', ⟨Nat.le_refl _⟩, z4_1⟩
  case round =>
   clear H'
   try clear c3
   obtain ⟨a0, rfl, HA, HK1, ⟨m1, rfl⟩⟩ := hrel
   cases gk with
   | zero => exact absurd HA.out (by simp [impl_LeastOf.l0])
   | succ k1 =>
    have H := HA.out
    clear HA
    simp only [impl_LeastOf.l0] at H
    replace H := os_ H
    rcases H with ⟨a4, H⟩ | ⟨a4, H⟩
    ·
     replace H := od2 H
     obtain ⟨a6, a7, H⟩ := H
     have H' := ak H
     clear H
     obtain ⟨ad175, a8, a9, e175, hx175_0, a5, HR175_0, b0, q175⟩ := al_ HR0.out a0
     cases e175
     go_wp2
     go_loopg [6, 21] k1 (fun kq v6 b5 w' => ∃ (a2 : Bool) (a1 : Int), v6 = .bool a2 ∧ b5 = .int .i64 a1 ∧ Aside0 (impl_LeastOf.l1 kq a0 a2 l0 (l0.length : Int) a0 (rd_L1 l0 a0) ((rd_L1 l0 a0).length : Int) a1 = some (r1, r2)) ∧ Aside0 (kq ≤ k1) ∧ Drawn0 w w')
     case atStart => exact ⟨(true), (0), z4_0, z4_0, H', ⟨Nat.le_refl _⟩, z4_1⟩
     case round =>
      clear H'
      try clear c3
      try clear c4
      try clear a4
      try clear c5
      try clear a6
      try clear c6
      try clear a7
      try clear hx175_0
      try clear b0
      try clear q175
      obtain ⟨a2, a1, rfl, rfl, HA, HK2, ⟨m2, rfl⟩⟩ := hrel
      cases gk with
      | zero => exact absurd HA.out (by simp [impl_LeastOf.l1])
      | succ k2 =>
       have H := HA.out
       clear HA
       simp only [impl_LeastOf.l1] at H
       replace H := os_ H
       rcases H with ⟨b1, H⟩ | ⟨b1, H⟩
       ·
        replace H := od2 H
        obtain ⟨b6, b7, H⟩ := H
        replace H := ox_ H
        rcases H with ⟨rfl, H⟩ | ⟨rfl, H⟩
        ·
         have H' := ak H
         clear H
         obtain ⟨ad176, e176, hx176_0, b2, q176⟩ := ai_ HR175_0.out a1
         cases e176
         go_wp2
         go_roundg k2
         case measure => have := HK1.out; have := HK2.out; omega
         case rel => exact ⟨(((rd (rd_L1 l0 a0) a1) == 1)), (wrap64 (a1 + 1)), z4_0, z4_0, H', ⟨(by have := HK1.out; have := HK2.out; omega)⟩, z4_1⟩
        have H' := ak H
        clear H
        obtain ⟨ad176, e176, hx176_0, b2, q176⟩ := ai_ HR175_0.out a1
        cases e176
        go_wp2
        go_roundg k2
        case measure => have := HK1.out; have := HK2.out; omega
        case rel => exact ⟨(false), (wrap64 (a1 + 1)), z4_0, z4_0, H', ⟨(by have := HK1.out; have := HK2.out; omega)⟩, z4_1⟩
       replace H := ox_ H
       rcases H with ⟨rfl, H⟩ | ⟨rfl, H⟩
       ·
        simp only [Option.some.injEq, Prod.mk.injEq] at H
        obtain ⟨rfl, rfl⟩ := H
        go_wp2
        go_ret2
        exact ⟨z4_0, z4_1⟩
       have H' := ak H
       clear H
       go_wp2
       go_roundg k2
       case measure => have := HK1.out; have := HK2.out; omega
       case rel => exact ⟨(wrap64 (a0 + 1)), z4_0, H', ⟨(by have := HK1.out; have := HK2.out; omega)⟩, z4_1⟩
    simp only [Option.some.injEq, Prod.mk.injEq] at H
    obtain ⟨rfl, rfl⟩ := H
    go_wp2
    go_ret2
    exact ⟨z4_0, z4_1⟩
 simp only [Option.some.injEq, Prod.mk.injEq] at H
 obtain ⟨rfl, rfl⟩ := H
 go_enter Try.func69, Try.ntmps69
 go_wp2_with (first | ((with_reducible refine gate_callee (f := 67) rfl ?_); refine gl_ (some 10) Try.func67 #[.slice A0 l0.length c0] ?_; (with_reducible refine (impl_OrderOk.calls k _ _ l0 false _ (y4 HR0.out) b3.out A2.out).mono ?_); rintro e w' ⟨rfl, ⟨nd, rfl⟩⟩; refine ⟨_, rfl, ?_⟩))
 go_ret2
 exact ⟨z4_0, z4_1⟩

end Go.Proofs.Ytacifhahfamipaa.P
