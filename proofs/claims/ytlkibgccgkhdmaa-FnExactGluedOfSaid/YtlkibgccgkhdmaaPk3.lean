/- 11 texts of this seat joined: walks, and the laws of what they compute. -/
import Derived.Test.YtlkibgccgkhdmaaPk2
namespace Go.Proofs.Ytlkibgccgkhdmaa.P
open Go.RowKit Go.Proofs.YtlkibgccgkhdmaaW.PrintWords Go.Proofs.YtlkibgccgkhdmaaW.PrintLast Go.Proofs.YtlkibgccgkhdmaaW.PrintMore
attribute [local go_sem] max2_int min2_int max_two min_two max_three min_three max_four min_four
set_option linter.unusedVariables false
set_option linter.unusedSimpArgs false
theorem zx_3 {p:Prop} (h:p:=by have:=HK1.out;have:=HK2.out;have:=HK3.out;first|omega|exact Nat.le_refl _):p:=h
theorem zx_2 {p:Prop} (h:p:=by have:=HK1.out;have:=HK2.out;have:=HK3.out;have:=b3.out;have:=HK5.out;omega):p:=h
theorem zx_1 {p:Prop} (h:p:=by first|rfl|(simp;done)|(simp [*];done)):p:=h
theorem zx_0 {p:Prop} (h:p:=by repeat (first|exact Drawn0.refl _|apply Drawn0.step)):p:=h
set_option maxHeartbeats 8000000 in
set_option maxRecDepth 100000 in
theorem spec_OrderOk.calls (k:Nat) (A0:Option Addr) (c0:Nat) (l0:List (List Int)) (r:Bool) (w:World) (hr0:Kd.C (Kd.slice 3 (Kd.int .i64)) w A0 l0.length l0) (hc0:l0.length≤c0) (h:spec_OrderOk.f k l0=some r) :
 Calls Try.prog 103 #[.slice A0 l0.length c0] w fun e w'=>e = .returned (.bool r)∧Drawn0 w w':=by
 have HR0:=ak hr0
 have l8:=ak hc0
 clear hr0 hc0
 have H:((spec_l1In.f (l0.length:Int) 1 12).bind fun e5=>(if e5=true then (spec_OrderOk.l0 k l0 (l0.length:Int) 0) else (some false)))=some r:=h
 clear h
 obtain ⟨e5,A2,H⟩:=bd_ H
 try dsimp only at H
 replace H:=ox_ H
 rcases H with ⟨rfl,H⟩|⟨rfl,H⟩
 ·
  have H':=ak H
  clear H
  go_enter Try.func103,Try.ntmps103
  go_wp2_with (first|((with_reducible refine gate_callee (f:=66) rfl ?_);refine gl_ (some 12) Try.func66 #[.int .i64 (l0.length:Int),.int .i64 1,.int .i64 12] ?_;(with_reducible refine (spec_l1In.calls (l0.length:Int) 1 12 true _ A2.out).mono ?_);rintro e w' ⟨rfl,⟨nd,rfl⟩⟩;refine ⟨_,rfl,?_⟩))
  go_loopg [4] k (fun kq v4 w'=>∃ (a2:Int),v4 = .int .i64 a2∧Aside0 (spec_OrderOk.l0 kq l0 (l0.length:Int) a2=some r)∧Aside0 (kq≤k)∧Drawn0 w w')
  case atStart=>exact ⟨(0),zx_1,H',⟨Nat.le_refl _⟩,zx_0⟩
  case round =>
   clear H'
   try clear c3
   obtain ⟨a2,rfl,HA,HK1,⟨m1,rfl⟩⟩:=hrel
   cases gk with
   | zero=>exact absurd HA.out (by simp [spec_OrderOk.l0])
   | succ k1 =>
    have H:=HA.out
    clear HA
    simp only [spec_OrderOk.l0] at H
    replace H:=os_ H
    rcases H with ⟨b2,H⟩|⟨b2,H⟩
    ·
     replace H:=od2 H
     obtain ⟨g6,g7,H⟩:=H
     replace H:=oe2 H
     rcases H with ⟨⟨c7,e6,e7⟩,H⟩|⟨⟨c7,e6,e7⟩,H⟩
     ·
      have e8:((rd_L1 l0 a2).length==l0.length)=true:=by first|simpa using c7|(simp at c7 ⊢;omega)
      clear c7
      have H':=ak H
      clear H
      obtain ⟨ad131,d2,d3,e131,hx131_0,b7,HR131_0,e9,q131⟩:=al_ HR0.out a2
      cases e131
      go_wp2
      go_loopg [5] k1 (fun kq v5 w'=>∃ (a4:Int),v5 = .int .i64 a4∧Aside0 (spec_OrderOk.l1 kq l0 (l0.length:Int) a2 a4=some r)∧Aside0 (kq≤k1)∧Drawn0 w w')
      case atStart=>exact ⟨(0),zx_1,H',⟨Nat.le_refl _⟩,zx_0⟩
      case round =>
       clear H'
       try clear c3
       try clear c4
       try clear b2
       try clear c5
       try clear g6
       try clear c6
       try clear g7
       try clear c7
       try clear e6
       try clear e7
       try clear e8
       try clear hx131_0
       try clear e9
       try clear q131
       obtain ⟨a4,rfl,HA,HK2,⟨m2,rfl⟩⟩:=hrel
       cases gk with
       | zero=>exact absurd HA.out (by simp [spec_OrderOk.l1])
       | succ k2 =>
        have H:=HA.out
        clear HA
        simp only [spec_OrderOk.l1] at H
        replace H:=os_ H
        rcases H with ⟨g8,H⟩|⟨g8,H⟩
        ·
         replace H:=od4 H
         obtain ⟨k7,h9,i0,i1,H⟩:=H
         obtain ⟨k8,i2,H⟩:=bd_ H
         try dsimp only at H
         replace H:=ox_ H
         rcases H with ⟨rfl,H⟩|⟨rfl,H⟩
         ·
          have H':=ak H
          clear H
          obtain ⟨ad132,d4,d5,e132,hx132_0,b8,HR132_0,g9,q132⟩:=al_ HR0.out a2
          obtain rfl:=ij_ e132
          obtain ⟨ad133,e133,hx133_0,h0,q133⟩:=ai_ HR132_0.out a4
          cases e133
          go_wp2_with (first|((with_reducible refine gate_callee (f:=66) rfl ?_);refine gl_ (some 38) Try.func66 #[.int .i64 (rd (rd_L1 l0 a2) a4),.int .i64 0,.int .i64 1] ?_;(with_reducible refine (spec_l1In.calls (rd (rd_L1 l0 a2) a4) 0 1 true _ i2.out).mono ?_);rintro e w' ⟨rfl,⟨nd,rfl⟩⟩;refine ⟨_,rfl,?_⟩))
          go_roundg k2
          case measure=>have:=HK1.out;have:=HK2.out;omega
          case rel=>exact ⟨(wrap64 (a4+1)),zx_1,H',⟨(by have:=HK1.out;have:=HK2.out;omega)⟩,zx_0⟩
         obtain rfl:=Option.some.inj H
         obtain ⟨ad132,d4,d5,e132,hx132_0,b8,HR132_0,g9,q132⟩:=al_ HR0.out a2
         obtain rfl:=ij_ e132
         obtain ⟨ad133,e133,hx133_0,h0,q133⟩:=ai_ HR132_0.out a4
         cases e133
         go_wp2_with (first|((with_reducible refine gate_callee (f:=66) rfl ?_);refine gl_ (some 38) Try.func66 #[.int .i64 (rd (rd_L1 l0 a2) a4),.int .i64 0,.int .i64 1] ?_;(with_reducible refine (spec_l1In.calls (rd (rd_L1 l0 a2) a4) 0 1 false _ i2.out).mono ?_);rintro e w' ⟨rfl,⟨nd,rfl⟩⟩;refine ⟨_,rfl,?_⟩))
         go_ret
         exact ⟨zx_1,zx_0⟩
        have H':=ak H
        clear H
        go_wp2
        go_roundg k2
        case measure=>have:=HK1.out;have:=HK2.out;omega
        case rel=>exact ⟨(wrap64 (a2+1)),zx_1,H',⟨(by have:=HK1.out;have:=HK2.out;omega)⟩,zx_0⟩
     have e8:((rd_L1 l0 a2).length==l0.length)=false:=by first|simpa using c7|(simp at c7 ⊢;omega)
     obtain rfl:=Option.some.inj H
     obtain ⟨ad131,d2,d3,e131,hx131_0,b7,HR131_0,e9,q131⟩:=al_ HR0.out a2
     cases e131
     go_wp2
     go_ret
     exact ⟨zx_1,zx_0⟩
    have H':=ak H
    clear H
    go_wp2
    go_loopg [6] k1 (fun kq v6 w'=>∃ (a0:Int),v6 = .int .i64 a0∧Aside0 (spec_OrderOk.l2 kq l0 (l0.length:Int) a0=some r)∧Aside0 (kq≤k1)∧Drawn0 w w')
    case atStart=>exact ⟨(0),zx_1,H',⟨Nat.le_refl _⟩,zx_0⟩
    case round =>
     clear H'
     try clear c3
     try clear c4
     try clear b2
     obtain ⟨a0,rfl,HA,HK2,⟨m2,rfl⟩⟩:=hrel
     cases gk with
     | zero=>exact absurd HA.out (by simp [spec_OrderOk.l2])
     | succ k2 =>
      have H:=HA.out
      clear HA
      simp only [spec_OrderOk.l2] at H
      replace H:=os_ H
      rcases H with ⟨b0,H⟩|⟨b0,H⟩
      ·
       have H':=ak H
       clear H
       go_wp2
       go_loopg [7] k2 (fun kq v7 w'=>∃ (a1:Int),v7 = .int .i64 a1∧Aside0 (spec_OrderOk.l3 kq l0 (l0.length:Int) a0 a1=some r)∧Aside0 (kq≤k2)∧Drawn0 w w')
       case atStart=>exact ⟨(0),zx_1,H',⟨Nat.le_refl _⟩,zx_0⟩
       case round =>
        clear H'
        try clear c3
        try clear c4
        try clear b2
        try clear i3
        try clear b0
        obtain ⟨a1,rfl,HA,HK3,⟨m3,rfl⟩⟩:=hrel
        cases gk with
        | zero=>exact absurd HA.out (by simp [spec_OrderOk.l3])
        | succ k3 =>
         have H:=HA.out
         clear HA
         simp only [spec_OrderOk.l3] at H
         replace H:=os_ H
         rcases H with ⟨b4,H⟩|⟨b4,H⟩
         ·
          have d6:=ak H
          clear H
          go_upto_region 20 with (fail)
          go_cut [87] (fun k9 wc=>∃ (kq:Nat) (a7:Bool),k9 = .bool a7∧Aside0 (spec_OrderOk.j4 kq l0 (l0.length:Int) a0 a1 a7=some r)∧Aside0 (kq≤k3)∧Drawn0 w wc)
          case first =>
           have H:=d6.out
           clear d6
           replace H:=oe2 H
           rcases H with ⟨⟨-,a6,f0⟩,H⟩|⟨⟨l9,a6,f0⟩,H⟩
           ·
            (first|rw [a6]|(simp only [i64_w,i32_w];rw [a6])|skip)
            replace H:=od4 H
            obtain ⟨i4,i5,i6,i7,H⟩:=H
            replace H:=oe2 H
            rcases H with ⟨⟨-,f1,f2⟩,H⟩|⟨⟨m0,f1,f2⟩,H⟩
            ·
             have H':=ak H
             clear H
             obtain ⟨ad135,d7,d8,e135,hx135_0,b9,HR135_0,h1,q135⟩:=al_ HR0.out a0
             cases e135
             obtain ⟨ad136,e136,hx136_0,h2,q136⟩:=ai_ HR135_0.out a1
             cases e136
             go_wp2
             go_meet
             case rel=>exact ⟨_,(true),zx_1,H',⟨zx_3⟩,zx_0⟩
            have H':=ak H
            clear H
            obtain ⟨ad135,d7,d8,e135,hx135_0,b9,HR135_0,h1,q135⟩:=al_ HR0.out a0
            cases e135
            obtain ⟨ad136,e136,hx136_0,h2,q136⟩:=ai_ HR135_0.out a1
            cases e136
            go_wp2
            go_meet
            case rel=>exact ⟨_,(false),zx_1,H',⟨zx_3⟩,zx_0⟩
           (first|rw [a6]|(simp only [i64_w,i32_w];rw [a6])|skip)
           replace H:=od4 H
           obtain ⟨i8,i9,j0,j1,H⟩:=H
           replace H:=oe2 H
           rcases H with ⟨⟨-,f3,f4⟩,H⟩|⟨⟨m4,f3,f4⟩,H⟩
           ·
            replace H:=od2 H
            obtain ⟨j2,j3,H⟩:=H
            have H':=ak H
            clear H
            obtain ⟨ad137,d9,e0,e137,hx137_0,d0,HR137_0,h3,q137⟩:=al_ HR0.out a0
            cases e137
            obtain ⟨ad138,e138,hx138_0,h4,q138⟩:=ai_ HR137_0.out a1
            cases e138
            obtain ⟨ad139,h5,h6,e139,hx139_0,g5,HR139_0,l5,q139⟩:=al_ HR0.out a1
            obtain rfl:=ij_ e139
            obtain ⟨ad140,e140,hx140_0,l6,q140⟩:=ai_ HR139_0.out a0
            cases e140
            go_wp2
            go_meet
            case rel=>exact ⟨_,(((rd (rd_L1 l0 a1) a0)==1)),zx_1,H',⟨zx_3⟩,zx_0⟩
           have H':=ak H
           clear H
           obtain ⟨ad137,d9,e0,e137,hx137_0,d0,HR137_0,h3,q137⟩:=al_ HR0.out a0
           cases e137
           obtain ⟨ad138,e138,hx138_0,h4,q138⟩:=ai_ HR137_0.out a1
           cases e138
           go_wp2
           go_meet
           case rel=>exact ⟨_,(false),zx_1,H',⟨zx_3⟩,zx_0⟩
          case rest =>
           clear d6
           try clear c3
           try clear c4
           try clear b2
           try clear i3
           try clear b0
           try clear l7
           try clear b4
           obtain ⟨kq,a7,rfl,HA,b3,⟨mc16,rfl⟩⟩:=hcut
           cases kq with
           | zero=>exact absurd HA.out (by simp [spec_OrderOk.j4])
           | succ f5 =>
            have H:=HA.out
            clear HA
            simp only [spec_OrderOk.j4] at H
            replace H:=ox_ H
            rcases H with ⟨rfl,H⟩|⟨rfl,H⟩
            ·
             obtain rfl:=Option.some.inj H
             go_wp2
             go_ret
             exact ⟨zx_1,zx_0⟩
            have H':=ak H
            clear H
            go_wp2
            go_loopg [8] f5 (fun kq v8 w'=>∃ (a3:Int),v8 = .int .i64 a3∧Aside0 (spec_OrderOk.l4 kq l0 (l0.length:Int) a0 a1 a3=some r)∧Aside0 (kq≤f5)∧Drawn0 w w')
            case atStart=>exact ⟨(0),zx_1,H',⟨Nat.le_refl _⟩,zx_0⟩
            case round =>
             clear H'
             try clear c3
             try clear c4
             try clear b2
             try clear i3
             try clear b0
             try clear l7
             try clear b4
             try clear m6
             obtain ⟨a3,rfl,HA,HK5,⟨m5,rfl⟩⟩:=hrel
             cases gk with
             | zero=>exact absurd HA.out (by simp [spec_OrderOk.l4])
             | succ k5 =>
              have H:=HA.out
              clear HA
              simp only [spec_OrderOk.l4] at H
              replace H:=os_ H
              rcases H with ⟨f6,H⟩|⟨f6,H⟩
              ·
               replace H:=od4 H
               obtain ⟨j5,j6,j7,j8,H⟩:=H
               replace H:=oe2 H
               rcases H with ⟨⟨-,f7,f8⟩,H⟩|⟨⟨m7,f7,f8⟩,H⟩
               ·
                replace H:=od3 H
                obtain ⟨j9,k0,k4,H⟩:=H
                replace H:=oe2 H
                rcases H with ⟨⟨-,f9,g0⟩,H⟩|⟨⟨m8,f9,g0⟩,H⟩
                ·
                 replace H:=od_ H
                 obtain ⟨k6,H⟩:=H
                 replace H:=oe2 H
                 rcases H with ⟨⟨-,g1,g2⟩,H⟩|⟨⟨m9,g1,g2⟩,H⟩
                 ·
                  obtain rfl:=Option.some.inj H
                  obtain ⟨ad141,a8,a9,e141,hx141_0,a5,HR141_0,e1,q141⟩:=al_ HR0.out a0
                  cases e141
                  obtain ⟨ad142,e142,hx142_0,e2,q142⟩:=ai_ HR141_0.out a1
                  cases e142
                  obtain ⟨ad143,b5,b6,e143,hx143_0,b1,HR143_0,g3,q143⟩:=al_ HR0.out a1
                  obtain rfl:=ij_ e143
                  obtain ⟨ad144,e144,hx144_0,g4,q144⟩:=ai_ HR143_0.out a3
                  cases e144
                  obtain ⟨ad145,e3,e4,e145,hx145_0,d1,HR145_0,h7,q145⟩:=al_ HR0.out a0
                  obtain rfl:=ij_ e145
                  obtain ⟨rfl,rfl⟩:=is_ hx141_0 hx145_0
                  obtain ⟨ad146,e146,hx146_0,h8,q146⟩:=ai_ HR145_0.out a3
                  cases e146
                  go_wp2
                  go_ret
                  exact ⟨zx_1,zx_0⟩
                 have H':=ak H
                 clear H
                 obtain ⟨ad141,a8,a9,e141,hx141_0,a5,HR141_0,e1,q141⟩:=al_ HR0.out a0
                 cases e141
                 obtain ⟨ad142,e142,hx142_0,e2,q142⟩:=ai_ HR141_0.out a1
                 cases e142
                 obtain ⟨ad143,b5,b6,e143,hx143_0,b1,HR143_0,g3,q143⟩:=al_ HR0.out a1
                 obtain rfl:=ij_ e143
                 obtain ⟨ad144,e144,hx144_0,g4,q144⟩:=ai_ HR143_0.out a3
                 cases e144
                 obtain ⟨ad145,e3,e4,e145,hx145_0,d1,HR145_0,h7,q145⟩:=al_ HR0.out a0
                 obtain rfl:=ij_ e145
                 obtain ⟨rfl,rfl⟩:=is_ hx141_0 hx145_0
                 obtain ⟨ad146,e146,hx146_0,h8,q146⟩:=ai_ HR145_0.out a3
                 cases e146
                 go_wp2
                 go_roundg k5
                 case measure=>have:=HK1.out;have:=HK2.out;have:=HK3.out;have:=b3.out;have:=HK5.out;omega
                 case rel=>exact ⟨(wrap64 (a3+1)),zx_1,H',⟨zx_2⟩,zx_0⟩
                have H':=ak H
                clear H
                obtain ⟨ad141,a8,a9,e141,hx141_0,a5,HR141_0,e1,q141⟩:=al_ HR0.out a0
                cases e141
                obtain ⟨ad142,e142,hx142_0,e2,q142⟩:=ai_ HR141_0.out a1
                cases e142
                obtain ⟨ad143,b5,b6,e143,hx143_0,b1,HR143_0,g3,q143⟩:=al_ HR0.out a1
                obtain rfl:=ij_ e143
                obtain ⟨ad144,e144,hx144_0,g4,q144⟩:=ai_ HR143_0.out a3
                cases e144
                go_wp2
                go_roundg k5
                case measure=>have:=HK1.out;have:=HK2.out;have:=HK3.out;have:=b3.out;have:=HK5.out;omega
                case rel=>exact ⟨(wrap64 (a3+1)),zx_1,H',⟨zx_2⟩,zx_0⟩
               have H':=ak H
               clear H
               obtain ⟨ad141,a8,a9,e141,hx141_0,a5,HR141_0,e1,q141⟩:=al_ HR0.out a0
               cases e141
               obtain ⟨ad142,e142,hx142_0,e2,q142⟩:=ai_ HR141_0.out a1
               cases e142
               go_wp2
               go_roundg k5
               case measure=>have:=HK1.out;have:=HK2.out;have:=HK3.out;have:=b3.out;have:=HK5.out;omega
               case rel=>exact ⟨(wrap64 (a3+1)),zx_1,H',⟨zx_2⟩,zx_0⟩
              have H':=ak H
              clear H
              go_wp2
              go_roundg k5
              case measure=>have:=HK1.out;have:=HK2.out;have:=HK3.out;have:=b3.out;have:=HK5.out;omega
              case rel=>exact ⟨(wrap64 (a1+1)),zx_1,H',⟨zx_2⟩,zx_0⟩
         have H':=ak H
         clear H
         go_wp2
         go_roundg k3
         case measure=>have:=HK1.out;have:=HK2.out;have:=HK3.out;omega
         case rel=>exact ⟨(wrap64 (a0+1)),zx_1,H',⟨(by have:=HK1.out;have:=HK2.out;have:=HK3.out;omega)⟩,zx_0⟩
      obtain rfl:=Option.some.inj H
      go_wp2
      go_ret
      exact ⟨zx_1,zx_0⟩
 obtain rfl:=Option.some.inj H
 go_enter Try.func103,Try.ntmps103
 go_wp2_with (first|((with_reducible refine gate_callee (f:=66) rfl ?_);refine gl_ (some 12) Try.func66 #[.int .i64 (l0.length:Int),.int .i64 1,.int .i64 12] ?_;(with_reducible refine (spec_l1In.calls (l0.length:Int) 1 12 false _ A2.out).mono ?_);rintro e w' ⟨rfl,⟨nd,rfl⟩⟩;refine ⟨_,rfl,?_⟩))
 go_ret
 exact ⟨zx_1,zx_0⟩

end Go.Proofs.Ytlkibgccgkhdmaa.P

namespace Go.Proofs.Ytlkibgccgkhdmaa.P
open Go.RowKit Go.Proofs.YtlkibgccgkhdmaaW.PrintWords Go.Proofs.YtlkibgccgkhdmaaW.PrintLast Go.Proofs.YtlkibgccgkhdmaaW.PrintMore
attribute [local go_sem] max2_int min2_int max_two min_two max_three min_three max_four min_four
set_option linter.unusedVariables false
set_option linter.unusedSimpArgs false
theorem zw_1 {p:Prop} (h:p:=by repeat (first|exact Drawn0.refl _|apply Drawn0.step)):p:=h
theorem zw_0 {p:Prop} (h:p:=by first|rfl|(simp;done)|(simp [*];done)):p:=h
set_option maxHeartbeats 8000000 in
set_option maxRecDepth 100000 in
theorem spec_LeastOf.calls (k:Nat) (A0:Option Addr) (c0:Nat) (l0:List (List Int)) (r1:Int) (r2:Bool) (w:World) (hr0:Kd.C (Kd.slice 3 (Kd.int .i64)) w A0 l0.length l0) (hc0:l0.length≤c0) (h:spec_LeastOf.f k l0=some (r1,r2)) :
 Calls Try.prog 91 #[.slice A0 l0.length c0] w fun e w'=>e = .returned (.tuple #[.int .i64 r1,.bool r2])∧Drawn0 w w':=by
 have HR0:=ak hr0
 have b5:=ak hc0
 clear hr0 hc0
 have H:(spec_LeastOf.l0 k l0 0)=some (r1,r2):=h
 clear h
 have H':=ak H
 clear H
 go_enter Try.func91,Try.ntmps91
 go_wp2
 go_loopg [4] k (fun kq v4 w'=>∃ (a0:Int),v4 = .int .i64 a0∧Aside0 (spec_LeastOf.l0 kq l0 a0=some (r1,r2))∧Aside0 (kq≤k)∧Drawn0 w w')
 case atStart=>exact ⟨(0),zw_0,H',⟨Nat.le_refl _⟩,zw_1⟩
 case round =>
  clear H'
  obtain ⟨a0,rfl,HA,HK1,⟨m1,rfl⟩⟩:=hrel
  cases gk with
  | zero=>exact absurd HA.out (by simp [spec_LeastOf.l0])
  | succ k1 =>
   have H:=HA.out
   clear HA
   simp only [spec_LeastOf.l0] at H
   have a8:=ak H
   clear H
   go_upto_region 2 with (fail)
   go_cut [14] (fun b6 wc=>∃ (kq:Nat) (a2:Bool),b6 = .bool a2∧Aside0 (spec_LeastOf.j1 kq l0 a0 a2=some (r1,r2))∧Aside0 (kq≤k1)∧Drawn0 w wc)
   case first =>
    have H:=a8.out
    clear a8
    replace H:=os_ H
    rcases H with ⟨a3,H⟩|⟨a3,H⟩
    ·
     (first|rw [a3]|(simp only [i64_w,i32_w];rw [a3])|skip)
     obtain ⟨a6,A4,H⟩:=bd_ H
     try dsimp only at H
     have H':=ak H
     clear H
     go_wp2_with (first|(go_at_call 103;(with_reducible refine (spec_OrderOk.calls k1 _ _ l0 a6 _ (y4 HR0.out) b5.out A4.out).mono ?_);rintro e w' ⟨rfl,⟨nd,rfl⟩⟩))
     go_meet
     case rel=>exact ⟨_,(a6),zw_0,H',⟨(by have:=HK1.out;first|omega|exact Nat.le_refl _)⟩,zw_1⟩
    (first|rw [a3]|(simp only [i64_w,i32_w];rw [a3])|skip)
    have H':=ak H
    clear H
    go_wp2
    go_meet
    case rel=>exact ⟨_,(false),zw_0,H',⟨(by have:=HK1.out;first|omega|exact Nat.le_refl _)⟩,zw_1⟩
   case rest =>
    clear a8
    obtain ⟨kq,a2,rfl,HA,a5,⟨mc1,rfl⟩⟩:=hcut
    cases kq with
    | zero=>exact absurd HA.out (by simp [spec_LeastOf.j1])
    | succ b2 =>
     have H:=HA.out
     clear HA
     simp only [spec_LeastOf.j1] at H
     replace H:=ox_ H
     rcases H with ⟨rfl,H⟩|⟨rfl,H⟩
     ·
      have H':=ak H
      clear H
      go_wp2
      go_loopg [5,6] b2 (fun kq v5 v6 w'=>∃ (a4:Bool) (a1:Int),v5 = .bool a4∧v6 = .int .i64 a1∧Aside0 (spec_LeastOf.l1 kq l0 a0 a4 a1=some (r1,r2))∧Aside0 (kq≤b2)∧Drawn0 w w')
      case atStart=>exact ⟨(true),(0),zw_0,zw_0,H',⟨Nat.le_refl _⟩,zw_1⟩
      case round =>
       clear H'
       try clear c5
       obtain ⟨a4,a1,rfl,rfl,HA,HK3,⟨m3,rfl⟩⟩:=hrel
       cases gk with
       | zero=>exact absurd HA.out (by simp [spec_LeastOf.l1])
       | succ k3 =>
        have H:=HA.out
        clear HA
        simp only [spec_LeastOf.l1] at H
        replace H:=os_ H
        rcases H with ⟨a9,H⟩|⟨a9,H⟩
        ·
         replace H:=ox_ H
         rcases H with ⟨rfl,H⟩|⟨rfl,H⟩
         ·
          replace H:=od4 H
          obtain ⟨b7,b8,b3,b4,H⟩:=H
          have H':=ak H
          clear H
          obtain ⟨ad152,b0,b1,e152,hx152_0,a7,HR152_0,b9,q152⟩:=al_ HR0.out a0
          cases e152
          obtain ⟨ad153,e153,hx153_0,d0,q153⟩:=ai_ HR152_0.out a1
          cases e153
          go_wp2
          go_roundg k3
          case measure=>have:=HK1.out;have:=a5.out;have:=HK3.out;omega
          case rel=>exact ⟨(((rd (rd_L1 l0 a0) a1)==1)),(wrap64 (a1+1)),zw_0,zw_0,H',⟨(by have:=HK1.out;have:=a5.out;have:=HK3.out;omega)⟩,zw_1⟩
         have H':=ak H
         clear H
         go_wp2
         go_roundg k3
         case measure=>have:=HK1.out;have:=a5.out;have:=HK3.out;omega
         case rel=>exact ⟨(false),(wrap64 (a1+1)),zw_0,zw_0,H',⟨(by have:=HK1.out;have:=a5.out;have:=HK3.out;omega)⟩,zw_1⟩
        replace H:=ox_ H
        rcases H with ⟨rfl,H⟩|⟨rfl,H⟩
        ·
         simp only [Option.some.injEq,Prod.mk.injEq] at H
         obtain ⟨rfl,rfl⟩:=H
         go_wp2
         go_ret2
         exact ⟨zw_0,zw_1⟩
        have H':=ak H
        clear H
        go_wp2
        go_roundg k3
        case measure=>have:=HK1.out;have:=a5.out;have:=HK3.out;omega
        case rel=>exact ⟨(wrap64 (a0+1)),zw_0,H',⟨(by have:=HK1.out;have:=a5.out;have:=HK3.out;omega)⟩,zw_1⟩
     simp only [Option.some.injEq,Prod.mk.injEq] at H
     obtain ⟨rfl,rfl⟩:=H
     go_wp2
     go_ret2
     exact ⟨zw_0,zw_1⟩

end Go.Proofs.Ytlkibgccgkhdmaa.P

namespace Go.Proofs.Ytlkibgccgkhdmaa.P
open Go.RowKit Go.Proofs.YtlkibgccgkhdmaaW.PrintWords Go.Proofs.YtlkibgccgkhdmaaW.PrintLast Go.Proofs.YtlkibgccgkhdmaaW.PrintMore
attribute [local go_sem] max2_int min2_int max_two min_two max_three min_three max_four min_four
set_option linter.unusedVariables false
set_option linter.unusedSimpArgs false
theorem zz_1 {p:Prop} (h:p:=by repeat (first|exact Drawn0.refl _|apply Drawn0.step)):p:=h
theorem zz_0 {p:Prop} (h:p:=by first|rfl|(simp;done)|(simp [*];done)):p:=h
set_option maxHeartbeats 8000000 in
set_option maxRecDepth 100000 in
theorem spec_l1Meet.calls (k:Nat) (A0:Option Addr) (c0:Nat) (l0:List (List Int)) (a1:Int) (a2:Int) (r:Int) (w:World) (hr0:Kd.C (Kd.slice 3 (Kd.int .i64)) w A0 l0.length l0) (hc0:l0.length≤c0) (h:spec_l1Meet.f k l0 a1 a2=some r) :
 Calls Try.prog 51 #[.slice A0 l0.length c0,.int .i64 a1,.int .i64 a2] w fun e w'=>e = .returned (.int .i64 r)∧Drawn0 w w':=by
 have HR0:=ak hr0
 have h5:=ak hc0
 clear hr0 hc0
 have H:(spec_l1Meet.l0 k l0 a1 a2 (-1) 0)=some r:=h
 clear h
 have H':=ak H
 clear H
 go_enter Try.func51,Try.ntmps51
 go_wp2
 go_loopg [7,8] k (fun kq v7 v8 w'=>∃ (a5:Int) (a0:Int),v7 = .int .i64 a5∧v8 = .int .i64 a0∧Aside0 (spec_l1Meet.l0 kq l0 a1 a2 a5 a0=some r)∧Aside0 (kq≤k)∧Drawn0 w w')
 case atStart=>exact ⟨((-1)),(0),zz_0,zz_0,H',⟨Nat.le_refl _⟩,zz_1⟩
 case round =>
  clear H'
  obtain ⟨a5,a0,rfl,rfl,HA,HK1,⟨m1,rfl⟩⟩:=hrel
  cases gk with
  | zero=>exact absurd HA.out (by simp [spec_l1Meet.l0])
  | succ k1 =>
   have H:=HA.out
   clear HA
   simp only [spec_l1Meet.l0] at H
   replace H:=os_ H
   rcases H with ⟨d9,H⟩|⟨d9,H⟩
   ·
    replace H:=od3 H
    obtain ⟨h1,h2,h3,H⟩:=H
    replace H:=oe2 H
    rcases H with ⟨⟨-,f4,f5⟩,H⟩|⟨⟨c8,f4,f5⟩,H⟩
    ·
     replace H:=od2 H
     obtain ⟨h4,g0,H⟩:=H
     replace H:=oe2 H
     rcases H with ⟨⟨-,e0,e1⟩,H⟩|⟨⟨h6,e0,e1⟩,H⟩
     ·
      replace H:=os_ H
      rcases H with ⟨e2,H⟩|⟨e2,H⟩
      ·
       have H':=ak H
       clear H
       obtain ⟨ad106,a6,a7,e106,hx106_0,a4,HR106_0,b7,q106⟩:=al_ HR0.out a0
       cases e106
       obtain ⟨ad107,e107,hx107_0,b8,q107⟩:=ai_ HR106_0.out a1
       cases e107
       obtain ⟨ad108,b0,b1,e108,hx108_0,a8,HR108_0,d1,q108⟩:=al_ HR0.out a0
       obtain rfl:=ij_ e108
       obtain ⟨rfl,rfl⟩:=is_ hx106_0 hx108_0
       obtain ⟨ad109,e109,hx109_0,d2,q109⟩:=ai_ HR108_0.out a2
       cases e109
       go_wp2
       go_roundg k1
       case measure=>have:=HK1.out;omega
       case rel=>exact ⟨(a0),(wrap64 (a0+1)),zz_0,zz_0,H',⟨(by have:=HK1.out;omega)⟩,zz_1⟩
      replace H:=od3 H
      obtain ⟨g1,g2,g3,H⟩:=H
      replace H:=oe2 H
      rcases H with ⟨⟨-,e3,e4⟩,H⟩|⟨⟨h7,e3,e4⟩,H⟩
      ·
       have H':=ak H
       clear H
       obtain ⟨ad106,a6,a7,e106,hx106_0,a4,HR106_0,b7,q106⟩:=al_ HR0.out a0
       cases e106
       obtain ⟨ad107,e107,hx107_0,b8,q107⟩:=ai_ HR106_0.out a1
       cases e107
       obtain ⟨ad108,b0,b1,e108,hx108_0,a8,HR108_0,d1,q108⟩:=al_ HR0.out a0
       obtain rfl:=ij_ e108
       obtain ⟨rfl,rfl⟩:=is_ hx106_0 hx108_0
       obtain ⟨ad109,e109,hx109_0,d2,q109⟩:=ai_ HR108_0.out a2
       cases e109
       obtain ⟨ad110,d3,d4,e110,hx110_0,b9,HR110_0,f6,q110⟩:=al_ HR0.out a5
       obtain rfl:=ij_ e110
       obtain ⟨ad111,e111,hx111_0,f7,q111⟩:=ai_ HR110_0.out a0
       cases e111
       go_wp2
       go_roundg k1
       case measure=>have:=HK1.out;omega
       case rel=>exact ⟨(a0),(wrap64 (a0+1)),zz_0,zz_0,H',⟨(by have:=HK1.out;omega)⟩,zz_1⟩
      have H':=ak H
      clear H
      obtain ⟨ad106,a6,a7,e106,hx106_0,a4,HR106_0,b7,q106⟩:=al_ HR0.out a0
      cases e106
      obtain ⟨ad107,e107,hx107_0,b8,q107⟩:=ai_ HR106_0.out a1
      cases e107
      obtain ⟨ad108,b0,b1,e108,hx108_0,a8,HR108_0,d1,q108⟩:=al_ HR0.out a0
      obtain rfl:=ij_ e108
      obtain ⟨rfl,rfl⟩:=is_ hx106_0 hx108_0
      obtain ⟨ad109,e109,hx109_0,d2,q109⟩:=ai_ HR108_0.out a2
      cases e109
      obtain ⟨ad110,d3,d4,e110,hx110_0,b9,HR110_0,f6,q110⟩:=al_ HR0.out a5
      obtain rfl:=ij_ e110
      obtain ⟨ad111,e111,hx111_0,f7,q111⟩:=ai_ HR110_0.out a0
      cases e111
      go_wp2
      go_roundg k1
      case measure=>have:=HK1.out;omega
      case rel=>exact ⟨(a5),(wrap64 (a0+1)),zz_0,zz_0,H',⟨(by have:=HK1.out;omega)⟩,zz_1⟩
     have H':=ak H
     clear H
     obtain ⟨ad106,a6,a7,e106,hx106_0,a4,HR106_0,b7,q106⟩:=al_ HR0.out a0
     cases e106
     obtain ⟨ad107,e107,hx107_0,b8,q107⟩:=ai_ HR106_0.out a1
     cases e107
     obtain ⟨ad108,b0,b1,e108,hx108_0,a8,HR108_0,d1,q108⟩:=al_ HR0.out a0
     obtain rfl:=ij_ e108
     obtain ⟨rfl,rfl⟩:=is_ hx106_0 hx108_0
     obtain ⟨ad109,e109,hx109_0,d2,q109⟩:=ai_ HR108_0.out a2
     cases e109
     go_wp2
     go_roundg k1
     case measure=>have:=HK1.out;omega
     case rel=>exact ⟨(a5),(wrap64 (a0+1)),zz_0,zz_0,H',⟨(by have:=HK1.out;omega)⟩,zz_1⟩
    have H':=ak H
    clear H
    obtain ⟨ad106,a6,a7,e106,hx106_0,a4,HR106_0,b7,q106⟩:=al_ HR0.out a0
    cases e106
    obtain ⟨ad107,e107,hx107_0,b8,q107⟩:=ai_ HR106_0.out a1
    cases e107
    go_wp2
    go_roundg k1
    case measure=>have:=HK1.out;omega
    case rel=>exact ⟨(a5),(wrap64 (a0+1)),zz_0,zz_0,H',⟨(by have:=HK1.out;omega)⟩,zz_1⟩
   have H':=ak H
   clear H
   go_wp2
   go_loopg [9] k1 (fun kq v9 w'=>∃ (a3:Int),v9 = .int .i64 a3∧Aside0 (spec_l1Meet.l1 kq l0 a1 a2 a5 a3=some r)∧Aside0 (kq≤k1)∧Drawn0 w w')
   case atStart=>exact ⟨(0),zz_0,H',⟨Nat.le_refl _⟩,zz_1⟩
   case round =>
    clear H'
    try clear c4
    try clear d9
    obtain ⟨a3,rfl,HA,HK2,⟨m2,rfl⟩⟩:=hrel
    cases gk with
    | zero=>exact absurd HA.out (by simp [spec_l1Meet.l1])
    | succ k2 =>
     have H:=HA.out
     clear HA
     simp only [spec_l1Meet.l1] at H
     replace H:=os_ H
     rcases H with ⟨e5,H⟩|⟨e5,H⟩
     ·
      replace H:=od3 H
      obtain ⟨g4,g5,g6,H⟩:=H
      replace H:=oe2 H
      rcases H with ⟨⟨-,e6,e7⟩,H⟩|⟨⟨h8,e6,e7⟩,H⟩
      ·
       replace H:=od2 H
       obtain ⟨g7,g8,H⟩:=H
       replace H:=oe2 H
       rcases H with ⟨⟨-,e8,e9⟩,H⟩|⟨⟨h9,e8,e9⟩,H⟩
       ·
        replace H:=od2 H
        obtain ⟨g9,h0,H⟩:=H
        replace H:=oe2 H
        rcases H with ⟨⟨-,f0,f1⟩,H⟩|⟨⟨i0,f0,f1⟩,H⟩
        ·
         obtain rfl:=Option.some.inj H
         obtain ⟨ad112,b2,b3,e112,hx112_0,a9,HR112_0,d5,q112⟩:=al_ HR0.out a3
         cases e112
         obtain ⟨ad113,e113,hx113_0,d6,q113⟩:=ai_ HR112_0.out a1
         cases e113
         obtain ⟨ad114,b5,b6,e114,hx114_0,b4,HR114_0,f2,q114⟩:=al_ HR0.out a3
         obtain rfl:=ij_ e114
         obtain ⟨rfl,rfl⟩:=is_ hx112_0 hx114_0
         obtain ⟨ad115,e115,hx115_0,f3,q115⟩:=ai_ HR114_0.out a2
         cases e115
         obtain ⟨ad116,d7,d8,e116,hx116_0,d0,HR116_0,f8,q116⟩:=al_ HR0.out a3
         obtain rfl:=ij_ e116
         obtain ⟨rfl,rfl⟩:=is_ hx112_0 hx116_0
         obtain ⟨ad117,e117,hx117_0,f9,q117⟩:=ai_ HR116_0.out a5
         cases e117
         go_wp2
         go_ret
         exact ⟨zz_0,zz_1⟩
        have H':=ak H
        clear H
        obtain ⟨ad112,b2,b3,e112,hx112_0,a9,HR112_0,d5,q112⟩:=al_ HR0.out a3
        cases e112
        obtain ⟨ad113,e113,hx113_0,d6,q113⟩:=ai_ HR112_0.out a1
        cases e113
        obtain ⟨ad114,b5,b6,e114,hx114_0,b4,HR114_0,f2,q114⟩:=al_ HR0.out a3
        obtain rfl:=ij_ e114
        obtain ⟨rfl,rfl⟩:=is_ hx112_0 hx114_0
        obtain ⟨ad115,e115,hx115_0,f3,q115⟩:=ai_ HR114_0.out a2
        cases e115
        obtain ⟨ad116,d7,d8,e116,hx116_0,d0,HR116_0,f8,q116⟩:=al_ HR0.out a3
        obtain rfl:=ij_ e116
        obtain ⟨rfl,rfl⟩:=is_ hx112_0 hx116_0
        obtain ⟨ad117,e117,hx117_0,f9,q117⟩:=ai_ HR116_0.out a5
        cases e117
        go_wp2
        go_roundg k2
        case measure=>have:=HK1.out;have:=HK2.out;omega
        case rel=>exact ⟨(wrap64 (a3+1)),zz_0,H',⟨(by have:=HK1.out;have:=HK2.out;omega)⟩,zz_1⟩
       have H':=ak H
       clear H
       obtain ⟨ad112,b2,b3,e112,hx112_0,a9,HR112_0,d5,q112⟩:=al_ HR0.out a3
       cases e112
       obtain ⟨ad113,e113,hx113_0,d6,q113⟩:=ai_ HR112_0.out a1
       cases e113
       obtain ⟨ad114,b5,b6,e114,hx114_0,b4,HR114_0,f2,q114⟩:=al_ HR0.out a3
       obtain rfl:=ij_ e114
       obtain ⟨rfl,rfl⟩:=is_ hx112_0 hx114_0
       obtain ⟨ad115,e115,hx115_0,f3,q115⟩:=ai_ HR114_0.out a2
       cases e115
       go_wp2
       go_roundg k2
       case measure=>have:=HK1.out;have:=HK2.out;omega
       case rel=>exact ⟨(wrap64 (a3+1)),zz_0,H',⟨(by have:=HK1.out;have:=HK2.out;omega)⟩,zz_1⟩
      have H':=ak H
      clear H
      obtain ⟨ad112,b2,b3,e112,hx112_0,a9,HR112_0,d5,q112⟩:=al_ HR0.out a3
      cases e112
      obtain ⟨ad113,e113,hx113_0,d6,q113⟩:=ai_ HR112_0.out a1
      cases e113
      go_wp2
      go_roundg k2
      case measure=>have:=HK1.out;have:=HK2.out;omega
      case rel=>exact ⟨(wrap64 (a3+1)),zz_0,H',⟨(by have:=HK1.out;have:=HK2.out;omega)⟩,zz_1⟩
     obtain rfl:=Option.some.inj H
     go_wp2
     go_ret
     exact ⟨zz_0,zz_1⟩

end Go.Proofs.Ytlkibgccgkhdmaa.P

namespace Go.Proofs.Ytlkibgccgkhdmaa.P
open Go.RowKit Go.Proofs.YtlkibgccgkhdmaaW.PrintWords Go.Proofs.YtlkibgccgkhdmaaW.PrintLast Go.Proofs.YtlkibgccgkhdmaaW.PrintMore
attribute [local go_sem] max2_int min2_int max_two min_two max_three min_three max_four min_four
set_option linter.unusedVariables false
set_option linter.unusedSimpArgs false
theorem z11_1 {p:Prop} (h:p:=by repeat (first|exact Drawn0.refl _|apply Drawn0.step)):p:=h
theorem z11_0 {p:Prop} (h:p:=by first|rfl|(simp;done)|(simp [*];done)):p:=h
set_option maxHeartbeats 8000000 in
set_option maxRecDepth 100000 in
theorem spec_l1Join.calls (k:Nat) (A0:Option Addr) (c0:Nat) (l0:List (List Int)) (a1:Int) (a2:Int) (r:Int) (w:World) (hr0:Kd.C (Kd.slice 3 (Kd.int .i64)) w A0 l0.length l0) (hc0:l0.length≤c0) (h:spec_l1Join.f k l0 a1 a2=some r) :
 Calls Try.prog 97 #[.slice A0 l0.length c0,.int .i64 a1,.int .i64 a2] w fun e w'=>e = .returned (.int .i64 r)∧Drawn0 w w':=by
 have HR0:=ak hr0
 have h9:=ak hc0
 clear hr0 hc0
 have H:(spec_l1Join.l0 k l0 a1 a2 (-1) 0)=some r:=h
 clear h
 have H':=ak H
 clear H
 go_enter Try.func97,Try.ntmps97
 go_wp2
 go_loopg [7,8] k (fun kq v7 v8 w'=>∃ (a5:Int) (a0:Int),v7 = .int .i64 a5∧v8 = .int .i64 a0∧Aside0 (spec_l1Join.l0 kq l0 a1 a2 a5 a0=some r)∧Aside0 (kq≤k)∧Drawn0 w w')
 case atStart=>exact ⟨((-1)),(0),z11_0,z11_0,H',⟨Nat.le_refl _⟩,z11_1⟩
 case round =>
  clear H'
  obtain ⟨a5,a0,rfl,rfl,HA,HK1,⟨m1,rfl⟩⟩:=hrel
  cases gk with
  | zero=>exact absurd HA.out (by simp [spec_l1Join.l0])
  | succ k1 =>
   have H:=HA.out
   clear HA
   simp only [spec_l1Join.l0] at H
   replace H:=os_ H
   rcases H with ⟨d9,H⟩|⟨d9,H⟩
   ·
    replace H:=od4 H
    obtain ⟨h5,h6,h7,h8,H⟩:=H
    replace H:=oe2 H
    rcases H with ⟨⟨-,f4,f5⟩,H⟩|⟨⟨c9,f4,f5⟩,H⟩
    ·
     replace H:=od3 H
     obtain ⟨g0,g1,g2,H⟩:=H
     replace H:=oe2 H
     rcases H with ⟨⟨-,e0,e1⟩,H⟩|⟨⟨i0,e0,e1⟩,H⟩
     ·
      replace H:=os_ H
      rcases H with ⟨e2,H⟩|⟨e2,H⟩
      ·
       have H':=ak H
       clear H
       obtain ⟨ad118,a6,a7,e118,hx118_0,a4,HR118_0,b7,q118⟩:=al_ HR0.out a1
       cases e118
       obtain ⟨ad119,e119,hx119_0,b8,q119⟩:=ai_ HR118_0.out a0
       cases e119
       obtain ⟨ad120,b0,b1,e120,hx120_0,a8,HR120_0,d1,q120⟩:=al_ HR0.out a2
       obtain rfl:=ij_ e120
       obtain ⟨ad121,e121,hx121_0,d2,q121⟩:=ai_ HR120_0.out a0
       cases e121
       go_wp2
       go_roundg k1
       case measure=>have:=HK1.out;omega
       case rel=>exact ⟨(a0),(wrap64 (a0+1)),z11_0,z11_0,H',⟨(by have:=HK1.out;omega)⟩,z11_1⟩
      replace H:=od2 H
      obtain ⟨g3,g4,H⟩:=H
      replace H:=oe2 H
      rcases H with ⟨⟨-,e3,e4⟩,H⟩|⟨⟨i1,e3,e4⟩,H⟩
      ·
       have H':=ak H
       clear H
       obtain ⟨ad118,a6,a7,e118,hx118_0,a4,HR118_0,b7,q118⟩:=al_ HR0.out a1
       cases e118
       obtain ⟨ad119,e119,hx119_0,b8,q119⟩:=ai_ HR118_0.out a0
       cases e119
       obtain ⟨ad120,b0,b1,e120,hx120_0,a8,HR120_0,d1,q120⟩:=al_ HR0.out a2
       obtain rfl:=ij_ e120
       obtain ⟨ad121,e121,hx121_0,d2,q121⟩:=ai_ HR120_0.out a0
       cases e121
       obtain ⟨ad122,d3,d4,e122,hx122_0,b9,HR122_0,f6,q122⟩:=al_ HR0.out a0
       obtain rfl:=ij_ e122
       obtain ⟨ad123,e123,hx123_0,f7,q123⟩:=ai_ HR122_0.out a5
       cases e123
       go_wp2
       go_roundg k1
       case measure=>have:=HK1.out;omega
       case rel=>exact ⟨(a0),(wrap64 (a0+1)),z11_0,z11_0,H',⟨(by have:=HK1.out;omega)⟩,z11_1⟩
      have H':=ak H
      clear H
      obtain ⟨ad118,a6,a7,e118,hx118_0,a4,HR118_0,b7,q118⟩:=al_ HR0.out a1
      cases e118
      obtain ⟨ad119,e119,hx119_0,b8,q119⟩:=ai_ HR118_0.out a0
      cases e119
      obtain ⟨ad120,b0,b1,e120,hx120_0,a8,HR120_0,d1,q120⟩:=al_ HR0.out a2
      obtain rfl:=ij_ e120
      obtain ⟨ad121,e121,hx121_0,d2,q121⟩:=ai_ HR120_0.out a0
      cases e121
      obtain ⟨ad122,d3,d4,e122,hx122_0,b9,HR122_0,f6,q122⟩:=al_ HR0.out a0
      obtain rfl:=ij_ e122
      obtain ⟨ad123,e123,hx123_0,f7,q123⟩:=ai_ HR122_0.out a5
      cases e123
      go_wp2
      go_roundg k1
      case measure=>have:=HK1.out;omega
      case rel=>exact ⟨(a5),(wrap64 (a0+1)),z11_0,z11_0,H',⟨(by have:=HK1.out;omega)⟩,z11_1⟩
     have H':=ak H
     clear H
     obtain ⟨ad118,a6,a7,e118,hx118_0,a4,HR118_0,b7,q118⟩:=al_ HR0.out a1
     cases e118
     obtain ⟨ad119,e119,hx119_0,b8,q119⟩:=ai_ HR118_0.out a0
     cases e119
     obtain ⟨ad120,b0,b1,e120,hx120_0,a8,HR120_0,d1,q120⟩:=al_ HR0.out a2
     obtain rfl:=ij_ e120
     obtain ⟨ad121,e121,hx121_0,d2,q121⟩:=ai_ HR120_0.out a0
     cases e121
     go_wp2
     go_roundg k1
     case measure=>have:=HK1.out;omega
     case rel=>exact ⟨(a5),(wrap64 (a0+1)),z11_0,z11_0,H',⟨(by have:=HK1.out;omega)⟩,z11_1⟩
    have H':=ak H
    clear H
    obtain ⟨ad118,a6,a7,e118,hx118_0,a4,HR118_0,b7,q118⟩:=al_ HR0.out a1
    cases e118
    obtain ⟨ad119,e119,hx119_0,b8,q119⟩:=ai_ HR118_0.out a0
    cases e119
    go_wp2
    go_roundg k1
    case measure=>have:=HK1.out;omega
    case rel=>exact ⟨(a5),(wrap64 (a0+1)),z11_0,z11_0,H',⟨(by have:=HK1.out;omega)⟩,z11_1⟩
   have H':=ak H
   clear H
   go_wp2
   go_loopg [9] k1 (fun kq v9 w'=>∃ (a3:Int),v9 = .int .i64 a3∧Aside0 (spec_l1Join.l1 kq l0 a1 a2 a5 a3=some r)∧Aside0 (kq≤k1)∧Drawn0 w w')
   case atStart=>exact ⟨(0),z11_0,H',⟨Nat.le_refl _⟩,z11_1⟩
   case round =>
    clear H'
    try clear c4
    try clear d9
    obtain ⟨a3,rfl,HA,HK2,⟨m2,rfl⟩⟩:=hrel
    cases gk with
    | zero=>exact absurd HA.out (by simp [spec_l1Join.l1])
    | succ k2 =>
     have H:=HA.out
     clear HA
     simp only [spec_l1Join.l1] at H
     replace H:=os_ H
     rcases H with ⟨e5,H⟩|⟨e5,H⟩
     ·
      replace H:=od4 H
      obtain ⟨g5,g6,g7,g8,H⟩:=H
      replace H:=oe2 H
      rcases H with ⟨⟨-,e6,e7⟩,H⟩|⟨⟨i2,e6,e7⟩,H⟩
      ·
       replace H:=od3 H
       obtain ⟨g9,h0,h1,H⟩:=H
       replace H:=oe2 H
       rcases H with ⟨⟨-,e8,e9⟩,H⟩|⟨⟨i3,e8,e9⟩,H⟩
       ·
        replace H:=od3 H
        obtain ⟨h2,h3,h4,H⟩:=H
        replace H:=oe2 H
        rcases H with ⟨⟨-,f0,f1⟩,H⟩|⟨⟨i4,f0,f1⟩,H⟩
        ·
         obtain rfl:=Option.some.inj H
         obtain ⟨ad124,b2,b3,e124,hx124_0,a9,HR124_0,d5,q124⟩:=al_ HR0.out a1
         cases e124
         obtain ⟨ad125,e125,hx125_0,d6,q125⟩:=ai_ HR124_0.out a3
         cases e125
         obtain ⟨ad126,b5,b6,e126,hx126_0,b4,HR126_0,f2,q126⟩:=al_ HR0.out a2
         obtain rfl:=ij_ e126
         obtain ⟨ad127,e127,hx127_0,f3,q127⟩:=ai_ HR126_0.out a3
         cases e127
         obtain ⟨ad128,d7,d8,e128,hx128_0,d0,HR128_0,f8,q128⟩:=al_ HR0.out a5
         obtain rfl:=ij_ e128
         obtain ⟨ad129,e129,hx129_0,f9,q129⟩:=ai_ HR128_0.out a3
         cases e129
         go_wp2
         go_ret
         exact ⟨z11_0,z11_1⟩
        have H':=ak H
        clear H
        obtain ⟨ad124,b2,b3,e124,hx124_0,a9,HR124_0,d5,q124⟩:=al_ HR0.out a1
        cases e124
        obtain ⟨ad125,e125,hx125_0,d6,q125⟩:=ai_ HR124_0.out a3
        cases e125
        obtain ⟨ad126,b5,b6,e126,hx126_0,b4,HR126_0,f2,q126⟩:=al_ HR0.out a2
        obtain rfl:=ij_ e126
        obtain ⟨ad127,e127,hx127_0,f3,q127⟩:=ai_ HR126_0.out a3
        cases e127
        obtain ⟨ad128,d7,d8,e128,hx128_0,d0,HR128_0,f8,q128⟩:=al_ HR0.out a5
        obtain rfl:=ij_ e128
        obtain ⟨ad129,e129,hx129_0,f9,q129⟩:=ai_ HR128_0.out a3
        cases e129
        go_wp2
        go_roundg k2
        case measure=>have:=HK1.out;have:=HK2.out;omega
        case rel=>exact ⟨(wrap64 (a3+1)),z11_0,H',⟨(by have:=HK1.out;have:=HK2.out;omega)⟩,z11_1⟩
       have H':=ak H
       clear H
       obtain ⟨ad124,b2,b3,e124,hx124_0,a9,HR124_0,d5,q124⟩:=al_ HR0.out a1
       cases e124
       obtain ⟨ad125,e125,hx125_0,d6,q125⟩:=ai_ HR124_0.out a3
       cases e125
       obtain ⟨ad126,b5,b6,e126,hx126_0,b4,HR126_0,f2,q126⟩:=al_ HR0.out a2
       obtain rfl:=ij_ e126
       obtain ⟨ad127,e127,hx127_0,f3,q127⟩:=ai_ HR126_0.out a3
       cases e127
       go_wp2
       go_roundg k2
       case measure=>have:=HK1.out;have:=HK2.out;omega
       case rel=>exact ⟨(wrap64 (a3+1)),z11_0,H',⟨(by have:=HK1.out;have:=HK2.out;omega)⟩,z11_1⟩
      have H':=ak H
      clear H
      obtain ⟨ad124,b2,b3,e124,hx124_0,a9,HR124_0,d5,q124⟩:=al_ HR0.out a1
      cases e124
      obtain ⟨ad125,e125,hx125_0,d6,q125⟩:=ai_ HR124_0.out a3
      cases e125
      go_wp2
      go_roundg k2
      case measure=>have:=HK1.out;have:=HK2.out;omega
      case rel=>exact ⟨(wrap64 (a3+1)),z11_0,H',⟨(by have:=HK1.out;have:=HK2.out;omega)⟩,z11_1⟩
     obtain rfl:=Option.some.inj H
     go_wp2
     go_ret
     exact ⟨z11_0,z11_1⟩

end Go.Proofs.Ytlkibgccgkhdmaa.P

namespace Go.Proofs.Ytlkibgccgkhdmaa.P
open Go.RowKit Go.Proofs.YtlkibgccgkhdmaaW.PrintWords Go.Proofs.YtlkibgccgkhdmaaW.PrintLast Go.Proofs.YtlkibgccgkhdmaaW.PrintMore
attribute [local go_sem] max2_int min2_int max_two min_two max_three min_three max_four min_four
set_option linter.unusedVariables false
set_option linter.unusedSimpArgs false
theorem z10_1 {p:Prop} (h:p:=by first|rfl|(simp;done)|(simp [*];done)):p:=h
theorem z10_0 {p:Prop} (h:p:=by repeat (first|exact Drawn0.refl _|apply Drawn0.step)):p:=h
set_option maxHeartbeats 8000000 in
set_option maxRecDepth 100000 in
theorem spec_LatticeOk.calls (k:Nat) (A0:Option Addr) (c0:Nat) (l0:List (List Int)) (r:Bool) (w:World) (hr0:Kd.C (Kd.slice 3 (Kd.int .i64)) w A0 l0.length l0) (hc0:l0.length≤c0) (h:spec_LatticeOk.f k l0=some r) :
 Calls Try.prog 90 #[.slice A0 l0.length c0] w fun e w'=>e = .returned (.bool r)∧Drawn0 w w':=by
 have HR0:=ak hr0
 have a4:=ak hc0
 clear hr0 hc0
 have H:(spec_LatticeOk.l0 k l0 0)=some r:=h
 clear h
 have H':=ak H
 clear H
 go_enter Try.func90,Try.ntmps90
 go_wp2
 go_loopg [3] k (fun kq v3 w'=>∃ (a0:Int),v3 = .int .i64 a0∧Aside0 (spec_LatticeOk.l0 kq l0 a0=some r)∧Aside0 (kq≤k)∧Drawn0 w w')
 case atStart=>exact ⟨(0),z10_1,H',⟨Nat.le_refl _⟩,z10_0⟩
 case round =>
  clear H'
  obtain ⟨a0,rfl,HA,HK1,⟨m1,rfl⟩⟩:=hrel
  cases gk with
  | zero=>exact absurd HA.out (by simp [spec_LatticeOk.l0])
  | succ k1 =>
   have H:=HA.out
   clear HA
   simp only [spec_LatticeOk.l0] at H
   have b0:=ak H
   clear H
   go_upto_region 2 with (fail)
   go_cut [12] (fun b5 wc=>∃ (kq:Nat) (a2:Bool),b5 = .bool a2∧Aside0 (spec_LatticeOk.j1 kq l0 a0 a2=some r)∧Aside0 (kq≤k1)∧Drawn0 w wc)
   case first =>
    have H:=b0.out
    clear b0
    replace H:=os_ H
    rcases H with ⟨a3,H⟩|⟨a3,H⟩
    ·
     (first|rw [a3]|(simp only [i64_w,i32_w];rw [a3])|skip)
     obtain ⟨a6,A4,H⟩:=bd_ H
     try dsimp only at H
     have H':=ak H
     clear H
     go_wp2_with (first|(go_at_call 103;(with_reducible refine (spec_OrderOk.calls k1 _ _ l0 a6 _ (y4 HR0.out) a4.out A4.out).mono ?_);rintro e w' ⟨rfl,⟨nd,rfl⟩⟩))
     go_meet
     case rel=>exact ⟨_,(a6),z10_1,H',⟨(by have:=HK1.out;first|omega|exact Nat.le_refl _)⟩,z10_0⟩
    (first|rw [a3]|(simp only [i64_w,i32_w];rw [a3])|skip)
    have H':=ak H
    clear H
    go_wp2
    go_meet
    case rel=>exact ⟨_,(false),z10_1,H',⟨(by have:=HK1.out;first|omega|exact Nat.le_refl _)⟩,z10_0⟩
   case rest =>
    clear b0
    obtain ⟨kq,a2,rfl,HA,a9,⟨mc1,rfl⟩⟩:=hcut
    cases kq with
    | zero=>exact absurd HA.out (by simp [spec_LatticeOk.j1])
    | succ b1 =>
     have H:=HA.out
     clear HA
     simp only [spec_LatticeOk.j1] at H
     replace H:=ox_ H
     rcases H with ⟨rfl,H⟩|⟨rfl,H⟩
     ·
      have H':=ak H
      clear H
      go_wp2
      go_loopg [4] b1 (fun kq v4 w'=>∃ (a1:Int),v4 = .int .i64 a1∧Aside0 (spec_LatticeOk.l1 kq l0 a0 a1=some r)∧Aside0 (kq≤b1)∧Drawn0 w w')
      case atStart=>exact ⟨(0),z10_1,H',⟨Nat.le_refl _⟩,z10_0⟩
      case round =>
       clear H'
       try clear c5
       obtain ⟨a1,rfl,HA,HK3,⟨m3,rfl⟩⟩:=hrel
       cases gk with
       | zero=>exact absurd HA.out (by simp [spec_LatticeOk.l1])
       | succ k3 =>
        have H:=HA.out
        clear HA
        simp only [spec_LatticeOk.l1] at H
        replace H:=os_ H
        rcases H with ⟨b2,H⟩|⟨b2,H⟩
        ·
         obtain ⟨a5,A7,H⟩:=bd_ H
         try dsimp only at H
         replace H:=os_ H
         rcases H with ⟨b3,H⟩|⟨b3,H⟩
         ·
          obtain rfl:=Option.some.inj H
          go_wp2_with (first|((with_reducible refine gate_callee (f:=51) rfl ?_);refine gl_ (some 23) Try.func51 #[.slice A0 l0.length c0,.int .i64 a0,.int .i64 a1] ?_;(with_reducible refine (spec_l1Meet.calls k3 _ _ l0 a0 a1 a5 _ (y4 HR0.out) a4.out A7.out).mono ?_);rintro e w' ⟨rfl,⟨nd,rfl⟩⟩;refine ⟨_,rfl,?_⟩))
          go_ret
          exact ⟨z10_1,z10_0⟩
         obtain ⟨a7,A9,H⟩:=bd_ H
         try dsimp only at H
         replace H:=os_ H
         rcases H with ⟨a8,H⟩|⟨a8,H⟩
         ·
          obtain rfl:=Option.some.inj H
          go_wp2_with (first|((with_reducible refine gate_callee (f:=51) rfl ?_);refine gl_ (some 23) Try.func51 #[.slice A0 l0.length c0,.int .i64 a0,.int .i64 a1] ?_;(with_reducible refine (spec_l1Meet.calls k3 _ _ l0 a0 a1 a5 _ (y4 HR0.out) a4.out A7.out).mono ?_);rintro e w' ⟨rfl,⟨nd,rfl⟩⟩;refine ⟨_,rfl,?_⟩)|(go_at_call 97;(with_reducible refine (spec_l1Join.calls k3 _ _ l0 a0 a1 a7 _ (y4 HR0.out) a4.out A9.out).mono ?_);rintro e w' ⟨rfl,⟨nd,rfl⟩⟩))
          go_ret
          exact ⟨z10_1,z10_0⟩
         have H':=ak H
         clear H
         go_wp2_with (first|((with_reducible refine gate_callee (f:=51) rfl ?_);refine gl_ (some 23) Try.func51 #[.slice A0 l0.length c0,.int .i64 a0,.int .i64 a1] ?_;(with_reducible refine (spec_l1Meet.calls k3 _ _ l0 a0 a1 a5 _ (y4 HR0.out) a4.out A7.out).mono ?_);rintro e w' ⟨rfl,⟨nd,rfl⟩⟩;refine ⟨_,rfl,?_⟩)|(go_at_call 97;(with_reducible refine (spec_l1Join.calls k3 _ _ l0 a0 a1 a7 _ (y4 HR0.out) a4.out A9.out).mono ?_);rintro e w' ⟨rfl,⟨nd,rfl⟩⟩))
         go_roundg k3
         case measure=>have:=HK1.out;have:=a9.out;have:=HK3.out;omega
         case rel=>exact ⟨(wrap64 (a1+1)),z10_1,H',⟨(by have:=HK1.out;have:=a9.out;have:=HK3.out;omega)⟩,z10_0⟩
        have H':=ak H
        clear H
        go_wp2
        go_roundg k3
        case measure=>have:=HK1.out;have:=a9.out;have:=HK3.out;omega
        case rel=>exact ⟨(wrap64 (a0+1)),z10_1,H',⟨(by have:=HK1.out;have:=a9.out;have:=HK3.out;omega)⟩,z10_0⟩
     obtain ⟨b4,b6,H⟩:=bd_ H
     try dsimp only at H
     obtain rfl:=Option.some.inj H
     go_wp2_with (first|((with_reducible refine gate_callee (f:=103) rfl ?_);refine gl_ (some 33) Try.func103 #[.slice A0 l0.length c0] ?_;(with_reducible refine (spec_OrderOk.calls b1 _ _ l0 b4 _ (y4 HR0.out) a4.out b6.out).mono ?_);rintro e w' ⟨rfl,⟨nd,rfl⟩⟩;refine ⟨_,rfl,?_⟩))
     go_ret
     exact ⟨z10_1,z10_0⟩

end Go.Proofs.Ytlkibgccgkhdmaa.P

namespace Go.Proofs.Ytlkibgccgkhdmaa.P
open Go.RowKit Go.Proofs.YtlkibgccgkhdmaaW.PrintWords Go.Proofs.YtlkibgccgkhdmaaW.PrintLast Go.Proofs.YtlkibgccgkhdmaaW.PrintMore
attribute [local go_sem] max2_int min2_int max_two min_two max_three min_three max_four min_four
set_option linter.unusedVariables false
set_option linter.unusedSimpArgs false
theorem zy_4 {p:Prop} (h:p:=by have:=e1.out;have:=HK2.out;have:=HK3.out;have:=d8.out;have:=HK5.out;omega):p:=h
theorem zy_3 {p:Prop} (h:p:=by first|rfl|(simp [errW_none,errW_some] <;> rfl)|(simp [*,errW_none,errW_some] <;> rfl)):p:=h
theorem zy_2 {p:Prop} (h:p:=by first|rfl|(simp;done)|(simp [*];done)):p:=h
theorem zy_1 {p:Prop} (h:p:=by repeat (first|(with_reducible first|exact HB.out|apply below_alloc|apply pw_below_drewN|apply below_drew1)|exact HB.out)):p:=h
theorem zy_0 {p:Prop} (h:p:=by repeat (first|(with_reducible first|exact HB.out|apply below_alloc|apply pw_below_drewN|apply below_drew1|refine below_set ?_ d3.out)|exact HB.out)):p:=h
set_option maxHeartbeats 8000000 in
set_option maxRecDepth 100000 in
theorem spec_LogicOk.calls (k:Nat) (A0_0:Option Addr) (c0_0:Nat) (l0_0:List (List Int)) (A0_1:Option Addr) (c0_1:Nat) (l0_1:List Int) (r:Bool) (w:World) (hr0_0:Kd.C (Kd.slice 3 (Kd.int .i64)) w A0_0 l0_0.length l0_0) (hc0_0:l0_0.length≤c0_0) (hr0_1:Kd.C (Kd.int .i64) w A0_1 l0_1.length l0_1) (hc0_1:l0_1.length≤c0_1) (h:spec_LogicOk.f k l0_0 l0_1=some r) :
 Calls Try.prog 50 #[.agg #[.slice A0_0 l0_0.length c0_0,.slice A0_1 l0_1.length c0_1]] w fun e w'=>e = .returned (.bool r)∧Below w.heap.size w w':=by
 have hu29:=Try.underlying29
 have HR0_0:=ak hr0_0
 have a8:=ak hc0_0
 clear hr0_0 hc0_0
 have HR0_1:=ak hr0_1
 have g2:=ak hc0_1
 clear hr0_1 hc0_1
 have HB:=ak (Below.refl w.heap.size w)
 have H:((spec_LatticeOk.f k l0_0).bind fun f0=>(if f0=true then (spec_LogicOk.j0 k (l0_0.length:Int) ((l0_1.length:Int) != (l0_0.length:Int)) l0_0 l0_1) else (spec_LogicOk.j0 k (l0_0.length:Int) true l0_0 l0_1)))=some r:=h
 clear h
 have f9:=ak H
 clear H
 go_enter Try.func50,Try.ntmps50
 go_upto_region 2 with (first|((with_reducible refine gate_dst (N:=1) rfl ?_);(try (refine gate_guard (by rfl) ?_;dsimp only));refine box_event ?hg (N:=1) ?hd (cs:=#[.slice A0_0 l0_0.length c0_0,.slice A0_1 l0_1.length c0_1]) (t:=29) ?hr ?_;(case hd=>rfl);(case hg=>rfl);(case hr=>first|(go_simp;done)|(go_simp;rfl));intro a7 hg w3 hbox hb;have a0:=ak (hbox);have e2:=ak ((by rw [hg];exact (below_size zy_1):w.heap.size≤a7));have d3:=ak ((by rw [hg];exact (below_size zy_1):w.heap.size≤a7));replace HB:=ak (below_step zy_1 hb);clear hb hbox hg;have a3:=cz20 a0.out;have a4:=cz21 a0.out;have a5:=blk_frozen a0.out 0;have a6:=blk_frozen a0.out 1))
 repeat (go_quiet (first|((with_reducible refine gate_dst (N:=1) rfl ?_);(try (refine gate_guard (by rfl) ?_;dsimp only));refine box_event ?hg (N:=1) ?hd (cs:=#[.slice A0_0 l0_0.length c0_0,.slice A0_1 l0_1.length c0_1]) (t:=29) ?hr ?_;(case hd=>rfl);(case hg=>rfl);(case hr=>first|(go_simp;done)|(go_simp;rfl));intro a7 hg w3 hbox hb;have a0:=ak (hbox);have e2:=ak ((by rw [hg];exact (below_size zy_1):w.heap.size≤a7));have d3:=ak ((by rw [hg];exact (below_size zy_1):w.heap.size≤a7));replace HB:=ak (below_step zy_1 hb);clear hb hbox hg;have a3:=cz20 a0.out;have a4:=cz21 a0.out;have a5:=blk_frozen a0.out 0;have a6:=blk_frozen a0.out 1));go_upto_region 2 with (first|((with_reducible refine gate_dst (N:=1) rfl ?_);(try (refine gate_guard (by rfl) ?_;dsimp only));refine box_event ?hg (N:=1) ?hd (cs:=#[.slice A0_0 l0_0.length c0_0,.slice A0_1 l0_1.length c0_1]) (t:=29) ?hr ?_;(case hd=>rfl);(case hg=>rfl);(case hr=>first|(go_simp;done)|(go_simp;rfl));intro a7 hg w3 hbox hb;have a0:=ak (hbox);have e2:=ak ((by rw [hg];exact (below_size zy_1):w.heap.size≤a7));have d3:=ak ((by rw [hg];exact (below_size zy_1):w.heap.size≤a7));replace HB:=ak (below_step zy_1 hb);clear hb hbox hg;have a3:=cz20 a0.out;have a4:=cz21 a0.out;have a5:=blk_frozen a0.out 0;have a6:=blk_frozen a0.out 1)))
 (try simp only [Act.put,List.setIfInBounds_toArray,List.set_cons_zero,List.set_cons_succ])
 go_cut [22] (fun i0 wc=>∃ (kq:Nat) (d4:Bool),i0 = .bool d4∧Aside0 (spec_LogicOk.j0 kq (l0_0.length:Int) d4 l0_0 l0_1=some r)∧Aside0 (kq≤k)∧Aside0 (wc.heap[a7]?=some (.cells #[(.slice A0_0 l0_0.length c0_0),(.slice A0_1 l0_1.length c0_1)] 29 (0,0)))∧Aside0 (Below w.heap.size w wc))
 case first =>
  have H:=f9.out
  clear f9
  obtain ⟨f0,A5,H⟩:=bd_ H
  try dsimp only at H
  replace H:=ox_ H
  rcases H with ⟨rfl,H⟩|⟨rfl,H⟩
  ·
   have H':=ak H
   clear H
   have a3:=cz20 a0.out
   have a4:=cz21 a0.out
   have a5:=blk_frozen a0.out 0
   have a6:=blk_frozen a0.out 1
   go_wp2_with (first|(go_at_call 90;(with_reducible refine (spec_LatticeOk.calls k _ _ l0_0 true _ (y3 HR0_0.out HB.out) a8.out A5.out).mono ?_);rintro e w' ⟨rfl,⟨nd,rfl⟩⟩;(try first|exact ⟨rfl,_,World.drewN_drewN _ _ _⟩|exact ⟨rfl,_,Eq.trans (World.drewN_drewN _ _ _) (congrArg (World.drewN _) (Nat.add_assoc _ _ _))⟩)))
   repeat (go_quiet (first|(go_at_call 90;(with_reducible refine (spec_LatticeOk.calls k _ _ l0_0 true _ (y3 HR0_0.out HB.out) a8.out A5.out).mono ?_);rintro e w' ⟨rfl,⟨nd,rfl⟩⟩;(try first|exact ⟨rfl,_,World.drewN_drewN _ _ _⟩|exact ⟨rfl,_,Eq.trans (World.drewN_drewN _ _ _) (congrArg (World.drewN _) (Nat.add_assoc _ _ _))⟩)));try go_wp2_with (first|(go_at_call 90;(with_reducible refine (spec_LatticeOk.calls k _ _ l0_0 true _ (y3 HR0_0.out HB.out) a8.out A5.out).mono ?_);rintro e w' ⟨rfl,⟨nd,rfl⟩⟩;(try first|exact ⟨rfl,_,World.drewN_drewN _ _ _⟩|exact ⟨rfl,_,Eq.trans (World.drewN_drewN _ _ _) (congrArg (World.drewN _) (Nat.add_assoc _ _ _))⟩))))
   go_meet
   case rel=>exact ⟨_,(((l0_1.length:Int) != (l0_0.length:Int))),zy_2,H',⟨(by first|omega|exact Nat.le_refl _)⟩,⟨(xb a0.out)⟩,⟨zy_0⟩⟩
  have H':=ak H
  clear H
  have a3:=cz20 a0.out
  have a4:=cz21 a0.out
  have a5:=blk_frozen a0.out 0
  have a6:=blk_frozen a0.out 1
  go_wp2_with (first|(go_at_call 90;(with_reducible refine (spec_LatticeOk.calls k _ _ l0_0 false _ (y3 HR0_0.out HB.out) a8.out A5.out).mono ?_);rintro e w' ⟨rfl,⟨nd,rfl⟩⟩;(try first|exact ⟨rfl,_,World.drewN_drewN _ _ _⟩|exact ⟨rfl,_,Eq.trans (World.drewN_drewN _ _ _) (congrArg (World.drewN _) (Nat.add_assoc _ _ _))⟩)))
  repeat (go_quiet (first|(go_at_call 90;(with_reducible refine (spec_LatticeOk.calls k _ _ l0_0 false _ (y3 HR0_0.out HB.out) a8.out A5.out).mono ?_);rintro e w' ⟨rfl,⟨nd,rfl⟩⟩;(try first|exact ⟨rfl,_,World.drewN_drewN _ _ _⟩|exact ⟨rfl,_,Eq.trans (World.drewN_drewN _ _ _) (congrArg (World.drewN _) (Nat.add_assoc _ _ _))⟩)));try go_wp2_with (first|(go_at_call 90;(with_reducible refine (spec_LatticeOk.calls k _ _ l0_0 false _ (y3 HR0_0.out HB.out) a8.out A5.out).mono ?_);rintro e w' ⟨rfl,⟨nd,rfl⟩⟩;(try first|exact ⟨rfl,_,World.drewN_drewN _ _ _⟩|exact ⟨rfl,_,Eq.trans (World.drewN_drewN _ _ _) (congrArg (World.drewN _) (Nat.add_assoc _ _ _))⟩))))
  go_meet
  case rel=>exact ⟨_,(true),zy_2,H',⟨(by first|omega|exact Nat.le_refl _)⟩,⟨(xb a0.out)⟩,⟨zy_0⟩⟩
 case rest =>
  clear f9
  try clear a3
  try clear a4
  try clear a5
  try clear a6
  obtain ⟨kq,d4,rfl,HA,e1,a0,HB⟩:=hcut
  cases kq with
  | zero=>exact absurd HA.out (by simp [spec_LogicOk.j0])
  | succ g3 =>
   have H:=HA.out
   clear HA
   simp only [spec_LogicOk.j0] at H
   replace H:=ox_ H
   rcases H with ⟨rfl,H⟩|⟨rfl,H⟩
   ·
    obtain rfl:=Option.some.inj H
    go_wp2
    repeat (go_quiet (fail);try go_wp2)
    go_ret
    exact ⟨zy_3,zy_0⟩
   have H':=ak H
   clear H
   go_wp2
   repeat (go_quiet (fail);try go_wp2)
   go_loopg [4] g3 (fun kq v4 w'=>∃ (a9:Int),v4 = .int .i64 a9∧Aside0 (spec_LogicOk.l0 kq (l0_0.length:Int) a9 l0_0 l0_1=some r)∧Aside0 (kq≤g3)∧Aside0 (w'.heap[a7]?=some (.cells #[(.slice A0_0 l0_0.length c0_0),(.slice A0_1 l0_1.length c0_1)] 29 (0,0)))∧Aside0 (Below w.heap.size w w'))
   case atStart=>exact ⟨(0),zy_2,H',⟨Nat.le_refl _⟩,⟨(xb a0.out)⟩,⟨zy_0⟩⟩
   case round =>
    clear H'
    try clear c9
    try clear a3
    try clear a4
    try clear a5
    try clear a6
    obtain ⟨a9,rfl,HA,HK2,a0,HB⟩:=hrel
    cases gk with
    | zero=>exact absurd HA.out (by simp [spec_LogicOk.l0])
    | succ k2 =>
     have H:=HA.out
     clear HA
     simp only [spec_LogicOk.l0] at H
     replace H:=os_ H
     rcases H with ⟨d1,H⟩|⟨d1,H⟩
     ·
      replace H:=od2 H
      obtain ⟨g4,g5,H⟩:=H
      obtain ⟨i1,e9,H⟩:=bd_ H
      try dsimp only at H
      replace H:=ox_ H
      rcases H with ⟨rfl,H⟩|⟨rfl,H⟩
      ·
       have H':=ak H
       clear H
       have a3:=cz20 a0.out
       have a4:=cz21 a0.out
       have a5:=blk_frozen a0.out 0
       have a6:=blk_frozen a0.out 1
       have b2:0≤(a9:Int):=oa_
       have q156:a9<(l0_1.length:Int):=oa_
       obtain ⟨ad156,e156,hx156_0⟩:=Kd.at_int HR0_1.out a9 b2 q156
       cases e156
       replace hx156_0:=(HB.out.cell (World.block_lt_of_cell? w _ hx156_0)).trans hx156_0
       replace b2:=eq_true b2
       replace q156:=eq_true q156
       go_wp2_with (first|(go_at_call 66;(with_reducible refine (spec_l1In.calls (rd l0_1 a9) 0 (wrap64 ((l0_0.length:Int)-1)) true _ e9.out).mono ?_);rintro e w' ⟨rfl,⟨nd,rfl⟩⟩;(try first|exact ⟨rfl,_,World.drewN_drewN _ _ _⟩|exact ⟨rfl,_,Eq.trans (World.drewN_drewN _ _ _) (congrArg (World.drewN _) (Nat.add_assoc _ _ _))⟩)))
       repeat (go_quiet (first|(go_at_call 66;(with_reducible refine (spec_l1In.calls (rd l0_1 a9) 0 (wrap64 ((l0_0.length:Int)-1)) true _ e9.out).mono ?_);rintro e w' ⟨rfl,⟨nd,rfl⟩⟩;(try first|exact ⟨rfl,_,World.drewN_drewN _ _ _⟩|exact ⟨rfl,_,Eq.trans (World.drewN_drewN _ _ _) (congrArg (World.drewN _) (Nat.add_assoc _ _ _))⟩)));try go_wp2_with (first|(go_at_call 66;(with_reducible refine (spec_l1In.calls (rd l0_1 a9) 0 (wrap64 ((l0_0.length:Int)-1)) true _ e9.out).mono ?_);rintro e w' ⟨rfl,⟨nd,rfl⟩⟩;(try first|exact ⟨rfl,_,World.drewN_drewN _ _ _⟩|exact ⟨rfl,_,Eq.trans (World.drewN_drewN _ _ _) (congrArg (World.drewN _) (Nat.add_assoc _ _ _))⟩))))
       go_roundg k2
       case measure=>have:=e1.out;have:=HK2.out;omega
       case rel=>exact ⟨(wrap64 (a9+1)),zy_2,H',⟨(by have:=e1.out;have:=HK2.out;omega)⟩,⟨(xb a0.out)⟩,⟨zy_0⟩⟩
      obtain rfl:=Option.some.inj H
      have a3:=cz20 a0.out
      have a4:=cz21 a0.out
      have a5:=blk_frozen a0.out 0
      have a6:=blk_frozen a0.out 1
      have b2:0≤(a9:Int):=oa_
      have q156:a9<(l0_1.length:Int):=oa_
      obtain ⟨ad156,e156,hx156_0⟩:=Kd.at_int HR0_1.out a9 b2 q156
      cases e156
      replace hx156_0:=(HB.out.cell (World.block_lt_of_cell? w _ hx156_0)).trans hx156_0
      replace b2:=eq_true b2
      replace q156:=eq_true q156
      go_wp2_with (first|(go_at_call 66;(with_reducible refine (spec_l1In.calls (rd l0_1 a9) 0 (wrap64 ((l0_0.length:Int)-1)) false _ e9.out).mono ?_);rintro e w' ⟨rfl,⟨nd,rfl⟩⟩;(try first|exact ⟨rfl,_,World.drewN_drewN _ _ _⟩|exact ⟨rfl,_,Eq.trans (World.drewN_drewN _ _ _) (congrArg (World.drewN _) (Nat.add_assoc _ _ _))⟩)))
      repeat (go_quiet (first|(go_at_call 66;(with_reducible refine (spec_l1In.calls (rd l0_1 a9) 0 (wrap64 ((l0_0.length:Int)-1)) false _ e9.out).mono ?_);rintro e w' ⟨rfl,⟨nd,rfl⟩⟩;(try first|exact ⟨rfl,_,World.drewN_drewN _ _ _⟩|exact ⟨rfl,_,Eq.trans (World.drewN_drewN _ _ _) (congrArg (World.drewN _) (Nat.add_assoc _ _ _))⟩)));try go_wp2_with (first|(go_at_call 66;(with_reducible refine (spec_l1In.calls (rd l0_1 a9) 0 (wrap64 ((l0_0.length:Int)-1)) false _ e9.out).mono ?_);rintro e w' ⟨rfl,⟨nd,rfl⟩⟩;(try first|exact ⟨rfl,_,World.drewN_drewN _ _ _⟩|exact ⟨rfl,_,Eq.trans (World.drewN_drewN _ _ _) (congrArg (World.drewN _) (Nat.add_assoc _ _ _))⟩))))
      go_ret
      exact ⟨zy_3,zy_0⟩
     obtain ⟨⟨b3,e4⟩,g0,H⟩:=bd_ H
     try dsimp only at H
     have H':=ak H
     clear H
     have a3:=cz20 a0.out
     have a4:=cz21 a0.out
     have a5:=blk_frozen a0.out 0
     have a6:=blk_frozen a0.out 1
     go_wp2_with (first|(go_at_call 91;(with_reducible refine (spec_LeastOf.calls k2 _ _ l0_0 b3 e4 _ (y3 HR0_0.out HB.out) a8.out g0.out).mono ?_);rintro e w' ⟨rfl,⟨nd,rfl⟩⟩;(try first|exact ⟨rfl,_,World.drewN_drewN _ _ _⟩|exact ⟨rfl,_,Eq.trans (World.drewN_drewN _ _ _) (congrArg (World.drewN _) (Nat.add_assoc _ _ _))⟩)))
     repeat (go_quiet (first|(go_at_call 91;(with_reducible refine (spec_LeastOf.calls k2 _ _ l0_0 b3 e4 _ (y3 HR0_0.out HB.out) a8.out g0.out).mono ?_);rintro e w' ⟨rfl,⟨nd,rfl⟩⟩;(try first|exact ⟨rfl,_,World.drewN_drewN _ _ _⟩|exact ⟨rfl,_,Eq.trans (World.drewN_drewN _ _ _) (congrArg (World.drewN _) (Nat.add_assoc _ _ _))⟩)));try go_wp2_with (first|(go_at_call 91;(with_reducible refine (spec_LeastOf.calls k2 _ _ l0_0 b3 e4 _ (y3 HR0_0.out HB.out) a8.out g0.out).mono ?_);rintro e w' ⟨rfl,⟨nd,rfl⟩⟩;(try first|exact ⟨rfl,_,World.drewN_drewN _ _ _⟩|exact ⟨rfl,_,Eq.trans (World.drewN_drewN _ _ _) (congrArg (World.drewN _) (Nat.add_assoc _ _ _))⟩))))
     go_loopg [7] k2 (fun kq v7 w'=>∃ (a1:Int),v7 = .int .i64 a1∧Aside0 (spec_LogicOk.l1 kq (l0_0.length:Int) b3 a1 l0_0 l0_1=some r)∧Aside0 (kq≤k2)∧Aside0 (w'.heap[a7]?=some (.cells #[(.slice A0_0 l0_0.length c0_0),(.slice A0_1 l0_1.length c0_1)] 29 (0,0)))∧Aside0 (Below w.heap.size w w'))
     case atStart=>exact ⟨(0),zy_2,H',⟨Nat.le_refl _⟩,⟨(xb a0.out)⟩,⟨zy_0⟩⟩
     case round =>
      clear H'
      try clear c9
      try clear g6
      try clear d1
      try clear a3
      try clear a4
      try clear a5
      try clear a6
      obtain ⟨a1,rfl,HA,HK3,a0,HB⟩:=hrel
      cases gk with
      | zero=>exact absurd HA.out (by simp [spec_LogicOk.l1])
      | succ k3 =>
       have H:=HA.out
       clear HA
       simp only [spec_LogicOk.l1] at H
       replace H:=os_ H
       rcases H with ⟨d5,H⟩|⟨d5,H⟩
       ·
        have e5:=ak H
        clear H
        go_upto_region 13 with (fail)
        repeat (go_quiet (fail);go_upto_region 13 with (fail))
        go_cut [71] (fun i2 wc=>∃ (kq:Nat) (b4:Bool),i2 = .bool b4∧Aside0 (spec_LogicOk.j3 kq (l0_0.length:Int) b3 a1 b4 l0_0 l0_1=some r)∧Aside0 (kq≤k3)∧Aside0 (wc.heap[a7]?=some (.cells #[(.slice A0_0 l0_0.length c0_0),(.slice A0_1 l0_1.length c0_1)] 29 (0,0)))∧Aside0 (Below w.heap.size w wc))
        case first =>
         have H:=e5.out
         clear e5
         replace H:=od_ H
         obtain ⟨e3,H⟩:=H
         (first|rw [e3]|(simp only [i64_w,i32_w];rw [e3])|skip)
         replace H:=od3 H
         obtain ⟨g7,g8,g9,H⟩:=H
         replace H:=oe2 H
         rcases H with ⟨⟨-,f1,f2⟩,H⟩|⟨⟨i4,f1,f2⟩,H⟩
         ·
          obtain ⟨d9,g1,H⟩:=bd_ H
          try dsimp only at H
          have H':=ak H
          clear H
          have a3:=cz20 a0.out
          have a4:=cz21 a0.out
          have a5:=blk_frozen a0.out 0
          have a6:=blk_frozen a0.out 1
          have b5:0≤(a1:Int):=oa_
          have q160:a1<(l0_1.length:Int):=oa_
          obtain ⟨ad160,e160,hx160_0⟩:=Kd.at_int HR0_1.out a1 b5 q160
          cases e160
          replace hx160_0:=(HB.out.cell (World.block_lt_of_cell? w _ hx160_0)).trans hx160_0
          replace b5:=eq_true b5
          replace q160:=eq_true q160
          have b6:0≤((rd l0_1 a1):Int):=oa_
          have q161:(rd l0_1 a1)<(l0_1.length:Int):=oa_
          obtain ⟨ad161,e161,hx161_0⟩:=Kd.at_int HR0_1.out (rd l0_1 a1) b6 q161
          obtain rfl:=ij_ e161
          replace hx161_0:=(HB.out.cell (World.block_lt_of_cell? w _ hx161_0)).trans hx161_0
          replace b6:=eq_true b6
          replace q161:=eq_true q161
          have e6:0≤(a1:Int):=oa_
          have q162:a1<(l0_1.length:Int):=oa_
          obtain ⟨ad162,e162,hx162_0⟩:=Kd.at_int HR0_1.out a1 e6 q162
          obtain rfl:=ij_ e162
          replace hx162_0:=(HB.out.cell (World.block_lt_of_cell? w _ hx162_0)).trans hx162_0
          replace e6:=eq_true e6
          replace q162:=eq_true q162
          go_wp2_with (first|(go_at_call 51;(with_reducible refine (spec_l1Meet.calls k3 _ _ l0_0 a1 (rd l0_1 a1) d9 _ (y3 HR0_0.out HB.out) a8.out g1.out).mono ?_);rintro e w' ⟨rfl,⟨nd,rfl⟩⟩;(try first|exact ⟨rfl,_,World.drewN_drewN _ _ _⟩|exact ⟨rfl,_,Eq.trans (World.drewN_drewN _ _ _) (congrArg (World.drewN _) (Nat.add_assoc _ _ _))⟩)))
          repeat (go_quiet (first|(go_at_call 51;(with_reducible refine (spec_l1Meet.calls k3 _ _ l0_0 a1 (rd l0_1 a1) d9 _ (y3 HR0_0.out HB.out) a8.out g1.out).mono ?_);rintro e w' ⟨rfl,⟨nd,rfl⟩⟩;(try first|exact ⟨rfl,_,World.drewN_drewN _ _ _⟩|exact ⟨rfl,_,Eq.trans (World.drewN_drewN _ _ _) (congrArg (World.drewN _) (Nat.add_assoc _ _ _))⟩)));try go_wp2_with (first|(go_at_call 51;(with_reducible refine (spec_l1Meet.calls k3 _ _ l0_0 a1 (rd l0_1 a1) d9 _ (y3 HR0_0.out HB.out) a8.out g1.out).mono ?_);rintro e w' ⟨rfl,⟨nd,rfl⟩⟩;(try first|exact ⟨rfl,_,World.drewN_drewN _ _ _⟩|exact ⟨rfl,_,Eq.trans (World.drewN_drewN _ _ _) (congrArg (World.drewN _) (Nat.add_assoc _ _ _))⟩))))
          go_meet
          case rel=>exact ⟨_,((d9 != b3)),zy_2,H',⟨(by have:=e1.out;have:=HK2.out;have:=HK3.out;first|omega|exact Nat.le_refl _)⟩,⟨(xb a0.out)⟩,⟨zy_0⟩⟩
         have H':=ak H
         clear H
         have a3:=cz20 a0.out
         have a4:=cz21 a0.out
         have a5:=blk_frozen a0.out 0
         have a6:=blk_frozen a0.out 1
         have b5:0≤(a1:Int):=oa_
         have q160:a1<(l0_1.length:Int):=oa_
         obtain ⟨ad160,e160,hx160_0⟩:=Kd.at_int HR0_1.out a1 b5 q160
         cases e160
         replace hx160_0:=(HB.out.cell (World.block_lt_of_cell? w _ hx160_0)).trans hx160_0
         replace b5:=eq_true b5
         replace q160:=eq_true q160
         have b6:0≤((rd l0_1 a1):Int):=oa_
         have q161:(rd l0_1 a1)<(l0_1.length:Int):=oa_
         obtain ⟨ad161,e161,hx161_0⟩:=Kd.at_int HR0_1.out (rd l0_1 a1) b6 q161
         obtain rfl:=ij_ e161
         replace hx161_0:=(HB.out.cell (World.block_lt_of_cell? w _ hx161_0)).trans hx161_0
         replace b6:=eq_true b6
         replace q161:=eq_true q161
         go_wp2
         repeat (go_quiet (fail);try go_wp2)
         go_meet
         case rel=>exact ⟨_,(true),zy_2,H',⟨(by have:=e1.out;have:=HK2.out;have:=HK3.out;first|omega|exact Nat.le_refl _)⟩,⟨(xb a0.out)⟩,⟨zy_0⟩⟩
        case rest =>
         clear e5
         try clear c9
         try clear g6
         try clear d1
         try clear i3
         try clear d5
         try clear a3
         try clear a4
         try clear a5
         try clear a6
         obtain ⟨kq,b4,rfl,HA,d8,a0,HB⟩:=hcut
         cases kq with
         | zero=>exact absurd HA.out (by simp [spec_LogicOk.j3])
         | succ f3 =>
          have H:=HA.out
          clear HA
          simp only [spec_LogicOk.j3] at H
          replace H:=ox_ H
          rcases H with ⟨rfl,H⟩|⟨rfl,H⟩
          ·
           obtain rfl:=Option.some.inj H
           go_wp2
           repeat (go_quiet (fail);try go_wp2)
           go_ret
           exact ⟨zy_3,zy_0⟩
          have H':=ak H
          clear H
          go_wp2
          repeat (go_quiet (fail);try go_wp2)
          go_loopg [8] f3 (fun kq v8 w'=>∃ (a2:Int),v8 = .int .i64 a2∧Aside0 (spec_LogicOk.l2 kq (l0_0.length:Int) b3 a1 a2 l0_0 l0_1=some r)∧Aside0 (kq≤f3)∧Aside0 (w'.heap[a7]?=some (.cells #[(.slice A0_0 l0_0.length c0_0),(.slice A0_1 l0_1.length c0_1)] 29 (0,0)))∧Aside0 (Below w.heap.size w w'))
          case atStart=>exact ⟨(0),zy_2,H',⟨Nat.le_refl _⟩,⟨(xb a0.out)⟩,⟨zy_0⟩⟩
          case round =>
           clear H'
           try clear c9
           try clear g6
           try clear d1
           try clear i3
           try clear d5
           try clear i5
           try clear a3
           try clear a4
           try clear a5
           try clear a6
           obtain ⟨a2,rfl,HA,HK5,a0,HB⟩:=hrel
           cases gk with
           | zero=>exact absurd HA.out (by simp [spec_LogicOk.l2])
           | succ k5 =>
            have H:=HA.out
            clear HA
            simp only [spec_LogicOk.l2] at H
            replace H:=os_ H
            rcases H with ⟨f4,H⟩|⟨f4,H⟩
            ·
             replace H:=od4 H
             obtain ⟨h0,h1,h2,h3,H⟩:=H
             replace H:=oe2 H
             rcases H with ⟨⟨-,f5,f6⟩,H⟩|⟨⟨i6,f5,f6⟩,H⟩
             ·
              replace H:=od6 H
              obtain ⟨h4,h5,h6,h7,h8,h9,H⟩:=H
              replace H:=oe2 H
              rcases H with ⟨⟨-,f7,f8⟩,H⟩|⟨⟨i7,f7,f8⟩,H⟩
              ·
               obtain rfl:=Option.some.inj H
               have a3:=cz20 a0.out
               have a4:=cz21 a0.out
               have a5:=blk_frozen a0.out 0
               have a6:=blk_frozen a0.out 1
               have b0:0≤(a1:Int):=oa_
               have q164:a1<(l0_0.length:Int):=oa_
               obtain ⟨ad164,d6,d7,e164,hx164_0,hl164_0,hi164_0⟩:=at_L1 HR0_0.out a1 b0 q164
               cases e164
               replace hx164_0:=(HB.out.cell (World.block_lt_of_cell? w _ hx164_0)).trans hx164_0
               have HR164_0:=ak hi164_0
               have d2:=ak hl164_0
               clear hi164_0 hl164_0
               replace b0:=eq_true b0
               replace q164:=eq_true q164
               have b1:0≤(a2:Int):=oa_
               have q165:a2<((rd_L1 l0_0 a1).length:Int):=oa_
               obtain ⟨ad165,e165,hx165_0⟩:=Kd.at_int HR164_0.out a2 b1 q165
               cases e165
               replace hx165_0:=(HB.out.cell (World.block_lt_of_cell? w _ hx165_0)).trans hx165_0
               replace b1:=eq_true b1
               replace q165:=eq_true q165
               have b7:0≤(a2:Int):=oa_
               have q166:a2<(l0_1.length:Int):=oa_
               obtain ⟨ad166,e166,hx166_0⟩:=Kd.at_int HR0_1.out a2 b7 q166
               cases e166
               replace hx166_0:=(HB.out.cell (World.block_lt_of_cell? w _ hx166_0)).trans hx166_0
               replace b7:=eq_true b7
               replace q166:=eq_true q166
               have b8:0≤((rd l0_1 a2):Int):=oa_
               have q167:(rd l0_1 a2)<(l0_0.length:Int):=oa_
               obtain ⟨ad167,e7,e8,e167,hx167_0,hl167_0,hi167_0⟩:=at_L1 HR0_0.out (rd l0_1 a2) b8 q167
               obtain rfl:=ij_ e167
               replace hx167_0:=(HB.out.cell (World.block_lt_of_cell? w _ hx167_0)).trans hx167_0
               have HR167_0:=ak hi167_0
               have e0:=ak hl167_0
               clear hi167_0 hl167_0
               replace b8:=eq_true b8
               replace q167:=eq_true q167
               have b9:0≤(a1:Int):=oa_
               have q168:a1<(l0_1.length:Int):=oa_
               obtain ⟨ad168,e168,hx168_0⟩:=Kd.at_int HR0_1.out a1 b9 q168
               obtain rfl:=ij_ e168
               replace hx168_0:=(HB.out.cell (World.block_lt_of_cell? w _ hx168_0)).trans hx168_0
               replace b9:=eq_true b9
               replace q168:=eq_true q168
               have d0:0≤((rd l0_1 a1):Int):=oa_
               have q169:(rd l0_1 a1)<((rd_L1 l0_0 (rd l0_1 a2)).length:Int):=oa_
               obtain ⟨ad169,e169,hx169_0⟩:=Kd.at_int HR167_0.out (rd l0_1 a1) d0 q169
               cases e169
               replace hx169_0:=(HB.out.cell (World.block_lt_of_cell? w _ hx169_0)).trans hx169_0
               replace d0:=eq_true d0
               replace q169:=eq_true q169
               go_wp2
               repeat (go_quiet (fail);try go_wp2)
               go_ret
               exact ⟨zy_3,zy_0⟩
              have H':=ak H
              clear H
              have a3:=cz20 a0.out
              have a4:=cz21 a0.out
              have a5:=blk_frozen a0.out 0
              have a6:=blk_frozen a0.out 1
              have b0:0≤(a1:Int):=oa_
              have q164:a1<(l0_0.length:Int):=oa_
              obtain ⟨ad164,d6,d7,e164,hx164_0,hl164_0,hi164_0⟩:=at_L1 HR0_0.out a1 b0 q164
              cases e164
              replace hx164_0:=(HB.out.cell (World.block_lt_of_cell? w _ hx164_0)).trans hx164_0
              have HR164_0:=ak hi164_0
              have d2:=ak hl164_0
              clear hi164_0 hl164_0
              replace b0:=eq_true b0
              replace q164:=eq_true q164
              have b1:0≤(a2:Int):=oa_
              have q165:a2<((rd_L1 l0_0 a1).length:Int):=oa_
              obtain ⟨ad165,e165,hx165_0⟩:=Kd.at_int HR164_0.out a2 b1 q165
              cases e165
              replace hx165_0:=(HB.out.cell (World.block_lt_of_cell? w _ hx165_0)).trans hx165_0
              replace b1:=eq_true b1
              replace q165:=eq_true q165
              have b7:0≤(a2:Int):=oa_
              have q166:a2<(l0_1.length:Int):=oa_
              obtain ⟨ad166,e166,hx166_0⟩:=Kd.at_int HR0_1.out a2 b7 q166
              cases e166
              replace hx166_0:=(HB.out.cell (World.block_lt_of_cell? w _ hx166_0)).trans hx166_0
              replace b7:=eq_true b7
              replace q166:=eq_true q166
              have b8:0≤((rd l0_1 a2):Int):=oa_
              have q167:(rd l0_1 a2)<(l0_0.length:Int):=oa_
              obtain ⟨ad167,e7,e8,e167,hx167_0,hl167_0,hi167_0⟩:=at_L1 HR0_0.out (rd l0_1 a2) b8 q167
              obtain rfl:=ij_ e167
              replace hx167_0:=(HB.out.cell (World.block_lt_of_cell? w _ hx167_0)).trans hx167_0
              have HR167_0:=ak hi167_0
              have e0:=ak hl167_0
              clear hi167_0 hl167_0
              replace b8:=eq_true b8
              replace q167:=eq_true q167
              have b9:0≤(a1:Int):=oa_
              have q168:a1<(l0_1.length:Int):=oa_
              obtain ⟨ad168,e168,hx168_0⟩:=Kd.at_int HR0_1.out a1 b9 q168
              obtain rfl:=ij_ e168
              replace hx168_0:=(HB.out.cell (World.block_lt_of_cell? w _ hx168_0)).trans hx168_0
              replace b9:=eq_true b9
              replace q168:=eq_true q168
              have d0:0≤((rd l0_1 a1):Int):=oa_
              have q169:(rd l0_1 a1)<((rd_L1 l0_0 (rd l0_1 a2)).length:Int):=oa_
              obtain ⟨ad169,e169,hx169_0⟩:=Kd.at_int HR167_0.out (rd l0_1 a1) d0 q169
              cases e169
              replace hx169_0:=(HB.out.cell (World.block_lt_of_cell? w _ hx169_0)).trans hx169_0
              replace d0:=eq_true d0
              replace q169:=eq_true q169
              go_wp2
              repeat (go_quiet (fail);try go_wp2)
              go_roundg k5
              case measure=>have:=e1.out;have:=HK2.out;have:=HK3.out;have:=d8.out;have:=HK5.out;omega
              case rel=>exact ⟨(wrap64 (a2+1)),zy_2,H',⟨zy_4⟩,⟨(xb a0.out)⟩,⟨zy_0⟩⟩
             have H':=ak H
             clear H
             have a3:=cz20 a0.out
             have a4:=cz21 a0.out
             have a5:=blk_frozen a0.out 0
             have a6:=blk_frozen a0.out 1
             have b0:0≤(a1:Int):=oa_
             have q164:a1<(l0_0.length:Int):=oa_
             obtain ⟨ad164,d6,d7,e164,hx164_0,hl164_0,hi164_0⟩:=at_L1 HR0_0.out a1 b0 q164
             cases e164
             replace hx164_0:=(HB.out.cell (World.block_lt_of_cell? w _ hx164_0)).trans hx164_0
             have HR164_0:=ak hi164_0
             have d2:=ak hl164_0
             clear hi164_0 hl164_0
             replace b0:=eq_true b0
             replace q164:=eq_true q164
             have b1:0≤(a2:Int):=oa_
             have q165:a2<((rd_L1 l0_0 a1).length:Int):=oa_
             obtain ⟨ad165,e165,hx165_0⟩:=Kd.at_int HR164_0.out a2 b1 q165
             cases e165
             replace hx165_0:=(HB.out.cell (World.block_lt_of_cell? w _ hx165_0)).trans hx165_0
             replace b1:=eq_true b1
             replace q165:=eq_true q165
             go_wp2
             repeat (go_quiet (fail);try go_wp2)
             go_roundg k5
             case measure=>have:=e1.out;have:=HK2.out;have:=HK3.out;have:=d8.out;have:=HK5.out;omega
             case rel=>exact ⟨(wrap64 (a2+1)),zy_2,H',⟨zy_4⟩,⟨(xb a0.out)⟩,⟨zy_0⟩⟩
            have H':=ak H
            clear H
            go_wp2
            repeat (go_quiet (fail);try go_wp2)
            go_roundg k5
            case measure=>have:=e1.out;have:=HK2.out;have:=HK3.out;have:=d8.out;have:=HK5.out;omega
            case rel=>exact ⟨(wrap64 (a1+1)),zy_2,H',⟨zy_4⟩,⟨(xb a0.out)⟩,⟨zy_0⟩⟩
       obtain rfl:=Option.some.inj H
       go_wp2
       repeat (go_quiet (fail);try go_wp2)
       go_ret
       exact ⟨zy_3,zy_0⟩

end Go.Proofs.Ytlkibgccgkhdmaa.P

namespace Go.Proofs.Ytlkibgccgkhdmaa.P
open Go.RowKit Go.Proofs.YtlkibgccgkhdmaaW.PrintWords Go.Proofs.YtlkibgccgkhdmaaW.PrintLast Go.Proofs.YtlkibgccgkhdmaaW.PrintMore
attribute [local go_sem] max2_int min2_int max_two min_two max_three min_three max_four min_four
set_option linter.unusedVariables false
set_option linter.unusedSimpArgs false
theorem zv_1 {p:Prop} (h:p:=by repeat (first|(with_reducible first|exact HB.out|apply below_alloc|apply pw_below_drewN|apply below_drew1|refine below_set ?_ a3.out)|exact HB.out)):p:=h
theorem zv_0 {p:Prop} (h:p:=by repeat (first|(with_reducible first|exact HB.out|apply below_alloc|apply pw_below_drewN|apply below_drew1)|exact HB.out)):p:=h
set_option maxHeartbeats 8000000 in
set_option maxRecDepth 100000 in
theorem spec_NoOf.calls (k:Nat) (A0_0:Option Addr) (c0_0:Nat) (l0_0:List (List Int)) (A0_1:Option Addr) (c0_1:Nat) (l0_1:List Int) (r:Int) (w:World) (hr0_0:Kd.C (Kd.slice 3 (Kd.int .i64)) w A0_0 l0_0.length l0_0) (hc0_0:l0_0.length≤c0_0) (hr0_1:Kd.C (Kd.int .i64) w A0_1 l0_1.length l0_1) (hc0_1:l0_1.length≤c0_1) (h:spec_NoOf.f k l0_0 l0_1=some r) :
 Calls Try.prog 101 #[.agg #[.slice A0_0 l0_0.length c0_0,.slice A0_1 l0_1.length c0_1]] w fun e w'=>e = .returned (.int .i64 r)∧Below w.heap.size w w':=by
 have hu29:=Try.underlying29
 have HR0_0:=ak hr0_0
 have a2:=ak hc0_0
 clear hr0_0 hc0_0
 have HR0_1:=ak hr0_1
 have a4:=ak hc0_1
 clear hr0_1 hc0_1
 have HB:=ak (Below.refl w.heap.size w)
 have H:((spec_LogicOk.f k l0_0 l0_1).bind fun a9=>(if a9=true then ((spec_LeastOf.f k l0_0).bind fun b0=>(some b0.1)) else (some (-1))))=some r:=h
 clear h
 obtain ⟨a9,A2,H⟩:=bd_ H
 try dsimp only at H
 replace H:=ox_ H
 rcases H with ⟨rfl,H⟩|⟨rfl,H⟩
 ·
  obtain ⟨⟨b2,b3⟩,A4,H⟩:=bd_ H
  try dsimp only at H
  obtain rfl:=Option.some.inj H
  go_enter Try.func101,Try.ntmps101
  go_wp2_with (first|((with_reducible refine gate_dst (N:=1) rfl ?_);refine bx_ (N:=1) (cs:=#[.slice A0_0 l0_0.length c0_0,.slice A0_1 l0_1.length c0_1]) (t:=29) ?_;intro a1 hg w5 hbox hb;have a0:=ak (hbox);have b1:=ak ((by rw [hg];exact (below_size zv_0):w.heap.size≤a1));have a3:=ak ((by rw [hg];exact (below_size zv_0):w.heap.size≤a1));replace HB:=ak (below_step zv_0 hb);clear hb hbox hg;have a5:=cz20 a0.out;have a6:=cz21 a0.out;have a7:=blk_frozen a0.out 0;have a8:=blk_frozen a0.out 1)|((with_reducible refine gate_callee (f:=50) rfl ?_);refine gl_ (some 6) Try.func50 #[.agg #[.slice A0_0 l0_0.length c0_0,.slice A0_1 l0_1.length c0_1]] ?_;(with_reducible refine (spec_LogicOk.calls k _ _ l0_0 _ _ l0_1 true _ (y3 HR0_0.out HB.out) a2.out (y3 HR0_1.out HB.out) a4.out A2.out).mono ?_);rintro e w' ⟨rfl,hb⟩;refine ⟨_,rfl,?_⟩;replace a0:=ak (blk_below (g:=a1) (o:=.cells #[.slice A0_0 l0_0.length c0_0,.slice A0_1 l0_1.length c0_1] 29 (0,0)) (xb a0.out) hb);replace HB:=ak (below_step zv_1 hb);(try clear hb);(try clear hb2);(try clear hk);(try clear hi);have a5:=cz20 a0.out;have a6:=cz21 a0.out;have a7:=blk_frozen a0.out 0;have a8:=blk_frozen a0.out 1)|((with_reducible refine gate_callee (f:=91) rfl ?_);refine gl_ (some 11) Try.func91 #[.slice A0_0 l0_0.length c0_0] ?_;(with_reducible refine (spec_LeastOf.calls k _ _ l0_0 b2 b3 _ (y3 HR0_0.out HB.out) a2.out A4.out).mono ?_);rintro e w' ⟨rfl,⟨nd,rfl⟩⟩;refine ⟨_,rfl,?_⟩))
  go_ret
  exact ⟨(by first|rfl|(simp [errW_none,errW_some] <;> rfl)|(simp [*,errW_none,errW_some] <;> rfl)),zv_1⟩
 obtain rfl:=Option.some.inj H
 go_enter Try.func101,Try.ntmps101
 go_wp2_with (first|((with_reducible refine gate_dst (N:=1) rfl ?_);refine bx_ (N:=1) (cs:=#[.slice A0_0 l0_0.length c0_0,.slice A0_1 l0_1.length c0_1]) (t:=29) ?_;intro a1 hg w9 hbox hb;have a0:=ak (hbox);have b1:=ak ((by rw [hg];exact (below_size zv_0):w.heap.size≤a1));have a3:=ak ((by rw [hg];exact (below_size zv_0):w.heap.size≤a1));replace HB:=ak (below_step zv_0 hb);clear hb hbox hg;have a5:=cz20 a0.out;have a6:=cz21 a0.out;have a7:=blk_frozen a0.out 0;have a8:=blk_frozen a0.out 1)|((with_reducible refine gate_callee (f:=50) rfl ?_);refine gl_ (some 6) Try.func50 #[.agg #[.slice A0_0 l0_0.length c0_0,.slice A0_1 l0_1.length c0_1]] ?_;(with_reducible refine (spec_LogicOk.calls k _ _ l0_0 _ _ l0_1 false _ (y3 HR0_0.out HB.out) a2.out (y3 HR0_1.out HB.out) a4.out A2.out).mono ?_);rintro e w' ⟨rfl,hb⟩;refine ⟨_,rfl,?_⟩;replace a0:=ak (blk_below (g:=a1) (o:=.cells #[.slice A0_0 l0_0.length c0_0,.slice A0_1 l0_1.length c0_1] 29 (0,0)) (xb a0.out) hb);replace HB:=ak (below_step zv_1 hb);(try clear hb);(try clear hb2);(try clear hk);(try clear hi)))
 go_ret
 exact ⟨(by first|rfl|(simp [errW_none,errW_some] <;> rfl)|(simp [*,errW_none,errW_some] <;> rfl)),zv_1⟩

end Go.Proofs.Ytlkibgccgkhdmaa.P

namespace Go.Proofs.Ytlkibgccgkhdmaa.P
open Go.RowKit Go.Proofs.YtlkibgccgkhdmaaW.PrintWords Go.Proofs.YtlkibgccgkhdmaaW.PrintLast Go.Proofs.YtlkibgccgkhdmaaW.PrintMore
attribute [local go_sem] max2_int min2_int max_two min_two max_three min_three max_four min_four
set_option linter.unusedVariables false
set_option linter.unusedSimpArgs false
theorem z14_2 {p:Prop} (h:p:=by first|rfl|(simp [errW_none,errW_some] <;> rfl)|(simp [*,errW_none,errW_some] <;> rfl)):p:=h
theorem z14_1 {p:Prop} (h:p:=by repeat (first|(with_reducible first|exact HB.out|apply below_alloc|apply pw_below_drewN|apply below_drew1|refine below_set ?_ a8.out)|exact HB.out)):p:=h
theorem z14_0 {p:Prop} (h:p:=by repeat (first|(with_reducible first|exact HB.out|apply below_alloc|apply pw_below_drewN|apply below_drew1)|exact HB.out)):p:=h
set_option maxHeartbeats 8000000 in
set_option maxRecDepth 100000 in
theorem spec_l2Both.calls (k:Nat) (A0_0:Option Addr) (c0_0:Nat) (l0_0:List (List Int)) (A0_1:Option Addr) (c0_1:Nat) (l0_1:List Int) (a1:Int) (a2:Int) (r:Bool) (w:World) (hr0_0:Kd.C (Kd.slice 3 (Kd.int .i64)) w A0_0 l0_0.length l0_0) (hc0_0:l0_0.length≤c0_0) (hr0_1:Kd.C (Kd.int .i64) w A0_1 l0_1.length l0_1) (hc0_1:l0_1.length≤c0_1) (h:spec_l2Both.f k l0_0 l0_1 a1 a2=some r) :
 Calls Try.prog 106 #[.agg #[.slice A0_0 l0_0.length c0_0,.slice A0_1 l0_1.length c0_1],.int .i64 a1,.int .i64 a2] w fun e w'=>e = .returned (.bool r)∧Below w.heap.size w w':=by
 have hu29:=Try.underlying29
 have HR0_0:=ak hr0_0
 have a9:=ak hc0_0
 clear hr0_0 hc0_0
 have HR0_1:=ak hr0_1
 have b0:=ak hc0_1
 clear hr0_1 hc0_1
 have HB:=ak (Below.refl w.heap.size w)
 have H:((spec_LogicOk.f k l0_0 l0_1).bind fun b3=>(if b3=true then ((spec_l1In.f a1 0 (wrap64 ((l0_1.length:Int)-1))).bind fun b4=>(if b4=true then ((spec_l1In.f a2 0 (wrap64 ((l0_1.length:Int)-1))).bind fun b2=>(some b2)) else (some false))) else (some false)))=some r:=h
 clear h
 obtain ⟨b3,A4,H⟩:=bd_ H
 try dsimp only at H
 replace H:=ox_ H
 rcases H with ⟨rfl,H⟩|⟨rfl,H⟩
 ·
  obtain ⟨b4,A6,H⟩:=bd_ H
  try dsimp only at H
  replace H:=ox_ H
  rcases H with ⟨rfl,H⟩|⟨rfl,H⟩
  ·
   obtain ⟨b2,A8,H⟩:=bd_ H
   try dsimp only at H
   obtain rfl:=Option.some.inj H
   go_enter Try.func106,Try.ntmps106
   go_wp2_with (first|((with_reducible refine gate_dst (N:=3) rfl ?_);(try (refine gate_guard (by rfl) ?_;dsimp only));refine box_event ?hg (N:=3) ?hd (cs:=#[.slice A0_0 l0_0.length c0_0,.slice A0_1 l0_1.length c0_1]) (t:=29) ?hr ?_;(case hd=>rfl);(case hg=>rfl);(case hr=>first|(go_simp;done)|(go_simp;rfl));intro a3 hg w9 hbox hb;have a0:=ak (hbox);have b1:=ak ((by rw [hg];exact (below_size z14_0):w.heap.size≤a3));have a8:=ak ((by rw [hg];exact (below_size z14_0):w.heap.size≤a3));replace HB:=ak (below_step z14_0 hb);clear hb hbox hg;have a4:=cz20 a0.out;have a5:=cz21 a0.out;have a6:=blk_frozen a0.out 0;have a7:=blk_frozen a0.out 1)|((with_reducible refine gate_callee (f:=50) rfl ?_);refine gl_ (some 8) Try.func50 #[.agg #[.slice A0_0 l0_0.length c0_0,.slice A0_1 l0_1.length c0_1]] ?_;(with_reducible refine (spec_LogicOk.calls k _ _ l0_0 _ _ l0_1 true _ (y3 HR0_0.out HB.out) a9.out (y3 HR0_1.out HB.out) b0.out A4.out).mono ?_);rintro e w' ⟨rfl,hb⟩;refine ⟨_,rfl,?_⟩;replace a0:=ak (blk_below (g:=a3) (o:=.cells #[.slice A0_0 l0_0.length c0_0,.slice A0_1 l0_1.length c0_1] 29 (0,0)) (xb a0.out) hb);replace HB:=ak (below_step z14_1 hb);(try clear hb);(try clear hb2);(try clear hk);(try clear hi);have a4:=cz20 a0.out;have a5:=cz21 a0.out;have a6:=blk_frozen a0.out 0;have a7:=blk_frozen a0.out 1)|(go_at_call 66;(with_reducible refine (spec_l1In.calls a1 0 (wrap64 ((l0_1.length:Int)-1)) true _ A6.out).mono ?_);rintro e w' ⟨rfl,⟨nd,rfl⟩⟩)|(go_at_call 66;(with_reducible refine (spec_l1In.calls a2 0 (wrap64 ((l0_1.length:Int)-1)) b2 _ A8.out).mono ?_);rintro e w' ⟨rfl,⟨nd,rfl⟩⟩))
   go_ret
   exact ⟨z14_2,z14_1⟩
  obtain rfl:=Option.some.inj H
  go_enter Try.func106,Try.ntmps106
  go_wp2_with (first|((with_reducible refine gate_dst (N:=3) rfl ?_);(try (refine gate_guard (by rfl) ?_;dsimp only));refine box_event ?hg (N:=3) ?hd (cs:=#[.slice A0_0 l0_0.length c0_0,.slice A0_1 l0_1.length c0_1]) (t:=29) ?hr ?_;(case hd=>rfl);(case hg=>rfl);(case hr=>first|(go_simp;done)|(go_simp;rfl));intro a3 hg b5 hbox hb;have a0:=ak (hbox);have b1:=ak ((by rw [hg];exact (below_size z14_0):w.heap.size≤a3));have a8:=ak ((by rw [hg];exact (below_size z14_0):w.heap.size≤a3));replace HB:=ak (below_step z14_0 hb);clear hb hbox hg;have a4:=cz20 a0.out;have a5:=cz21 a0.out;have a6:=blk_frozen a0.out 0;have a7:=blk_frozen a0.out 1)|((with_reducible refine gate_callee (f:=50) rfl ?_);refine gl_ (some 8) Try.func50 #[.agg #[.slice A0_0 l0_0.length c0_0,.slice A0_1 l0_1.length c0_1]] ?_;(with_reducible refine (spec_LogicOk.calls k _ _ l0_0 _ _ l0_1 true _ (y3 HR0_0.out HB.out) a9.out (y3 HR0_1.out HB.out) b0.out A4.out).mono ?_);rintro e w' ⟨rfl,hb⟩;refine ⟨_,rfl,?_⟩;replace a0:=ak (blk_below (g:=a3) (o:=.cells #[.slice A0_0 l0_0.length c0_0,.slice A0_1 l0_1.length c0_1] 29 (0,0)) (xb a0.out) hb);replace HB:=ak (below_step z14_1 hb);(try clear hb);(try clear hb2);(try clear hk);(try clear hi);have a4:=cz20 a0.out;have a5:=cz21 a0.out;have a6:=blk_frozen a0.out 0;have a7:=blk_frozen a0.out 1)|(go_at_call 66;(with_reducible refine (spec_l1In.calls a1 0 (wrap64 ((l0_1.length:Int)-1)) false _ A6.out).mono ?_);rintro e w' ⟨rfl,⟨nd,rfl⟩⟩))
  go_ret
  exact ⟨z14_2,z14_1⟩
 obtain rfl:=Option.some.inj H
 go_enter Try.func106,Try.ntmps106
 go_wp2_with (first|((with_reducible refine gate_dst (N:=3) rfl ?_);(try (refine gate_guard (by rfl) ?_;dsimp only));refine box_event ?hg (N:=3) ?hd (cs:=#[.slice A0_0 l0_0.length c0_0,.slice A0_1 l0_1.length c0_1]) (t:=29) ?hr ?_;(case hd=>rfl);(case hg=>rfl);(case hr=>first|(go_simp;done)|(go_simp;rfl));intro a3 hg b6 hbox hb;have a0:=ak (hbox);have b1:=ak ((by rw [hg];exact (below_size z14_0):w.heap.size≤a3));have a8:=ak ((by rw [hg];exact (below_size z14_0):w.heap.size≤a3));replace HB:=ak (below_step z14_0 hb);clear hb hbox hg;have a4:=cz20 a0.out;have a5:=cz21 a0.out;have a6:=blk_frozen a0.out 0;have a7:=blk_frozen a0.out 1)|((with_reducible refine gate_callee (f:=50) rfl ?_);refine gl_ (some 8) Try.func50 #[.agg #[.slice A0_0 l0_0.length c0_0,.slice A0_1 l0_1.length c0_1]] ?_;(with_reducible refine (spec_LogicOk.calls k _ _ l0_0 _ _ l0_1 false _ (y3 HR0_0.out HB.out) a9.out (y3 HR0_1.out HB.out) b0.out A4.out).mono ?_);rintro e w' ⟨rfl,hb⟩;refine ⟨_,rfl,?_⟩;replace a0:=ak (blk_below (g:=a3) (o:=.cells #[.slice A0_0 l0_0.length c0_0,.slice A0_1 l0_1.length c0_1] 29 (0,0)) (xb a0.out) hb);replace HB:=ak (below_step z14_1 hb);(try clear hb);(try clear hb2);(try clear hk);(try clear hi)))
 go_ret
 exact ⟨z14_2,z14_1⟩

end Go.Proofs.Ytlkibgccgkhdmaa.P

namespace Go.Proofs.Ytlkibgccgkhdmaa.P
open Go.RowKit Go.Proofs.YtlkibgccgkhdmaaW.PrintWords Go.Proofs.YtlkibgccgkhdmaaW.PrintLast Go.Proofs.YtlkibgccgkhdmaaW.PrintMore
attribute [local go_sem] max2_int min2_int max_two min_two max_three min_three max_four min_four
set_option linter.unusedVariables false
set_option linter.unusedSimpArgs false
theorem z13_1 {p:Prop} (h:p:=by repeat (first|(with_reducible first|exact HB.out|apply below_alloc|apply pw_below_drewN|apply below_drew1|refine below_set ?_ a3.out)|exact HB.out)):p:=h
theorem z13_0 {p:Prop} (h:p:=by repeat (first|(with_reducible first|exact HB.out|apply below_alloc|apply pw_below_drewN|apply below_drew1)|exact HB.out)):p:=h
set_option maxHeartbeats 8000000 in
set_option maxRecDepth 100000 in
theorem spec_NotOf.calls (k:Nat) (A0_0:Option Addr) (c0_0:Nat) (l0_0:List (List Int)) (A0_1:Option Addr) (c0_1:Nat) (l0_1:List Int) (a1:Int) (r:Int) (w:World) (hr0_0:Kd.C (Kd.slice 3 (Kd.int .i64)) w A0_0 l0_0.length l0_0) (hc0_0:l0_0.length≤c0_0) (hr0_1:Kd.C (Kd.int .i64) w A0_1 l0_1.length l0_1) (hc0_1:l0_1.length≤c0_1) (h:spec_NotOf.f k l0_0 l0_1 a1=some r) :
 Calls Try.prog 105 #[.agg #[.slice A0_0 l0_0.length c0_0,.slice A0_1 l0_1.length c0_1],.int .i64 a1] w fun e w'=>e = .returned (.int .i64 r)∧Below w.heap.size w w':=by
 have hu29:=Try.underlying29
 have HR0_0:=ak hr0_0
 have a4:=ak hc0_0
 clear hr0_0 hc0_0
 have HR0_1:=ak hr0_1
 have a5:=ak hc0_1
 clear hr0_1 hc0_1
 have HB:=ak (Below.refl w.heap.size w)
 have H:((spec_l2Both.f k l0_0 l0_1 a1 a1).bind fun b1=>(if b1=true then (if 0≤a1 then (if a1<(l0_1.length:Int) then (some (rd l0_1 a1)) else (none)) else (none)) else (some (-1))))=some r:=h
 clear h
 obtain ⟨b1,A3,H⟩:=bd_ H
 try dsimp only at H
 replace H:=ox_ H
 rcases H with ⟨rfl,H⟩|⟨rfl,H⟩
 ·
  replace H:=od2 H
  obtain ⟨b3,b4,H⟩:=H
  obtain rfl:=Option.some.inj H
  go_enter Try.func105,Try.ntmps105
  go_wp2_with (first|((with_reducible refine gate_dst (N:=2) rfl ?_);refine bx_ (N:=2) (cs:=#[.slice A0_0 l0_0.length c0_0,.slice A0_1 l0_1.length c0_1]) (t:=29) ?_;intro a2 hg w7 hbox hb;have a0:=ak (hbox);have b2:=ak ((by rw [hg];exact (below_size z13_0):w.heap.size≤a2));have a3:=ak ((by rw [hg];exact (below_size z13_0):w.heap.size≤a2));replace HB:=ak (below_step z13_0 hb);clear hb hbox hg;have a6:=cz20 a0.out;have a7:=cz21 a0.out;have a8:=blk_frozen a0.out 0;have a9:=blk_frozen a0.out 1)|((with_reducible refine gate_callee (f:=106) rfl ?_);refine gl_ (some 8) Try.func106 #[.agg #[.slice A0_0 l0_0.length c0_0,.slice A0_1 l0_1.length c0_1],.int .i64 a1,.int .i64 a1] ?_;(with_reducible refine (spec_l2Both.calls k _ _ l0_0 _ _ l0_1 a1 a1 true _ (y3 HR0_0.out HB.out) a4.out (y3 HR0_1.out HB.out) a5.out A3.out).mono ?_);rintro e w' ⟨rfl,hb⟩;refine ⟨_,rfl,?_⟩;replace a0:=ak (blk_below (g:=a2) (o:=.cells #[.slice A0_0 l0_0.length c0_0,.slice A0_1 l0_1.length c0_1] 29 (0,0)) (xb a0.out) hb);replace HB:=ak (below_step z13_1 hb);(try clear hb);(try clear hb2);(try clear hk);(try clear hi);have a6:=cz20 a0.out;have a7:=cz21 a0.out;have a8:=blk_frozen a0.out 0;have a9:=blk_frozen a0.out 1;have b0:0≤(a1:Int):=oa_;have q777:a1<(l0_1.length:Int):=oa_;obtain ⟨ad777,e777,hx777_0⟩:=Kd.at_int HR0_1.out a1 b0 q777;cases e777;replace hx777_0:=(HB.out.cell (World.block_lt_of_cell? w _ hx777_0)).trans hx777_0;replace b0:=eq_true b0;replace q777:=eq_true q777))
  go_ret
  exact ⟨(by first|rfl|(simp [errW_none,errW_some] <;> rfl)|(simp [*,errW_none,errW_some] <;> rfl)),z13_1⟩
 obtain rfl:=Option.some.inj H
 go_enter Try.func105,Try.ntmps105
 go_wp2_with (first|((with_reducible refine gate_dst (N:=2) rfl ?_);refine bx_ (N:=2) (cs:=#[.slice A0_0 l0_0.length c0_0,.slice A0_1 l0_1.length c0_1]) (t:=29) ?_;intro a2 hg b5 hbox hb;have a0:=ak (hbox);have b2:=ak ((by rw [hg];exact (below_size z13_0):w.heap.size≤a2));have a3:=ak ((by rw [hg];exact (below_size z13_0):w.heap.size≤a2));replace HB:=ak (below_step z13_0 hb);clear hb hbox hg;have a6:=cz20 a0.out;have a7:=cz21 a0.out;have a8:=blk_frozen a0.out 0;have a9:=blk_frozen a0.out 1)|((with_reducible refine gate_callee (f:=106) rfl ?_);refine gl_ (some 8) Try.func106 #[.agg #[.slice A0_0 l0_0.length c0_0,.slice A0_1 l0_1.length c0_1],.int .i64 a1,.int .i64 a1] ?_;(with_reducible refine (spec_l2Both.calls k _ _ l0_0 _ _ l0_1 a1 a1 false _ (y3 HR0_0.out HB.out) a4.out (y3 HR0_1.out HB.out) a5.out A3.out).mono ?_);rintro e w' ⟨rfl,hb⟩;refine ⟨_,rfl,?_⟩;replace a0:=ak (blk_below (g:=a2) (o:=.cells #[.slice A0_0 l0_0.length c0_0,.slice A0_1 l0_1.length c0_1] 29 (0,0)) (xb a0.out) hb);replace HB:=ak (below_step z13_1 hb);(try clear hb);(try clear hb2);(try clear hk);(try clear hi)))
 go_ret
 exact ⟨(by first|rfl|(simp [errW_none,errW_some] <;> rfl)|(simp [*,errW_none,errW_some] <;> rfl)),z13_1⟩

end Go.Proofs.Ytlkibgccgkhdmaa.P

namespace Go.Proofs.Ytlkibgccgkhdmaa.P
open Go.RowKit Go.Proofs.YtlkibgccgkhdmaaW.PrintWords Go.Proofs.YtlkibgccgkhdmaaW.PrintLast Go.Proofs.YtlkibgccgkhdmaaW.PrintMore
attribute [local go_sem] max2_int min2_int max_two min_two max_three min_three max_four min_four
set_option linter.unusedVariables false
set_option linter.unusedSimpArgs false
theorem z12_1 {p:Prop} (h:p:=by repeat (first|(with_reducible first|exact HB.out|apply below_alloc|apply pw_below_drewN|apply below_drew1)|exact HB.out)):p:=h
theorem z12_0 {p:Prop} (h:p:=by repeat (first|(with_reducible first|exact HB.out|apply below_alloc|apply pw_below_drewN|apply below_drew1|refine below_set ?_ a6.out)|exact HB.out)):p:=h
set_option maxHeartbeats 8000000 in
set_option maxRecDepth 100000 in
theorem spec_YesOf.calls (k:Nat) (A0_0:Option Addr) (c0_0:Nat) (l0_0:List (List Int)) (A0_1:Option Addr) (c0_1:Nat) (l0_1:List Int) (r:Int) (w:World) (hr0_0:Kd.C (Kd.slice 3 (Kd.int .i64)) w A0_0 l0_0.length l0_0) (hc0_0:l0_0.length≤c0_0) (hr0_1:Kd.C (Kd.int .i64) w A0_1 l0_1.length l0_1) (hc0_1:l0_1.length≤c0_1) (h:spec_YesOf.f k l0_0 l0_1=some r) :
 Calls Try.prog 102 #[.agg #[.slice A0_0 l0_0.length c0_0,.slice A0_1 l0_1.length c0_1]] w fun e w'=>e = .returned (.int .i64 r)∧Below w.heap.size w w':=by
 have hu29:=Try.underlying29
 have HR0_0:=ak hr0_0
 have a3:=ak hc0_0
 clear hr0_0 hc0_0
 have HR0_1:=ak hr0_1
 have a4:=ak hc0_1
 clear hr0_1 hc0_1
 have HB:=ak (Below.refl w.heap.size w)
 have H:((spec_NoOf.f k l0_0 l0_1).bind fun a2=>((spec_NotOf.f k l0_0 l0_1 a2).bind fun a5=>(some a5)))=some r:=h
 clear h
 obtain ⟨a2,A2,H⟩:=bd_ H
 obtain ⟨a5,A3,H⟩:=bd_ H
 try dsimp only at H
 obtain rfl:=Option.some.inj H
 go_enter Try.func102,Try.ntmps102
 try go_wp2_with (first|((with_reducible refine gate_dst (N:=1) rfl ?_);refine bx_ (N:=1) (cs:=#[.slice A0_0 l0_0.length c0_0,.slice A0_1 l0_1.length c0_1]) (t:=29) ?_;intro a1 hg w4 hbox hb;have a0:=ak (hbox);have a7:=ak ((by rw [hg];exact (below_size z12_1):w.heap.size≤a1));have a6:=ak ((by rw [hg];exact (below_size z12_1):w.heap.size≤a1));replace HB:=ak (below_step z12_1 hb);clear hb hbox hg))
 replace a0:=ak (blk_drew a0.out)
 replace HB:=ak (below_drew1 HB.out)
 refine start_ (n:=5) (S:=fun w'=>w'.cell? ⟨a1,0,none⟩=some (.slice A0_0 l0_0.length c0_0)∧w'.cell? ⟨a1,1,none⟩=some (.slice A0_1 l0_1.length c0_1)) (ds:=[]) (bA 5 0) (by kernel_rfl) rfl rfl ⟨(blk_cell a0.out 0).trans rfl,(blk_cell a0.out 1).trans rfl⟩ (fun hHeld=>?_)
 generalize w4.drew=w5 at a0 HB hHeld ⊢
 refine tk_ (i:=0) (N:=some 3) (bA 5 1) ?_
 refine tk_ (i:=1) (N:=some 4) (bA 5 3) ?_
 refine one_ (i:=2) (N:=some 5) (bA 5 7) rfl rfl (by kernel_rfl) (by decide) (fun K hK=>?_)
 refine ge_ Try.func101 #[.agg #[.slice A0_0 l0_0.length c0_0,.slice A0_1 l0_1.length c0_1]] ?_
 with_reducible refine (spec_NoOf.calls k _ _ l0_0 _ _ l0_1 a2 _ ?side1 ?side2 ?side3 ?side4 A2.out).mono ?_
 (case side1=>repeat (first|exact (Kd.C_below HR0_0.out HB.out)|(with_reducible refine Kd.C_alloc ?_ _)|(with_reducible refine Kd.C_drewN ?_ _)|(with_reducible refine Kd.C_drew ?_)))
 (case side2=>exact a3.out)
 (case side3=>repeat (first|exact (Kd.C_below HR0_1.out HB.out)|(with_reducible refine Kd.C_alloc ?_ _)|(with_reducible refine Kd.C_drewN ?_ _)|(with_reducible refine Kd.C_drew ?_)))
 (case side4=>exact a4.out)
 rintro e w' ⟨rfl,hb⟩
 refine ⟨_,rfl,?_⟩
 replace a0:=ak (blk_below (g:=a1) (o:=.cells #[.slice A0_0 l0_0.length c0_0,.slice A0_1 l0_1.length c0_1] 29 (0,0)) (xb a0.out) hb)
 replace HB:=ak (below_step z12_0 hb)
 (try clear hb)
 (try clear hb2)
 (try clear hk)
 (try clear hi)
 refine hK.out _ _ ⟨(blk_cell a0.out 0).trans rfl,(blk_cell a0.out 1).trans rfl⟩ (fun hHeld=>?_)
 clear hK K
 refine no_ (N:=some 5) ?_
 refine one_ (i:=3) (N:=some 6) (bA 5 15) rfl rfl (by kernel_rfl) (by decide) (fun K hK=>?_)
 refine ge_ Try.func105 #[.agg #[.slice A0_0 l0_0.length c0_0,.slice A0_1 l0_1.length c0_1],.int .i64 a2] ?_
 with_reducible refine (spec_NotOf.calls k _ _ l0_0 _ _ l0_1 a2 a5 _ ?side1 ?side2 ?side3 ?side4 A3.out).mono ?_
 (case side1=>repeat (first|exact (Kd.C_below HR0_0.out HB.out)|(with_reducible refine Kd.C_alloc ?_ _)|(with_reducible refine Kd.C_drewN ?_ _)|(with_reducible refine Kd.C_drew ?_)))
 (case side2=>exact a3.out)
 (case side3=>repeat (first|exact (Kd.C_below HR0_1.out HB.out)|(with_reducible refine Kd.C_alloc ?_ _)|(with_reducible refine Kd.C_drewN ?_ _)|(with_reducible refine Kd.C_drew ?_)))
 (case side4=>exact a4.out)
 rintro e w' ⟨rfl,hb⟩
 refine ⟨_,rfl,?_⟩
 replace a0:=ak (blk_below (g:=a1) (o:=.cells #[.slice A0_0 l0_0.length c0_0,.slice A0_1 l0_1.length c0_1] 29 (0,0)) (xb a0.out) hb)
 replace HB:=ak (below_step z12_0 hb)
 (try clear hb)
 (try clear hb2)
 (try clear hk)
 (try clear hi)
 refine hK.out _ _ ⟨(blk_cell a0.out 0).trans rfl,(blk_cell a0.out 1).trans rfl⟩ (fun hHeld=>?_)
 clear hK K
 refine no_ (N:=some 6) ?_
 refine pu_ (i:=4) (N:=some 2) (bA 5 31) ?_
 refine done_ (by kernel_rfl) ?_
 try go_wp2
 go_ret
 exact ⟨(by first|rfl|(simp [errW_none,errW_some] <;> rfl)|(simp [*,errW_none,errW_some] <;> rfl)),z12_0⟩

end Go.Proofs.Ytlkibgccgkhdmaa.P

namespace Go.Proofs.Ytlkibgccgkhdmaa.P
open Go.RowKit Go.Proofs.YtlkibgccgkhdmaaW.PrintWords Go.Proofs.YtlkibgccgkhdmaaW.PrintLast Go.Proofs.YtlkibgccgkhdmaaW.PrintMore
attribute [local go_sem] max2_int min2_int max_two min_two max_three min_three max_four min_four
set_option linter.unusedVariables false
set_option linter.unusedSimpArgs false
theorem zu_2 {p:Prop} (h:p:=by first|rfl|(simp;done)|(simp [*];done)):p:=h
theorem zu_1 {p:Prop} (h:p:=by repeat (first|(with_reducible first|exact HB.out|apply below_alloc|apply pw_below_drewN|apply below_drew1)|exact HB.out)):p:=h
theorem zu_0 {p:Prop} (h:p:=by repeat (first|(with_reducible first|exact HB.out|apply below_alloc|apply pw_below_drewN|apply below_drew1|refine below_set ?_ b2.out)|exact HB.out)):p:=h
set_option maxHeartbeats 8000000 in
set_option maxRecDepth 100000 in
theorem spec_l3Inner.calls (k:Nat) (A0_0:Option Addr) (c0_0:Nat) (l0_0:List (List Int)) (A0_1:Option Addr) (c0_1:Nat) (l0_1:List Int) (r:List Int) (w:World) (hr0_0:Kd.C (Kd.slice 3 (Kd.int .i64)) w A0_0 l0_0.length l0_0) (hc0_0:l0_0.length≤c0_0) (hr0_1:Kd.C (Kd.int .i64) w A0_1 l0_1.length l0_1) (hc0_1:l0_1.length≤c0_1) (h:spec_l3Inner.f k l0_0 l0_1=some r) :
 Calls Try.prog 87 #[.agg #[.slice A0_0 l0_0.length c0_0,.slice A0_1 l0_1.length c0_1]] w fun e w'=>∃ v0_:Value,e = .returned (v0_)∧Kd.R (Kd.int .i64) 3 w' w.heap.size (fun _=>True) v0_ r∧Below w.heap.size w w':=by
 have hu29:=Try.underlying29
 have HR0_0:=ak hr0_0
 have a4:=ak hc0_0
 clear hr0_0 hc0_0
 have HR0_1:=ak hr0_1
 have a5:=ak hc0_1
 clear hr0_1 hc0_1
 have HB:=ak (Below.refl w.heap.size w)
 have H:(spec_l3Inner.l0 k (([]:List Int)) 0 l0_0 l0_1)=some r:=h
 clear h
 obtain ⟨y782,hy782⟩ : ∃ y_:List Int,y_=(([]:List Int)):=⟨_,rfl⟩
 replace H:(spec_l3Inner.l0 k y782 0 l0_0 l0_1)=some r:=by first|(rw [hy782];with_reducible exact H)|(have H2_:=(Option.bind_some _ _).symm.trans H;rw [hy782];with_reducible exact H2_)|(have H2_:=(Option.bind_some _ _).symm.trans H;with_reducible exact H2_)|with_reducible exact H|(rw [hy782];exact H)|exact H
 have Ny782:=ak hy782
 clear hy782
 have H':=ak H
 clear H
 go_enter Try.func87,Try.ntmps87
 go_wp2_with (first|((with_reducible refine gate_dst (N:=1) rfl ?_);refine bx_ (N:=1) (cs:=#[.slice A0_0 l0_0.length c0_0,.slice A0_1 l0_1.length c0_1]) (t:=29) ?_;intro a2 hg w2 hbox hb;have a0:=ak (hbox);have d1:=ak ((by rw [hg];exact (below_size zu_1):w.heap.size≤a2));have b2:=ak ((by rw [hg];exact (below_size zu_1):w.heap.size≤a2));replace HB:=ak (below_step zu_1 hb);clear hb hbox hg)|((with_reducible refine gate_dst (N:=5) rfl ?_);refine Kd.R_lit (Kd.int .i64) _ 3 ?hg (N:=5) ?hd (xs:=([]:List Int)) (inner:=[]) (ok:=fun _=>True) (okp:=fun _=>True) ?hr ?hp (fun _ hk=>hk) trivial (Below.refl _ _) (Nat.le_refl _) (by simp) ?_;(case hd=>rfl);(case hg=>rfl);(case hr=>first|(go_simp;done)|(go_simp;rfl));(case hp=>exact (Reps.none _ _));intro d4 w3 ho4 hb hg_ hnew_;clear hg_ hnew_;(first|rw [← Ny782.out] at ho4|(simp only [Int.reduceToNat] at ho4;rw [← Ny782.out] at ho4));have b3:=ak (Kd.R_lower ho4 (below_size zu_0));replace a0:=ak (blk_below (g:=a2) (o:=.cells #[.slice A0_0 l0_0.length c0_0,.slice A0_1 l0_1.length c0_1] 29 (0,0)) (xb a0.out) hb);replace HB:=ak (below_step zu_0 hb);clear hb ho4))
 go_loopg [3,4] k (fun kq v3 v4 w'=>∃ (b0:List Int) (a3:Int),v4 = .int .i64 a3∧Aside0 (spec_l3Inner.l0 kq b0 a3 l0_0 l0_1=some r)∧Aside0 (kq≤k)∧Aside0 (Kd.R (Kd.int .i64) 3 w' w.heap.size (fun _=>True) v3 b0)∧Aside0 (w'.heap[a2]?=some (.cells #[(.slice A0_0 l0_0.length c0_0),(.slice A0_1 l0_1.length c0_1)] 29 (0,0)))∧Aside0 (Below w.heap.size w w'))
 case atStart=>exact ⟨(y782),(0),zu_2,H',⟨Nat.le_refl _⟩,⟨(xR b3.out)⟩,⟨(xb a0.out)⟩,⟨zu_0⟩⟩
 case round =>
  clear H'
  obtain ⟨b0,a3,rfl,HA,HK1,a1,a0,HB⟩:=hrel
  cases gk with
  | zero=>exact absurd HA.out (by simp [spec_l3Inner.l0])
  | succ k1 =>
   have H:=HA.out
   clear HA
   simp only [spec_l3Inner.l0] at H
   replace H:=os_ H
   rcases H with ⟨b8,H⟩|⟨b8,H⟩
   ·
    obtain ⟨b1,A6,H⟩:=bd_ H
    try dsimp only at H
    replace H:=oe2 H
    rcases H with ⟨⟨-,b9,d0⟩,H⟩|⟨⟨c7,b9,d0⟩,H⟩
    ·
     have H':=ak H
     clear H
     have a6:=cz20 a0.out
     have a7:=cz21 a0.out
     have a8:=blk_frozen a0.out 0
     have a9:=blk_frozen a0.out 1
     go_wp2_with (first|((with_reducible refine gate_callee (f:=101) rfl ?_);refine gl_ (some 15) Try.func101 #[.agg #[.slice A0_0 l0_0.length c0_0,.slice A0_1 l0_1.length c0_1]] ?_;(with_reducible refine (spec_NoOf.calls k1 _ _ l0_0 _ _ l0_1 b1 _ (y3 HR0_0.out HB.out) a4.out (y3 HR0_1.out HB.out) a5.out A6.out).mono ?_);rintro e w' ⟨rfl,hb⟩;refine ⟨_,rfl,?_⟩;replace a1:=ak (Kd.R_below (xR a1.out) hb);replace a0:=ak (blk_below (g:=a2) (o:=.cells #[.slice A0_0 l0_0.length c0_0,.slice A0_1 l0_1.length c0_1] 29 (0,0)) (xb a0.out) hb);replace HB:=ak (below_step zu_0 hb);(try clear hb);(try clear hb2);(try clear hk);(try clear hi)))
     go_roundg k1
     case measure=>have:=HK1.out;omega
     case rel=>exact ⟨(b0),(wrap64 (a3+1)),zu_2,H',⟨(by have:=HK1.out;omega)⟩,⟨(xR a1.out)⟩,⟨(xb a0.out)⟩,⟨zu_0⟩⟩
    obtain ⟨b4,d2,H⟩:=bd_ H
    try dsimp only at H
    replace H:=oe2 H
    rcases H with ⟨⟨-,b5,b6⟩,H⟩|⟨⟨d6,b5,b6⟩,H⟩
    ·
     have H':=ak H
     clear H
     have a6:=cz20 a0.out
     have a7:=cz21 a0.out
     have a8:=blk_frozen a0.out 0
     have a9:=blk_frozen a0.out 1
     go_wp2_with (first|((with_reducible refine gate_callee (f:=101) rfl ?_);refine gl_ (some 15) Try.func101 #[.agg #[.slice A0_0 l0_0.length c0_0,.slice A0_1 l0_1.length c0_1]] ?_;(with_reducible refine (spec_NoOf.calls k1 _ _ l0_0 _ _ l0_1 b1 _ (y3 HR0_0.out HB.out) a4.out (y3 HR0_1.out HB.out) a5.out A6.out).mono ?_);rintro e w' ⟨rfl,hb⟩;refine ⟨_,rfl,?_⟩;replace a1:=ak (Kd.R_below (xR a1.out) hb);replace a0:=ak (blk_below (g:=a2) (o:=.cells #[.slice A0_0 l0_0.length c0_0,.slice A0_1 l0_1.length c0_1] 29 (0,0)) (xb a0.out) hb);replace HB:=ak (below_step zu_0 hb);(try clear hb);(try clear hb2);(try clear hk);(try clear hi);have a6:=cz20 a0.out;have a7:=cz21 a0.out;have a8:=blk_frozen a0.out 0;have a9:=blk_frozen a0.out 1)|(go_at_call 102;(with_reducible refine (spec_YesOf.calls k1 _ _ l0_0 _ _ l0_1 b4 _ (y3 HR0_0.out HB.out) a4.out (y3 HR0_1.out HB.out) a5.out d2.out).mono ?_);rintro e w' ⟨rfl,hb⟩;replace a1:=ak (Kd.R_below (xR a1.out) hb);replace a0:=ak (blk_below (g:=a2) (o:=.cells #[.slice A0_0 l0_0.length c0_0,.slice A0_1 l0_1.length c0_1] 29 (0,0)) (xb a0.out) hb);replace HB:=ak (below_step zu_0 hb);(try clear hb);(try clear hb2);(try clear hk);(try clear hi)))
     go_roundg k1
     case measure=>have:=HK1.out;omega
     case rel=>exact ⟨(b0),(wrap64 (a3+1)),zu_2,H',⟨(by have:=HK1.out;omega)⟩,⟨(xR a1.out)⟩,⟨(xb a0.out)⟩,⟨zu_0⟩⟩
    replace H:=ok_ H
    obtain ⟨d3,H⟩:=H
    have LMc16:=ak d3
    clear d3
    obtain ⟨y787,hy787⟩ : ∃ y_:List Int,y_=(b0 ++ [a3]):=⟨_,rfl⟩
    replace H:(spec_l3Inner.l0 k1 y787 (wrap64 (a3+1)) l0_0 l0_1)=some r:=by first|(rw [hy787];with_reducible exact H)|(have H2_:=(Option.bind_some _ _).symm.trans H;rw [hy787];with_reducible exact H2_)|(have H2_:=(Option.bind_some _ _).symm.trans H;with_reducible exact H2_)|with_reducible exact H|(rw [hy787];exact H)|exact H
    have Ny787:=ak hy787
    clear hy787
    have H':=ak H
    clear H
    have a6:=cz20 a0.out
    have a7:=cz21 a0.out
    have a8:=blk_frozen a0.out 0
    have a9:=blk_frozen a0.out 1
    go_wp2_with (first|((with_reducible refine gate_callee (f:=101) rfl ?_);refine gl_ (some 15) Try.func101 #[.agg #[.slice A0_0 l0_0.length c0_0,.slice A0_1 l0_1.length c0_1]] ?_;(with_reducible refine (spec_NoOf.calls k1 _ _ l0_0 _ _ l0_1 b1 _ (y3 HR0_0.out HB.out) a4.out (y3 HR0_1.out HB.out) a5.out A6.out).mono ?_);rintro e w' ⟨rfl,hb⟩;refine ⟨_,rfl,?_⟩;replace a1:=ak (Kd.R_below (xR a1.out) hb);replace a0:=ak (blk_below (g:=a2) (o:=.cells #[.slice A0_0 l0_0.length c0_0,.slice A0_1 l0_1.length c0_1] 29 (0,0)) (xb a0.out) hb);replace HB:=ak (below_step zu_0 hb);(try clear hb);(try clear hb2);(try clear hk);(try clear hi);have a6:=cz20 a0.out;have a7:=cz21 a0.out;have a8:=blk_frozen a0.out 0;have a9:=blk_frozen a0.out 1)|(go_at_call 102;(with_reducible refine (spec_YesOf.calls k1 _ _ l0_0 _ _ l0_1 b4 _ (y3 HR0_0.out HB.out) a4.out (y3 HR0_1.out HB.out) a5.out d2.out).mono ?_);rintro e w' ⟨rfl,hb⟩;replace a1:=ak (Kd.R_below (xR a1.out) hb);replace a0:=ak (blk_below (g:=a2) (o:=.cells #[.slice A0_0 l0_0.length c0_0,.slice A0_1 l0_1.length c0_1] 29 (0,0)) (xb a0.out) hb);replace HB:=ak (below_step zu_0 hb);(try clear hb);(try clear hb2);(try clear hk);(try clear hi))|((with_reducible refine gate_builtin (b:=.append) (xs:=#[.tmp 23,.tmp 25]) rfl ?_);at_builtin;refine Kd.R_append (Kd.int .i64) (w0:=w) w.heap.size rfl (.tmp 23) (.tmp 25) 23 3 (.int .i64 0) 8 rfl Try.underlying23 info3 rfl (by decide) (by omega) u3 b0 a3 [.int .i64 a3] (fun _=>True) (fun _=>False) rfl rfl ?aP (fun _ hk=>hk.elim) ?aF ?aO ?aB ?aS ?aL ?_;(case aP=>exact rfl);(case aB=>exact zu_0);(case aF=>exact (fun _ _=>trivial));(case aO=>exact (xR a1.out));(case aS=>exact (below_size zu_0));(case aL=>have:=LMc16.out;omega);intro d5 d7 ho hb hg hat;rw [← Ny787.out] at ho;replace a0:=ak (blk_grown (g:=a2) (o:=.cells #[.slice A0_0 l0_0.length c0_0,.slice A0_1 l0_1.length c0_1] 29 (0,0)) (xb a0.out) hg (Kd.R_ne a1.out a0.out (by decide)));replace HB:=ak (hb);have b7:=ak (ho);clear a1;clear ho hb hg hat))
    go_roundg k1
    case measure=>have:=HK1.out;omega
    case rel=>exact ⟨(y787),(wrap64 (a3+1)),zu_2,H',⟨(by have:=HK1.out;omega)⟩,⟨(xR b7.out)⟩,⟨(xb a0.out)⟩,⟨zu_0⟩⟩
   obtain rfl:=Option.some.inj H
   have a6:=cz20 a0.out
   have a7:=cz21 a0.out
   have a8:=blk_frozen a0.out 0
   have a9:=blk_frozen a0.out 1
   go_wp2
   go_ret
   exact ⟨_,(by first|rfl|(simp [errW_none,errW_some] <;> rfl)|(simp [*,errW_none,errW_some] <;> rfl)),(xR a1.out),zu_0⟩

end Go.Proofs.Ytlkibgccgkhdmaa.P
