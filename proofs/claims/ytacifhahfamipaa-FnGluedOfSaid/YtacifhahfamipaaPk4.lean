/- 13 texts of this seat joined: walks, and the laws of what they compute. -/
import Derived.Test.YtacifhahfamipaaPk2
import Derived.Test.YtacifhahfamipaaPk3
namespace Go.Proofs.Ytacifhahfamipaa.P
open Go.RowKit Go.Proofs.YtacifhahfamipaaW.PrintWords Go.Proofs.YtacifhahfamipaaW.PrintLast Go.Proofs.YtacifhahfamipaaW.PrintMore
attribute [local go_sem] max2_int min2_int max_two min_two max_three min_three max_four min_four
set_option linter.unusedVariables false
set_option linter.unusedSimpArgs false
theorem z1k_1 {p:Prop} (h:p:=by first|rfl|(simp;done)|(simp [*];done)):p:=h
theorem z1k_0 {p:Prop} (h:p:=by repeat (first|exact Drawn0.refl _|apply Drawn0.step)):p:=h
set_option maxHeartbeats 8000000 in
set_option maxRecDepth 100000 in
theorem spec_LatticeOk.calls (k:Nat) (A0:Option Addr) (c0:Nat) (l0:List (List Int)) (r:Bool) (w:World) (hr0:Kd.C (Kd.slice 3 (Kd.int .i64)) w A0 l0.length l0) (hc0:l0.length≤c0) (h:spec_LatticeOk.f k l0=some r) :
 Calls Try.prog 80 #[.slice A0 l0.length c0] w fun e w'=>e = .returned (.bool r)∧Drawn0 w w':=by
 have HR0:=ak hr0
 have a4:=ak hc0
 clear hr0 hc0
 have H:(spec_LatticeOk.l0 k l0 0)=some r:=h
 clear h
 have H':=ak H
 clear H
 go_enter Try.func80,Try.ntmps80
 go_wp2
 go_loopg [3] k (fun kq v3 w'=>∃ (a0:Int),v3 = .int .i64 a0∧Aside0 (spec_LatticeOk.l0 kq l0 a0=some r)∧Aside0 (kq≤k)∧Drawn0 w w')
 case atStart=>exact ⟨(0),z1k_1,H',⟨Nat.le_refl _⟩,z1k_0⟩
 case round =>
  clear H'
  obtain ⟨a0,rfl,HA,HK1,⟨m1,rfl⟩⟩:=hrel
  cases gk with
  | zero=>exact absurd HA.out (by simp [spec_LatticeOk.l0])
  | succ k1 =>
   have H:=HA.out
   clear HA
   simp only [spec_LatticeOk.l0] at H
   have b0:=ak H
   clear H
   go_upto_region 2 with (fail)
   go_cut [12] (fun b5 wc=>∃ (kq:Nat) (a2:Bool),b5 = .bool a2∧Aside0 (spec_LatticeOk.j1 kq l0 a0 a2=some r)∧Aside0 (kq≤k1)∧Drawn0 w wc)
   case first =>
    have H:=b0.out
    clear b0
    replace H:=os_ H
    rcases H with ⟨a3,H⟩|⟨a3,H⟩
    ·
     (first|rw [a3]|(simp only [i64_w,i32_w];rw [a3])|skip)
     obtain ⟨a6,A4,H⟩:=bd_ H
     try dsimp only at H
     have H':=ak H
     clear H
     go_wp2_with (first|(go_at_call 112;(with_reducible refine (spec_OrderOk.calls k1 _ _ l0 a6 _ (y4 HR0.out) a4.out A4.out).mono ?_);rintro e w' ⟨rfl,⟨nd,rfl⟩⟩))
     go_meet
     case rel=>exact ⟨_,(a6),z1k_1,H',⟨(by have:=HK1.out;first|omega|exact Nat.le_refl _)⟩,z1k_0⟩
    (first|rw [a3]|(simp only [i64_w,i32_w];rw [a3])|skip)
    have H':=ak H
    clear H
    go_wp2
    go_meet
    case rel=>exact ⟨_,(false),z1k_1,H',⟨(by have:=HK1.out;first|omega|exact Nat.le_refl _)⟩,z1k_0⟩
   case rest =>
    clear b0
    obtain ⟨kq,a2,rfl,HA,a9,⟨mc1,rfl⟩⟩:=hcut
    cases kq with
    | zero=>exact absurd HA.out (by simp [spec_LatticeOk.j1])
    | succ b1 =>
     have H:=HA.out
     clear HA
     simp only [spec_LatticeOk.j1] at H
     replace H:=ox_ H
     rcases H with ⟨rfl,H⟩|⟨rfl,H⟩
     ·
      have H':=ak H
      clear H
      go_wp2
      go_loopg [4] b1 (fun kq v4 w'=>∃ (a1:Int),v4 = .int .i64 a1∧Aside0 (spec_LatticeOk.l1 kq l0 a0 a1=some r)∧Aside0 (kq≤b1)∧Drawn0 w w')
      case atStart=>exact ⟨(0),z1k_1,H',⟨Nat.le_refl _⟩,z1k_0⟩
      case round =>
       clear H'
       try clear c5
       obtain ⟨a1,rfl,HA,HK3,⟨m3,rfl⟩⟩:=hrel
       cases gk with
       | zero=>exact absurd HA.out (by simp [spec_LatticeOk.l1])
       | succ k3 =>
        have H:=HA.out
        clear HA
        simp only [spec_LatticeOk.l1] at H
        replace H:=os_ H
        rcases H with ⟨b2,H⟩|⟨b2,H⟩
        ·
         obtain ⟨a5,A7,H⟩:=bd_ H
         try dsimp only at H
         replace H:=os_ H
         rcases H with ⟨b3,H⟩|⟨b3,H⟩
         ·
          obtain rfl:=Option.some.inj H
          go_wp2_with (first|((with_reducible refine gate_callee (f:=77) rfl ?_);refine gl_ (some 23) Try.func77 #[.slice A0 l0.length c0,.int .i64 a0,.int .i64 a1] ?_;(with_reducible refine (spec_l1Meet.calls k3 _ _ l0 a0 a1 a5 _ (y4 HR0.out) a4.out A7.out).mono ?_);rintro e w' ⟨rfl,⟨nd,rfl⟩⟩;refine ⟨_,rfl,?_⟩))
          go_ret
          exact ⟨z1k_1,z1k_0⟩
         obtain ⟨a7,A9,H⟩:=bd_ H
         try dsimp only at H
         replace H:=os_ H
         rcases H with ⟨a8,H⟩|⟨a8,H⟩
         ·
          obtain rfl:=Option.some.inj H
          go_wp2_with (first|((with_reducible refine gate_callee (f:=77) rfl ?_);refine gl_ (some 23) Try.func77 #[.slice A0 l0.length c0,.int .i64 a0,.int .i64 a1] ?_;(with_reducible refine (spec_l1Meet.calls k3 _ _ l0 a0 a1 a5 _ (y4 HR0.out) a4.out A7.out).mono ?_);rintro e w' ⟨rfl,⟨nd,rfl⟩⟩;refine ⟨_,rfl,?_⟩)|(go_at_call 76;(with_reducible refine (spec_l1Join.calls k3 _ _ l0 a0 a1 a7 _ (y4 HR0.out) a4.out A9.out).mono ?_);rintro e w' ⟨rfl,⟨nd,rfl⟩⟩))
          go_ret
          exact ⟨z1k_1,z1k_0⟩
         have H':=ak H
         clear H
         go_wp2_with (first|((with_reducible refine gate_callee (f:=77) rfl ?_);refine gl_ (some 23) Try.func77 #[.slice A0 l0.length c0,.int .i64 a0,.int .i64 a1] ?_;(with_reducible refine (spec_l1Meet.calls k3 _ _ l0 a0 a1 a5 _ (y4 HR0.out) a4.out A7.out).mono ?_);rintro e w' ⟨rfl,⟨nd,rfl⟩⟩;refine ⟨_,rfl,?_⟩)|(go_at_call 76;(with_reducible refine (spec_l1Join.calls k3 _ _ l0 a0 a1 a7 _ (y4 HR0.out) a4.out A9.out).mono ?_);rintro e w' ⟨rfl,⟨nd,rfl⟩⟩))
         go_roundg k3
         case measure=>have:=HK1.out;have:=a9.out;have:=HK3.out;omega
         case rel=>exact ⟨(wrap64 (a1+1)),z1k_1,H',⟨(by have:=HK1.out;have:=a9.out;have:=HK3.out;omega)⟩,z1k_0⟩
        have H':=ak H
        clear H
        go_wp2
        go_roundg k3
        case measure=>have:=HK1.out;have:=a9.out;have:=HK3.out;omega
        case rel=>exact ⟨(wrap64 (a0+1)),z1k_1,H',⟨(by have:=HK1.out;have:=a9.out;have:=HK3.out;omega)⟩,z1k_0⟩
     obtain ⟨b4,b6,H⟩:=bd_ H
     try dsimp only at H
     obtain rfl:=Option.some.inj H
     go_wp2_with (first|((with_reducible refine gate_callee (f:=112) rfl ?_);refine gl_ (some 33) Try.func112 #[.slice A0 l0.length c0] ?_;(with_reducible refine (spec_OrderOk.calls b1 _ _ l0 b4 _ (y4 HR0.out) a4.out b6.out).mono ?_);rintro e w' ⟨rfl,⟨nd,rfl⟩⟩;refine ⟨_,rfl,?_⟩))
     go_ret
     exact ⟨z1k_1,z1k_0⟩

end Go.Proofs.Ytacifhahfamipaa.P

namespace Go.Proofs.Ytacifhahfamipaa.P
open Go.RowKit Go.Proofs.YtacifhahfamipaaW.PrintWords Go.Proofs.YtacifhahfamipaaW.PrintLast Go.Proofs.YtacifhahfamipaaW.PrintMore
attribute [local go_sem] max2_int min2_int max_two min_two max_three min_three max_four min_four
set_option linter.unusedVariables false
set_option linter.unusedSimpArgs false
theorem z1l_1 {p:Prop} (h:p:=by repeat (first|exact Drawn0.refl _|apply Drawn0.step)):p:=h
theorem z1l_0 {p:Prop} (h:p:=by first|rfl|(simp;done)|(simp [*];done)):p:=h
set_option maxHeartbeats 8000000 in
set_option maxRecDepth 100000 in
theorem spec_LeastOf.calls (k:Nat) (A0:Option Addr) (c0:Nat) (l0:List (List Int)) (r1:Int) (r2:Bool) (w:World) (hr0:Kd.C (Kd.slice 3 (Kd.int .i64)) w A0 l0.length l0) (hc0:l0.length≤c0) (h:spec_LeastOf.f k l0=some (r1,r2)) :
 Calls Try.prog 81 #[.slice A0 l0.length c0] w fun e w'=>e = .returned (.tuple #[.int .i64 r1,.bool r2])∧Drawn0 w w':=by
 have HR0:=ak hr0
 have b5:=ak hc0
 clear hr0 hc0
 have H:(spec_LeastOf.l0 k l0 0)=some (r1,r2):=h
 clear h
 have H':=ak H
 clear H
 go_enter Try.func81,Try.ntmps81
 go_wp2
 go_loopg [4] k (fun kq v4 w'=>∃ (a0:Int),v4 = .int .i64 a0∧Aside0 (spec_LeastOf.l0 kq l0 a0=some (r1,r2))∧Aside0 (kq≤k)∧Drawn0 w w')
 case atStart=>exact ⟨(0),z1l_0,H',⟨Nat.le_refl _⟩,z1l_1⟩
 case round =>
  clear H'
  obtain ⟨a0,rfl,HA,HK1,⟨m1,rfl⟩⟩:=hrel
  cases gk with
  | zero=>exact absurd HA.out (by simp [spec_LeastOf.l0])
  | succ k1 =>
   have H:=HA.out
   clear HA
   simp only [spec_LeastOf.l0] at H
   have a8:=ak H
   clear H
   go_upto_region 2 with (fail)
   go_cut [14] (fun b6 wc=>∃ (kq:Nat) (a2:Bool),b6 = .bool a2∧Aside0 (spec_LeastOf.j1 kq l0 a0 a2=some (r1,r2))∧Aside0 (kq≤k1)∧Drawn0 w wc)
   case first =>
    have H:=a8.out
    clear a8
    replace H:=os_ H
    rcases H with ⟨a3,H⟩|⟨a3,H⟩
    ·
     (first|rw [a3]|(simp only [i64_w,i32_w];rw [a3])|skip)
     obtain ⟨a6,A4,H⟩:=bd_ H
     try dsimp only at H
     have H':=ak H
     clear H
     go_wp2_with (first|(go_at_call 112;(with_reducible refine (spec_OrderOk.calls k1 _ _ l0 a6 _ (y4 HR0.out) b5.out A4.out).mono ?_);rintro e w' ⟨rfl,⟨nd,rfl⟩⟩))
     go_meet
     case rel=>exact ⟨_,(a6),z1l_0,H',⟨(by have:=HK1.out;first|omega|exact Nat.le_refl _)⟩,z1l_1⟩
    (first|rw [a3]|(simp only [i64_w,i32_w];rw [a3])|skip)
    have H':=ak H
    clear H
    go_wp2
    go_meet
    case rel=>exact ⟨_,(false),z1l_0,H',⟨(by have:=HK1.out;first|omega|exact Nat.le_refl _)⟩,z1l_1⟩
   case rest =>
    clear a8
    obtain ⟨kq,a2,rfl,HA,a5,⟨mc1,rfl⟩⟩:=hcut
    cases kq with
    | zero=>exact absurd HA.out (by simp [spec_LeastOf.j1])
    | succ b2 =>
     have H:=HA.out
     clear HA
     simp only [spec_LeastOf.j1] at H
     replace H:=ox_ H
     rcases H with ⟨rfl,H⟩|⟨rfl,H⟩
     ·
      have H':=ak H
      clear H
      go_wp2
      go_loopg [5,6] b2 (fun kq v5 v6 w'=>∃ (a4:Bool) (a1:Int),v5 = .bool a4∧v6 = .int .i64 a1∧Aside0 (spec_LeastOf.l1 kq l0 a0 a4 a1=some (r1,r2))∧Aside0 (kq≤b2)∧Drawn0 w w')
      case atStart=>exact ⟨(true),(0),z1l_0,z1l_0,H',⟨Nat.le_refl _⟩,z1l_1⟩
      case round =>
       clear H'
       try clear c5
       obtain ⟨a4,a1,rfl,rfl,HA,HK3,⟨m3,rfl⟩⟩:=hrel
       cases gk with
       | zero=>exact absurd HA.out (by simp [spec_LeastOf.l1])
       | succ k3 =>
        have H:=HA.out
        clear HA
        simp only [spec_LeastOf.l1] at H
        replace H:=os_ H
        rcases H with ⟨a9,H⟩|⟨a9,H⟩
        ·
         replace H:=ox_ H
         rcases H with ⟨rfl,H⟩|⟨rfl,H⟩
         ·
          replace H:=od4 H
          obtain ⟨b7,b8,b3,b4,H⟩:=H
          have H':=ak H
          clear H
          obtain ⟨ad625,b0,b1,e625,hx625_0,a7,HR625_0,b9,q625⟩:=al_ HR0.out a0
          cases e625
          obtain ⟨ad626,e626,hx626_0,d0,q626⟩:=ai_ HR625_0.out a1
          cases e626
          go_wp2
          go_roundg k3
          case measure=>have:=HK1.out;have:=a5.out;have:=HK3.out;omega
          case rel=>exact ⟨(((rd (rd_L1 l0 a0) a1)==1)),(wrap64 (a1+1)),z1l_0,z1l_0,H',⟨(by have:=HK1.out;have:=a5.out;have:=HK3.out;omega)⟩,z1l_1⟩
         have H':=ak H
         clear H
         go_wp2
         go_roundg k3
         case measure=>have:=HK1.out;have:=a5.out;have:=HK3.out;omega
         case rel=>exact ⟨(false),(wrap64 (a1+1)),z1l_0,z1l_0,H',⟨(by have:=HK1.out;have:=a5.out;have:=HK3.out;omega)⟩,z1l_1⟩
        replace H:=ox_ H
        rcases H with ⟨rfl,H⟩|⟨rfl,H⟩
        ·
         simp only [Option.some.injEq,Prod.mk.injEq] at H
         obtain ⟨rfl,rfl⟩:=H
         go_wp2
         go_ret2
         exact ⟨z1l_0,z1l_1⟩
        have H':=ak H
        clear H
        go_wp2
        go_roundg k3
        case measure=>have:=HK1.out;have:=a5.out;have:=HK3.out;omega
        case rel=>exact ⟨(wrap64 (a0+1)),z1l_0,H',⟨(by have:=HK1.out;have:=a5.out;have:=HK3.out;omega)⟩,z1l_1⟩
     simp only [Option.some.injEq,Prod.mk.injEq] at H
     obtain ⟨rfl,rfl⟩:=H
     go_wp2
     go_ret2
     exact ⟨z1l_0,z1l_1⟩

end Go.Proofs.Ytacifhahfamipaa.P

namespace Go.Proofs.Ytacifhahfamipaa.P
open Go.RowKit Go.Proofs.YtacifhahfamipaaW.PrintWords Go.Proofs.YtacifhahfamipaaW.PrintLast Go.Proofs.YtacifhahfamipaaW.PrintMore
attribute [local go_sem] max2_int min2_int max_two min_two max_three min_three max_four min_four
set_option linter.unusedVariables false
set_option linter.unusedSimpArgs false
theorem z1m_4 {p:Prop} (h:p:=by have:=e1.out;have:=HK2.out;have:=HK3.out;have:=d8.out;have:=HK5.out;omega):p:=h
theorem z1m_3 {p:Prop} (h:p:=by first|rfl|(simp [errW_none,errW_some] <;> rfl)|(simp [*,errW_none,errW_some] <;> rfl)):p:=h
theorem z1m_2 {p:Prop} (h:p:=by first|rfl|(simp;done)|(simp [*];done)):p:=h
theorem z1m_1 {p:Prop} (h:p:=by repeat (first|(with_reducible first|exact HB.out|apply below_alloc|apply pw_below_drewN|apply below_drew1)|exact HB.out)):p:=h
theorem z1m_0 {p:Prop} (h:p:=by repeat (first|(with_reducible first|exact HB.out|apply below_alloc|apply pw_below_drewN|apply below_drew1|refine below_set ?_ d3.out)|exact HB.out)):p:=h
set_option maxHeartbeats 8000000 in
set_option maxRecDepth 100000 in
theorem spec_LogicOk.calls (k:Nat) (A0_0:Option Addr) (c0_0:Nat) (l0_0:List (List Int)) (A0_1:Option Addr) (c0_1:Nat) (l0_1:List Int) (r:Bool) (w:World) (hr0_0:Kd.C (Kd.slice 3 (Kd.int .i64)) w A0_0 l0_0.length l0_0) (hc0_0:l0_0.length≤c0_0) (hr0_1:Kd.C (Kd.int .i64) w A0_1 l0_1.length l0_1) (hc0_1:l0_1.length≤c0_1) (h:spec_LogicOk.f k l0_0 l0_1=some r) :
 Calls Try.prog 30 #[.agg #[.slice A0_0 l0_0.length c0_0,.slice A0_1 l0_1.length c0_1]] w fun e w'=>e = .returned (.bool r)∧Below w.heap.size w w':=by
 have hu27:=Try.underlying27
 have HR0_0:=ak hr0_0
 have a8:=ak hc0_0
 clear hr0_0 hc0_0
 have HR0_1:=ak hr0_1
 have g2:=ak hc0_1
 clear hr0_1 hc0_1
 have HB:=ak (Below.refl w.heap.size w)
 have H:((spec_LatticeOk.f k l0_0).bind fun f0=>(if f0=true then (spec_LogicOk.j0 k (l0_0.length:Int) ((l0_1.length:Int) != (l0_0.length:Int)) l0_0 l0_1) else (spec_LogicOk.j0 k (l0_0.length:Int) true l0_0 l0_1)))=some r:=h
 clear h
 have f9:=ak H
 clear H
 go_enter Try.func30,Try.ntmps30
 go_upto_region 2 with (first|((with_reducible refine gate_dst (N:=1) rfl ?_);(try (refine gate_guard (by rfl) ?_;dsimp only));refine box_event ?hg (N:=1) ?hd (cs:=#[.slice A0_0 l0_0.length c0_0,.slice A0_1 l0_1.length c0_1]) (t:=27) ?hr ?_;(case hd=>rfl);(case hg=>rfl);(case hr=>first|(go_simp;done)|(go_simp;rfl));intro a7 hg w3 hbox hb;have a0:=ak (hbox);have e2:=ak ((by rw [hg];exact (below_size z1m_1):w.heap.size≤a7));have d3:=ak ((by rw [hg];exact (below_size z1m_1):w.heap.size≤a7));replace HB:=ak (below_step z1m_1 hb);clear hb hbox hg;have a3:=cz20 a0.out;have a4:=cz21 a0.out;have a5:=blk_frozen a0.out 0;have a6:=blk_frozen a0.out 1))
 repeat (go_quiet (first|((with_reducible refine gate_dst (N:=1) rfl ?_);(try (refine gate_guard (by rfl) ?_;dsimp only));refine box_event ?hg (N:=1) ?hd (cs:=#[.slice A0_0 l0_0.length c0_0,.slice A0_1 l0_1.length c0_1]) (t:=27) ?hr ?_;(case hd=>rfl);(case hg=>rfl);(case hr=>first|(go_simp;done)|(go_simp;rfl));intro a7 hg w3 hbox hb;have a0:=ak (hbox);have e2:=ak ((by rw [hg];exact (below_size z1m_1):w.heap.size≤a7));have d3:=ak ((by rw [hg];exact (below_size z1m_1):w.heap.size≤a7));replace HB:=ak (below_step z1m_1 hb);clear hb hbox hg;have a3:=cz20 a0.out;have a4:=cz21 a0.out;have a5:=blk_frozen a0.out 0;have a6:=blk_frozen a0.out 1));go_upto_region 2 with (first|((with_reducible refine gate_dst (N:=1) rfl ?_);(try (refine gate_guard (by rfl) ?_;dsimp only));refine box_event ?hg (N:=1) ?hd (cs:=#[.slice A0_0 l0_0.length c0_0,.slice A0_1 l0_1.length c0_1]) (t:=27) ?hr ?_;(case hd=>rfl);(case hg=>rfl);(case hr=>first|(go_simp;done)|(go_simp;rfl));intro a7 hg w3 hbox hb;have a0:=ak (hbox);have e2:=ak ((by rw [hg];exact (below_size z1m_1):w.heap.size≤a7));have d3:=ak ((by rw [hg];exact (below_size z1m_1):w.heap.size≤a7));replace HB:=ak (below_step z1m_1 hb);clear hb hbox hg;have a3:=cz20 a0.out;have a4:=cz21 a0.out;have a5:=blk_frozen a0.out 0;have a6:=blk_frozen a0.out 1)))
 (try simp only [Act.put,List.setIfInBounds_toArray,List.set_cons_zero,List.set_cons_succ])
 go_cut [22] (fun i0 wc=>∃ (kq:Nat) (d4:Bool),i0 = .bool d4∧Aside0 (spec_LogicOk.j0 kq (l0_0.length:Int) d4 l0_0 l0_1=some r)∧Aside0 (kq≤k)∧Aside0 (wc.heap[a7]?=some (.cells #[(.slice A0_0 l0_0.length c0_0),(.slice A0_1 l0_1.length c0_1)] 27 (0,0)))∧Aside0 (Below w.heap.size w wc))
 case first =>
  have H:=f9.out
  clear f9
  obtain ⟨f0,A5,H⟩:=bd_ H
  try dsimp only at H
  replace H:=ox_ H
  rcases H with ⟨rfl,H⟩|⟨rfl,H⟩
  ·
   have H':=ak H
   clear H
   have a3:=cz20 a0.out
   have a4:=cz21 a0.out
   have a5:=blk_frozen a0.out 0
   have a6:=blk_frozen a0.out 1
   go_wp2_with (first|(go_at_call 80;(with_reducible refine (spec_LatticeOk.calls k _ _ l0_0 true _ (y3 HR0_0.out HB.out) a8.out A5.out).mono ?_);rintro e w' ⟨rfl,⟨nd,rfl⟩⟩;(try first|exact ⟨rfl,_,World.drewN_drewN _ _ _⟩|exact ⟨rfl,_,Eq.trans (World.drewN_drewN _ _ _) (congrArg (World.drewN _) (Nat.add_assoc _ _ _))⟩)))
   repeat (go_quiet (first|(go_at_call 80;(with_reducible refine (spec_LatticeOk.calls k _ _ l0_0 true _ (y3 HR0_0.out HB.out) a8.out A5.out).mono ?_);rintro e w' ⟨rfl,⟨nd,rfl⟩⟩;(try first|exact ⟨rfl,_,World.drewN_drewN _ _ _⟩|exact ⟨rfl,_,Eq.trans (World.drewN_drewN _ _ _) (congrArg (World.drewN _) (Nat.add_assoc _ _ _))⟩)));try go_wp2_with (first|(go_at_call 80;(with_reducible refine (spec_LatticeOk.calls k _ _ l0_0 true _ (y3 HR0_0.out HB.out) a8.out A5.out).mono ?_);rintro e w' ⟨rfl,⟨nd,rfl⟩⟩;(try first|exact ⟨rfl,_,World.drewN_drewN _ _ _⟩|exact ⟨rfl,_,Eq.trans (World.drewN_drewN _ _ _) (congrArg (World.drewN _) (Nat.add_assoc _ _ _))⟩))))
   go_meet
   case rel=>exact ⟨_,(((l0_1.length:Int) != (l0_0.length:Int))),z1m_2,H',⟨(by first|omega|exact Nat.le_refl _)⟩,⟨(xb a0.out)⟩,⟨z1m_0⟩⟩
  have H':=ak H
  clear H
  have a3:=cz20 a0.out
  have a4:=cz21 a0.out
  have a5:=blk_frozen a0.out 0
  have a6:=blk_frozen a0.out 1
  go_wp2_with (first|(go_at_call 80;(with_reducible refine (spec_LatticeOk.calls k _ _ l0_0 false _ (y3 HR0_0.out HB.out) a8.out A5.out).mono ?_);rintro e w' ⟨rfl,⟨nd,rfl⟩⟩;(try first|exact ⟨rfl,_,World.drewN_drewN _ _ _⟩|exact ⟨rfl,_,Eq.trans (World.drewN_drewN _ _ _) (congrArg (World.drewN _) (Nat.add_assoc _ _ _))⟩)))
  repeat (go_quiet (first|(go_at_call 80;(with_reducible refine (spec_LatticeOk.calls k _ _ l0_0 false _ (y3 HR0_0.out HB.out) a8.out A5.out).mono ?_);rintro e w' ⟨rfl,⟨nd,rfl⟩⟩;(try first|exact ⟨rfl,_,World.drewN_drewN _ _ _⟩|exact ⟨rfl,_,Eq.trans (World.drewN_drewN _ _ _) (congrArg (World.drewN _) (Nat.add_assoc _ _ _))⟩)));try go_wp2_with (first|(go_at_call 80;(with_reducible refine (spec_LatticeOk.calls k _ _ l0_0 false _ (y3 HR0_0.out HB.out) a8.out A5.out).mono ?_);rintro e w' ⟨rfl,⟨nd,rfl⟩⟩;(try first|exact ⟨rfl,_,World.drewN_drewN _ _ _⟩|exact ⟨rfl,_,Eq.trans (World.drewN_drewN _ _ _) (congrArg (World.drewN _) (Nat.add_assoc _ _ _))⟩))))
  go_meet
  case rel=>exact ⟨_,(true),z1m_2,H',⟨(by first|omega|exact Nat.le_refl _)⟩,⟨(xb a0.out)⟩,⟨z1m_0⟩⟩
 case rest =>
  clear f9
  try clear a3
  try clear a4
  try clear a5
  try clear a6
  obtain ⟨kq,d4,rfl,HA,e1,a0,HB⟩:=hcut
  cases kq with
  | zero=>exact absurd HA.out (by simp [spec_LogicOk.j0])
  | succ g3 =>
   have H:=HA.out
   clear HA
   simp only [spec_LogicOk.j0] at H
   replace H:=ox_ H
   rcases H with ⟨rfl,H⟩|⟨rfl,H⟩
   ·
    obtain rfl:=Option.some.inj H
    go_wp2
    repeat (go_quiet (fail);try go_wp2)
    go_ret
    exact ⟨z1m_3,z1m_0⟩
   have H':=ak H
   clear H
   go_wp2
   repeat (go_quiet (fail);try go_wp2)
   go_loopg [4] g3 (fun kq v4 w'=>∃ (a9:Int),v4 = .int .i64 a9∧Aside0 (spec_LogicOk.l0 kq (l0_0.length:Int) a9 l0_0 l0_1=some r)∧Aside0 (kq≤g3)∧Aside0 (w'.heap[a7]?=some (.cells #[(.slice A0_0 l0_0.length c0_0),(.slice A0_1 l0_1.length c0_1)] 27 (0,0)))∧Aside0 (Below w.heap.size w w'))
   case atStart=>exact ⟨(0),z1m_2,H',⟨Nat.le_refl _⟩,⟨(xb a0.out)⟩,⟨z1m_0⟩⟩
   case round =>
    clear H'
    try clear c9
    try clear a3
    try clear a4
    try clear a5
    try clear a6
    obtain ⟨a9,rfl,HA,HK2,a0,HB⟩:=hrel
    cases gk with
    | zero=>exact absurd HA.out (by simp [spec_LogicOk.l0])
    | succ k2 =>
     have H:=HA.out
     clear HA
     simp only [spec_LogicOk.l0] at H
     replace H:=os_ H
     rcases H with ⟨d1,H⟩|⟨d1,H⟩
     ·
      replace H:=od2 H
      obtain ⟨g4,g5,H⟩:=H
      obtain ⟨i1,e9,H⟩:=bd_ H
      try dsimp only at H
      replace H:=ox_ H
      rcases H with ⟨rfl,H⟩|⟨rfl,H⟩
      ·
       have H':=ak H
       clear H
       have a3:=cz20 a0.out
       have a4:=cz21 a0.out
       have a5:=blk_frozen a0.out 0
       have a6:=blk_frozen a0.out 1
       have b2:0≤(a9:Int):=oa_
       have q629:a9<(l0_1.length:Int):=oa_
       obtain ⟨ad629,e629,hx629_0⟩:=Kd.at_int HR0_1.out a9 b2 q629
       cases e629
       replace hx629_0:=(HB.out.cell (World.block_lt_of_cell? w _ hx629_0)).trans hx629_0
       replace b2:=eq_true b2
       replace q629:=eq_true q629
       go_wp2_with (first|(go_at_call 72;(with_reducible refine (spec_l1In.calls (rd l0_1 a9) 0 (wrap64 ((l0_0.length:Int)-1)) true _ e9.out).mono ?_);rintro e w' ⟨rfl,⟨nd,rfl⟩⟩;(try first|exact ⟨rfl,_,World.drewN_drewN _ _ _⟩|exact ⟨rfl,_,Eq.trans (World.drewN_drewN _ _ _) (congrArg (World.drewN _) (Nat.add_assoc _ _ _))⟩)))
       repeat (go_quiet (first|(go_at_call 72;(with_reducible refine (spec_l1In.calls (rd l0_1 a9) 0 (wrap64 ((l0_0.length:Int)-1)) true _ e9.out).mono ?_);rintro e w' ⟨rfl,⟨nd,rfl⟩⟩;(try first|exact ⟨rfl,_,World.drewN_drewN _ _ _⟩|exact ⟨rfl,_,Eq.trans (World.drewN_drewN _ _ _) (congrArg (World.drewN _) (Nat.add_assoc _ _ _))⟩)));try go_wp2_with (first|(go_at_call 72;(with_reducible refine (spec_l1In.calls (rd l0_1 a9) 0 (wrap64 ((l0_0.length:Int)-1)) true _ e9.out).mono ?_);rintro e w' ⟨rfl,⟨nd,rfl⟩⟩;(try first|exact ⟨rfl,_,World.drewN_drewN _ _ _⟩|exact ⟨rfl,_,Eq.trans (World.drewN_drewN _ _ _) (congrArg (World.drewN _) (Nat.add_assoc _ _ _))⟩))))
       go_roundg k2
       case measure=>have:=e1.out;have:=HK2.out;omega
       case rel=>exact ⟨(wrap64 (a9+1)),z1m_2,H',⟨(by have:=e1.out;have:=HK2.out;omega)⟩,⟨(xb a0.out)⟩,⟨z1m_0⟩⟩
      obtain rfl:=Option.some.inj H
      have a3:=cz20 a0.out
      have a4:=cz21 a0.out
      have a5:=blk_frozen a0.out 0
      have a6:=blk_frozen a0.out 1
      have b2:0≤(a9:Int):=oa_
      have q629:a9<(l0_1.length:Int):=oa_
      obtain ⟨ad629,e629,hx629_0⟩:=Kd.at_int HR0_1.out a9 b2 q629
      cases e629
      replace hx629_0:=(HB.out.cell (World.block_lt_of_cell? w _ hx629_0)).trans hx629_0
      replace b2:=eq_true b2
      replace q629:=eq_true q629
      go_wp2_with (first|(go_at_call 72;(with_reducible refine (spec_l1In.calls (rd l0_1 a9) 0 (wrap64 ((l0_0.length:Int)-1)) false _ e9.out).mono ?_);rintro e w' ⟨rfl,⟨nd,rfl⟩⟩;(try first|exact ⟨rfl,_,World.drewN_drewN _ _ _⟩|exact ⟨rfl,_,Eq.trans (World.drewN_drewN _ _ _) (congrArg (World.drewN _) (Nat.add_assoc _ _ _))⟩)))
      repeat (go_quiet (first|(go_at_call 72;(with_reducible refine (spec_l1In.calls (rd l0_1 a9) 0 (wrap64 ((l0_0.length:Int)-1)) false _ e9.out).mono ?_);rintro e w' ⟨rfl,⟨nd,rfl⟩⟩;(try first|exact ⟨rfl,_,World.drewN_drewN _ _ _⟩|exact ⟨rfl,_,Eq.trans (World.drewN_drewN _ _ _) (congrArg (World.drewN _) (Nat.add_assoc _ _ _))⟩)));try go_wp2_with (first|(go_at_call 72;(with_reducible refine (spec_l1In.calls (rd l0_1 a9) 0 (wrap64 ((l0_0.length:Int)-1)) false _ e9.out).mono ?_);rintro e w' ⟨rfl,⟨nd,rfl⟩⟩;(try first|exact ⟨rfl,_,World.drewN_drewN _ _ _⟩|exact ⟨rfl,_,Eq.trans (World.drewN_drewN _ _ _) (congrArg (World.drewN _) (Nat.add_assoc _ _ _))⟩))))
      go_ret
      exact ⟨z1m_3,z1m_0⟩
     obtain ⟨⟨b3,e4⟩,g0,H⟩:=bd_ H
     try dsimp only at H
     have H':=ak H
     clear H
     have a3:=cz20 a0.out
     have a4:=cz21 a0.out
     have a5:=blk_frozen a0.out 0
     have a6:=blk_frozen a0.out 1
     go_wp2_with (first|(go_at_call 81;(with_reducible refine (spec_LeastOf.calls k2 _ _ l0_0 b3 e4 _ (y3 HR0_0.out HB.out) a8.out g0.out).mono ?_);rintro e w' ⟨rfl,⟨nd,rfl⟩⟩;(try first|exact ⟨rfl,_,World.drewN_drewN _ _ _⟩|exact ⟨rfl,_,Eq.trans (World.drewN_drewN _ _ _) (congrArg (World.drewN _) (Nat.add_assoc _ _ _))⟩)))
     repeat (go_quiet (first|(go_at_call 81;(with_reducible refine (spec_LeastOf.calls k2 _ _ l0_0 b3 e4 _ (y3 HR0_0.out HB.out) a8.out g0.out).mono ?_);rintro e w' ⟨rfl,⟨nd,rfl⟩⟩;(try first|exact ⟨rfl,_,World.drewN_drewN _ _ _⟩|exact ⟨rfl,_,Eq.trans (World.drewN_drewN _ _ _) (congrArg (World.drewN _) (Nat.add_assoc _ _ _))⟩)));try go_wp2_with (first|(go_at_call 81;(with_reducible refine (spec_LeastOf.calls k2 _ _ l0_0 b3 e4 _ (y3 HR0_0.out HB.out) a8.out g0.out).mono ?_);rintro e w' ⟨rfl,⟨nd,rfl⟩⟩;(try first|exact ⟨rfl,_,World.drewN_drewN _ _ _⟩|exact ⟨rfl,_,Eq.trans (World.drewN_drewN _ _ _) (congrArg (World.drewN _) (Nat.add_assoc _ _ _))⟩))))
     go_loopg [7] k2 (fun kq v7 w'=>∃ (a1:Int),v7 = .int .i64 a1∧Aside0 (spec_LogicOk.l1 kq (l0_0.length:Int) b3 a1 l0_0 l0_1=some r)∧Aside0 (kq≤k2)∧Aside0 (w'.heap[a7]?=some (.cells #[(.slice A0_0 l0_0.length c0_0),(.slice A0_1 l0_1.length c0_1)] 27 (0,0)))∧Aside0 (Below w.heap.size w w'))
     case atStart=>exact ⟨(0),z1m_2,H',⟨Nat.le_refl _⟩,⟨(xb a0.out)⟩,⟨z1m_0⟩⟩
     case round =>
      clear H'
      try clear c9
      try clear g6
      try clear d1
      try clear a3
      try clear a4
      try clear a5
      try clear a6
      obtain ⟨a1,rfl,HA,HK3,a0,HB⟩:=hrel
      cases gk with
      | zero=>exact absurd HA.out (by simp [spec_LogicOk.l1])
      | succ k3 =>
       have H:=HA.out
       clear HA
       simp only [spec_LogicOk.l1] at H
       replace H:=os_ H
       rcases H with ⟨d5,H⟩|⟨d5,H⟩
       ·
        have e5:=ak H
        clear H
        go_upto_region 13 with (fail)
        repeat (go_quiet (fail);go_upto_region 13 with (fail))
        go_cut [71] (fun i2 wc=>∃ (kq:Nat) (b4:Bool),i2 = .bool b4∧Aside0 (spec_LogicOk.j3 kq (l0_0.length:Int) b3 a1 b4 l0_0 l0_1=some r)∧Aside0 (kq≤k3)∧Aside0 (wc.heap[a7]?=some (.cells #[(.slice A0_0 l0_0.length c0_0),(.slice A0_1 l0_1.length c0_1)] 27 (0,0)))∧Aside0 (Below w.heap.size w wc))
        case first =>
         have H:=e5.out
         clear e5
         replace H:=od_ H
         obtain ⟨e3,H⟩:=H
         (first|rw [e3]|(simp only [i64_w,i32_w];rw [e3])|skip)
         replace H:=od3 H
         obtain ⟨g7,g8,g9,H⟩:=H
         replace H:=oe2 H
         rcases H with ⟨⟨-,f1,f2⟩,H⟩|⟨⟨i4,f1,f2⟩,H⟩
         ·
          obtain ⟨d9,g1,H⟩:=bd_ H
          try dsimp only at H
          have H':=ak H
          clear H
          have a3:=cz20 a0.out
          have a4:=cz21 a0.out
          have a5:=blk_frozen a0.out 0
          have a6:=blk_frozen a0.out 1
          have b5:0≤(a1:Int):=oa_
          have q633:a1<(l0_1.length:Int):=oa_
          obtain ⟨ad633,e633,hx633_0⟩:=Kd.at_int HR0_1.out a1 b5 q633
          cases e633
          replace hx633_0:=(HB.out.cell (World.block_lt_of_cell? w _ hx633_0)).trans hx633_0
          replace b5:=eq_true b5
          replace q633:=eq_true q633
          have b6:0≤((rd l0_1 a1):Int):=oa_
          have q634:(rd l0_1 a1)<(l0_1.length:Int):=oa_
          obtain ⟨ad634,e634,hx634_0⟩:=Kd.at_int HR0_1.out (rd l0_1 a1) b6 q634
          obtain rfl:=ij_ e634
          replace hx634_0:=(HB.out.cell (World.block_lt_of_cell? w _ hx634_0)).trans hx634_0
          replace b6:=eq_true b6
          replace q634:=eq_true q634
          have e6:0≤(a1:Int):=oa_
          have q635:a1<(l0_1.length:Int):=oa_
          obtain ⟨ad635,e635,hx635_0⟩:=Kd.at_int HR0_1.out a1 e6 q635
          obtain rfl:=ij_ e635
          replace hx635_0:=(HB.out.cell (World.block_lt_of_cell? w _ hx635_0)).trans hx635_0
          replace e6:=eq_true e6
          replace q635:=eq_true q635
          go_wp2_with (first|(go_at_call 77;(with_reducible refine (spec_l1Meet.calls k3 _ _ l0_0 a1 (rd l0_1 a1) d9 _ (y3 HR0_0.out HB.out) a8.out g1.out).mono ?_);rintro e w' ⟨rfl,⟨nd,rfl⟩⟩;(try first|exact ⟨rfl,_,World.drewN_drewN _ _ _⟩|exact ⟨rfl,_,Eq.trans (World.drewN_drewN _ _ _) (congrArg (World.drewN _) (Nat.add_assoc _ _ _))⟩)))
          repeat (go_quiet (first|(go_at_call 77;(with_reducible refine (spec_l1Meet.calls k3 _ _ l0_0 a1 (rd l0_1 a1) d9 _ (y3 HR0_0.out HB.out) a8.out g1.out).mono ?_);rintro e w' ⟨rfl,⟨nd,rfl⟩⟩;(try first|exact ⟨rfl,_,World.drewN_drewN _ _ _⟩|exact ⟨rfl,_,Eq.trans (World.drewN_drewN _ _ _) (congrArg (World.drewN _) (Nat.add_assoc _ _ _))⟩)));try go_wp2_with (first|(go_at_call 77;(with_reducible refine (spec_l1Meet.calls k3 _ _ l0_0 a1 (rd l0_1 a1) d9 _ (y3 HR0_0.out HB.out) a8.out g1.out).mono ?_);rintro e w' ⟨rfl,⟨nd,rfl⟩⟩;(try first|exact ⟨rfl,_,World.drewN_drewN _ _ _⟩|exact ⟨rfl,_,Eq.trans (World.drewN_drewN _ _ _) (congrArg (World.drewN _) (Nat.add_assoc _ _ _))⟩))))
          go_meet
          case rel=>exact ⟨_,((d9 != b3)),z1m_2,H',⟨(by have:=e1.out;have:=HK2.out;have:=HK3.out;first|omega|exact Nat.le_refl _)⟩,⟨(xb a0.out)⟩,⟨z1m_0⟩⟩
         have H':=ak H
         clear H
         have a3:=cz20 a0.out
         have a4:=cz21 a0.out
         have a5:=blk_frozen a0.out 0
         have a6:=blk_frozen a0.out 1
         have b5:0≤(a1:Int):=oa_
         have q633:a1<(l0_1.length:Int):=oa_
         obtain ⟨ad633,e633,hx633_0⟩:=Kd.at_int HR0_1.out a1 b5 q633
         cases e633
         replace hx633_0:=(HB.out.cell (World.block_lt_of_cell? w _ hx633_0)).trans hx633_0
         replace b5:=eq_true b5
         replace q633:=eq_true q633
         have b6:0≤((rd l0_1 a1):Int):=oa_
         have q634:(rd l0_1 a1)<(l0_1.length:Int):=oa_
         obtain ⟨ad634,e634,hx634_0⟩:=Kd.at_int HR0_1.out (rd l0_1 a1) b6 q634
         obtain rfl:=ij_ e634
         replace hx634_0:=(HB.out.cell (World.block_lt_of_cell? w _ hx634_0)).trans hx634_0
         replace b6:=eq_true b6
         replace q634:=eq_true q634
         go_wp2
         repeat (go_quiet (fail);try go_wp2)
         go_meet
         case rel=>exact ⟨_,(true),z1m_2,H',⟨(by have:=e1.out;have:=HK2.out;have:=HK3.out;first|omega|exact Nat.le_refl _)⟩,⟨(xb a0.out)⟩,⟨z1m_0⟩⟩
        case rest =>
         clear e5
         try clear c9
         try clear g6
         try clear d1
         try clear i3
         try clear d5
         try clear a3
         try clear a4
         try clear a5
         try clear a6
         obtain ⟨kq,b4,rfl,HA,d8,a0,HB⟩:=hcut
         cases kq with
         | zero=>exact absurd HA.out (by simp [spec_LogicOk.j3])
         | succ f3 =>
          have H:=HA.out
          clear HA
          simp only [spec_LogicOk.j3] at H
          replace H:=ox_ H
          rcases H with ⟨rfl,H⟩|⟨rfl,H⟩
          ·
           obtain rfl:=Option.some.inj H
           go_wp2
           repeat (go_quiet (fail);try go_wp2)
           go_ret
           exact ⟨z1m_3,z1m_0⟩
          have H':=ak H
          clear H
          go_wp2
          repeat (go_quiet (fail);try go_wp2)
          go_loopg [8] f3 (fun kq v8 w'=>∃ (a2:Int),v8 = .int .i64 a2∧Aside0 (spec_LogicOk.l2 kq (l0_0.length:Int) b3 a1 a2 l0_0 l0_1=some r)∧Aside0 (kq≤f3)∧Aside0 (w'.heap[a7]?=some (.cells #[(.slice A0_0 l0_0.length c0_0),(.slice A0_1 l0_1.length c0_1)] 27 (0,0)))∧Aside0 (Below w.heap.size w w'))
          case atStart=>exact ⟨(0),z1m_2,H',⟨Nat.le_refl _⟩,⟨(xb a0.out)⟩,⟨z1m_0⟩⟩
          case round =>
           clear H'
           try clear c9
           try clear g6
           try clear d1
           try clear i3
           try clear d5
           try clear i5
           try clear a3
           try clear a4
           try clear a5
           try clear a6
           obtain ⟨a2,rfl,HA,HK5,a0,HB⟩:=hrel
           cases gk with
           | zero=>exact absurd HA.out (by simp [spec_LogicOk.l2])
           | succ k5 =>
            have H:=HA.out
            clear HA
            simp only [spec_LogicOk.l2] at H
            replace H:=os_ H
            rcases H with ⟨f4,H⟩|⟨f4,H⟩
            ·
             replace H:=od4 H
             obtain ⟨h0,h1,h2,h3,H⟩:=H
             replace H:=oe2 H
             rcases H with ⟨⟨-,f5,f6⟩,H⟩|⟨⟨i6,f5,f6⟩,H⟩
             ·
              replace H:=od6 H
              obtain ⟨h4,h5,h6,h7,h8,h9,H⟩:=H
              replace H:=oe2 H
              rcases H with ⟨⟨-,f7,f8⟩,H⟩|⟨⟨i7,f7,f8⟩,H⟩
              ·
               obtain rfl:=Option.some.inj H
               have a3:=cz20 a0.out
               have a4:=cz21 a0.out
               have a5:=blk_frozen a0.out 0
               have a6:=blk_frozen a0.out 1
               have b0:0≤(a1:Int):=oa_
               have q637:a1<(l0_0.length:Int):=oa_
               obtain ⟨ad637,d6,d7,e637,hx637_0,hl637_0,hi637_0⟩:=at_L1 HR0_0.out a1 b0 q637
               cases e637
               replace hx637_0:=(HB.out.cell (World.block_lt_of_cell? w _ hx637_0)).trans hx637_0
               have HR637_0:=ak hi637_0
               have d2:=ak hl637_0
               clear hi637_0 hl637_0
               replace b0:=eq_true b0
               replace q637:=eq_true q637
               have b1:0≤(a2:Int):=oa_
               have q638:a2<((rd_L1 l0_0 a1).length:Int):=oa_
               obtain ⟨ad638,e638,hx638_0⟩:=Kd.at_int HR637_0.out a2 b1 q638
               cases e638
               replace hx638_0:=(HB.out.cell (World.block_lt_of_cell? w _ hx638_0)).trans hx638_0
               replace b1:=eq_true b1
               replace q638:=eq_true q638
               have b7:0≤(a2:Int):=oa_
               have q639:a2<(l0_1.length:Int):=oa_
               obtain ⟨ad639,e639,hx639_0⟩:=Kd.at_int HR0_1.out a2 b7 q639
               cases e639
               replace hx639_0:=(HB.out.cell (World.block_lt_of_cell? w _ hx639_0)).trans hx639_0
               replace b7:=eq_true b7
               replace q639:=eq_true q639
               have b8:0≤((rd l0_1 a2):Int):=oa_
               have q640:(rd l0_1 a2)<(l0_0.length:Int):=oa_
               obtain ⟨ad640,e7,e8,e640,hx640_0,hl640_0,hi640_0⟩:=at_L1 HR0_0.out (rd l0_1 a2) b8 q640
               obtain rfl:=ij_ e640
               replace hx640_0:=(HB.out.cell (World.block_lt_of_cell? w _ hx640_0)).trans hx640_0
               have HR640_0:=ak hi640_0
               have e0:=ak hl640_0
               clear hi640_0 hl640_0
               replace b8:=eq_true b8
               replace q640:=eq_true q640
               have b9:0≤(a1:Int):=oa_
               have q641:a1<(l0_1.length:Int):=oa_
               obtain ⟨ad641,e641,hx641_0⟩:=Kd.at_int HR0_1.out a1 b9 q641
               obtain rfl:=ij_ e641
               replace hx641_0:=(HB.out.cell (World.block_lt_of_cell? w _ hx641_0)).trans hx641_0
               replace b9:=eq_true b9
               replace q641:=eq_true q641
               have d0:0≤((rd l0_1 a1):Int):=oa_
               have q642:(rd l0_1 a1)<((rd_L1 l0_0 (rd l0_1 a2)).length:Int):=oa_
               obtain ⟨ad642,e642,hx642_0⟩:=Kd.at_int HR640_0.out (rd l0_1 a1) d0 q642
               cases e642
               replace hx642_0:=(HB.out.cell (World.block_lt_of_cell? w _ hx642_0)).trans hx642_0
               replace d0:=eq_true d0
               replace q642:=eq_true q642
               go_wp2
               repeat (go_quiet (fail);try go_wp2)
               go_ret
               exact ⟨z1m_3,z1m_0⟩
              have H':=ak H
              clear H
              have a3:=cz20 a0.out
              have a4:=cz21 a0.out
              have a5:=blk_frozen a0.out 0
              have a6:=blk_frozen a0.out 1
              have b0:0≤(a1:Int):=oa_
              have q637:a1<(l0_0.length:Int):=oa_
              obtain ⟨ad637,d6,d7,e637,hx637_0,hl637_0,hi637_0⟩:=at_L1 HR0_0.out a1 b0 q637
              cases e637
              replace hx637_0:=(HB.out.cell (World.block_lt_of_cell? w _ hx637_0)).trans hx637_0
              have HR637_0:=ak hi637_0
              have d2:=ak hl637_0
              clear hi637_0 hl637_0
              replace b0:=eq_true b0
              replace q637:=eq_true q637
              have b1:0≤(a2:Int):=oa_
              have q638:a2<((rd_L1 l0_0 a1).length:Int):=oa_
              obtain ⟨ad638,e638,hx638_0⟩:=Kd.at_int HR637_0.out a2 b1 q638
              cases e638
              replace hx638_0:=(HB.out.cell (World.block_lt_of_cell? w _ hx638_0)).trans hx638_0
              replace b1:=eq_true b1
              replace q638:=eq_true q638
              have b7:0≤(a2:Int):=oa_
              have q639:a2<(l0_1.length:Int):=oa_
              obtain ⟨ad639,e639,hx639_0⟩:=Kd.at_int HR0_1.out a2 b7 q639
              cases e639
              replace hx639_0:=(HB.out.cell (World.block_lt_of_cell? w _ hx639_0)).trans hx639_0
              replace b7:=eq_true b7
              replace q639:=eq_true q639
              have b8:0≤((rd l0_1 a2):Int):=oa_
              have q640:(rd l0_1 a2)<(l0_0.length:Int):=oa_
              obtain ⟨ad640,e7,e8,e640,hx640_0,hl640_0,hi640_0⟩:=at_L1 HR0_0.out (rd l0_1 a2) b8 q640
              obtain rfl:=ij_ e640
              replace hx640_0:=(HB.out.cell (World.block_lt_of_cell? w _ hx640_0)).trans hx640_0
              have HR640_0:=ak hi640_0
              have e0:=ak hl640_0
              clear hi640_0 hl640_0
              replace b8:=eq_true b8
              replace q640:=eq_true q640
              have b9:0≤(a1:Int):=oa_
              have q641:a1<(l0_1.length:Int):=oa_
              obtain ⟨ad641,e641,hx641_0⟩:=Kd.at_int HR0_1.out a1 b9 q641
              obtain rfl:=ij_ e641
              replace hx641_0:=(HB.out.cell (World.block_lt_of_cell? w _ hx641_0)).trans hx641_0
              replace b9:=eq_true b9
              replace q641:=eq_true q641
              have d0:0≤((rd l0_1 a1):Int):=oa_
              have q642:(rd l0_1 a1)<((rd_L1 l0_0 (rd l0_1 a2)).length:Int):=oa_
              obtain ⟨ad642,e642,hx642_0⟩:=Kd.at_int HR640_0.out (rd l0_1 a1) d0 q642
              cases e642
              replace hx642_0:=(HB.out.cell (World.block_lt_of_cell? w _ hx642_0)).trans hx642_0
              replace d0:=eq_true d0
              replace q642:=eq_true q642
              go_wp2
              repeat (go_quiet (fail);try go_wp2)
              go_roundg k5
              case measure=>have:=e1.out;have:=HK2.out;have:=HK3.out;have:=d8.out;have:=HK5.out;omega
              case rel=>exact ⟨(wrap64 (a2+1)),z1m_2,H',⟨z1m_4⟩,⟨(xb a0.out)⟩,⟨z1m_0⟩⟩
             have H':=ak H
             clear H
             have a3:=cz20 a0.out
             have a4:=cz21 a0.out
             have a5:=blk_frozen a0.out 0
             have a6:=blk_frozen a0.out 1
             have b0:0≤(a1:Int):=oa_
             have q637:a1<(l0_0.length:Int):=oa_
             obtain ⟨ad637,d6,d7,e637,hx637_0,hl637_0,hi637_0⟩:=at_L1 HR0_0.out a1 b0 q637
             cases e637
             replace hx637_0:=(HB.out.cell (World.block_lt_of_cell? w _ hx637_0)).trans hx637_0
             have HR637_0:=ak hi637_0
             have d2:=ak hl637_0
             clear hi637_0 hl637_0
             replace b0:=eq_true b0
             replace q637:=eq_true q637
             have b1:0≤(a2:Int):=oa_
             have q638:a2<((rd_L1 l0_0 a1).length:Int):=oa_
             obtain ⟨ad638,e638,hx638_0⟩:=Kd.at_int HR637_0.out a2 b1 q638
             cases e638
             replace hx638_0:=(HB.out.cell (World.block_lt_of_cell? w _ hx638_0)).trans hx638_0
             replace b1:=eq_true b1
             replace q638:=eq_true q638
             go_wp2
             repeat (go_quiet (fail);try go_wp2)
             go_roundg k5
             case measure=>have:=e1.out;have:=HK2.out;have:=HK3.out;have:=d8.out;have:=HK5.out;omega
             case rel=>exact ⟨(wrap64 (a2+1)),z1m_2,H',⟨z1m_4⟩,⟨(xb a0.out)⟩,⟨z1m_0⟩⟩
            have H':=ak H
            clear H
            go_wp2
            repeat (go_quiet (fail);try go_wp2)
            go_roundg k5
            case measure=>have:=e1.out;have:=HK2.out;have:=HK3.out;have:=d8.out;have:=HK5.out;omega
            case rel=>exact ⟨(wrap64 (a1+1)),z1m_2,H',⟨z1m_4⟩,⟨(xb a0.out)⟩,⟨z1m_0⟩⟩
       obtain rfl:=Option.some.inj H
       go_wp2
       repeat (go_quiet (fail);try go_wp2)
       go_ret
       exact ⟨z1m_3,z1m_0⟩

end Go.Proofs.Ytacifhahfamipaa.P

namespace Go.Proofs.Ytacifhahfamipaa.P
open Go.RowKit Go.Proofs.YtacifhahfamipaaW.PrintWords Go.Proofs.YtacifhahfamipaaW.PrintLast Go.Proofs.YtacifhahfamipaaW.PrintMore
attribute [local go_sem] max2_int min2_int max_two min_two max_three min_three max_four min_four
set_option linter.unusedVariables false
set_option linter.unusedSimpArgs false
set_option maxHeartbeats 8000000 in
set_option maxRecDepth 100000 in
theorem impl_isAnswer.calls (A0:Option Addr) (c0:Nat) (l0:List (List Int)) (a1:Int) (r:Bool) (w:World) (hr0:Kd.C (Kd.slice 3 (Kd.int .i64)) w A0 l0.length l0) (hc0:l0.length≤c0) (h:impl_isAnswer.f l0 a1=some r) :
 Calls Try.prog 107 #[.slice A0 l0.length c0,.int .i64 a1] w fun e w'=>e = .returned (.bool r)∧Drawn0 w w':=by
 have HR0:=ak hr0
 have a2:=ak hc0
 clear hr0 hc0
 have H:(if a1≥0 then (some (decide (a1<(l0.length:Int)))) else (some false))=some r:=h
 clear h
 replace H:=op_ H
 rcases H with ⟨c3,H⟩|⟨c3,H⟩
 ·
  have a0:decide (0≤a1)=true:=dT_ c3
  clear c3
  obtain rfl:=Option.some.inj H
  go_enter Try.func107,Try.ntmps107
  go_wp2
  go_ret
  exact ⟨(by first|rfl|(simp;done)|(simp [*];done)),(by repeat (first|exact Drawn0.refl _|apply Drawn0.step))⟩
 have a0:decide (0≤a1)=false:=dF_ c3
 clear c3
 obtain rfl:=Option.some.inj H
 go_enter Try.func107,Try.ntmps107
 go_wp2
 go_ret
 exact ⟨(by first|rfl|(simp;done)|(simp [*];done)),(by repeat (first|exact Drawn0.refl _|apply Drawn0.step))⟩

end Go.Proofs.Ytacifhahfamipaa.P

namespace Go.Proofs.Ytacifhahfamipaa.P
open Go.RowKit Go.Proofs.YtacifhahfamipaaW.PrintWords Go.Proofs.YtacifhahfamipaaW.PrintLast Go.Proofs.YtacifhahfamipaaW.PrintMore
attribute [local go_sem] max2_int min2_int max_two min_two max_three min_three max_four min_four
set_option linter.unusedVariables false
set_option linter.unusedSimpArgs false
theorem z5_2 {p:Prop} (h:p:=by have:=HK1.out;have:=b0.out;have:=HK3.out;omega):p:=h
theorem z5_1 {p:Prop} (h:p:=by repeat (first|exact Drawn0.refl _|apply Drawn0.step)):p:=h
theorem z5_0 {p:Prop} (h:p:=by first|rfl|(simp;done)|(simp [*];done)):p:=h
set_option maxHeartbeats 8000000 in
set_option maxRecDepth 100000 in
theorem impl_meet.calls (k:Nat) (A0:Option Addr) (c0:Nat) (l0:List (List Int)) (a1:Int) (a2:Int) (r:Int) (w:World) (hr0:Kd.C (Kd.slice 3 (Kd.int .i64)) w A0 l0.length l0) (hc0:l0.length≤c0) (h:impl_meet.f k l0 a1 a2=some r) :
 Calls Try.prog 106 #[.slice A0 l0.length c0,.int .i64 a1,.int .i64 a2] w fun e w'=>e = .returned (.int .i64 r)∧Drawn0 w w':=by
 have HR0:=ak hr0
 have g9:=ak hc0
 clear hr0 hc0
 have H:(impl_meet.l0 k l0 a1 a2 (l0.length:Int) 0)=some r:=h
 clear h
 have H':=ak H
 clear H
 go_enter Try.func106,Try.ntmps106
 go_wp2
 go_loopg [12] k (fun kq f9 w'=>∃ (a0:Int),f9 = .int .i64 a0∧Aside0 (impl_meet.l0 kq l0 a1 a2 (l0.length:Int) a0=some r)∧Aside0 (kq≤k)∧Drawn0 w w')
 case atStart=>exact ⟨(0),z5_0,H',⟨Nat.le_refl _⟩,z5_1⟩
 case round =>
  clear H'
  obtain ⟨a0,rfl,HA,HK1,⟨m1,rfl⟩⟩:=hrel
  cases gk with
  | zero=>exact absurd HA.out (by simp [impl_meet.l0])
  | succ k1 =>
   have H:=HA.out
   clear HA
   simp only [impl_meet.l0] at H
   replace H:=os_ H
   rcases H with ⟨b1,H⟩|⟨b1,H⟩
   ·
    have d9:=ak H
    clear H
    go_upto_region 4 with (fail)
    go_cut [32] (fun g0 wc=>∃ (kq:Nat) (a5:Bool),g0 = .bool a5∧Aside0 (impl_meet.j1 kq l0 a1 a2 a0 (l0.length:Int) a0 a5=some r)∧Aside0 (kq≤k1)∧Drawn0 w wc)
    case first =>
     have H:=d9.out
     clear d9
     replace H:=od_ H
     obtain ⟨b7,H⟩:=H
     (first|rw [b7]|(simp only [i64_w,i32_w];rw [b7])|skip)
     replace H:=od3 H
     obtain ⟨g1,g2,g3,H⟩:=H
     replace H:=oe2 H
     rcases H with ⟨⟨-,b8,b9⟩,H⟩|⟨⟨h0,b8,b9⟩,H⟩
     ·
      have H':=ak H
      clear H
      obtain ⟨ad190,b2,b3,e190,hx190_0,a8,HR190_0,e0,q190⟩:=al_ HR0.out a0
      cases e190
      obtain ⟨ad191,e191,hx191_0,e1,q191⟩:=ai_ HR190_0.out a1
      cases e191
      go_wp2
      go_meet
      case rel=>exact ⟨_,(true),z5_0,H',⟨(by have:=HK1.out;first|omega|exact Nat.le_refl _)⟩,z5_1⟩
     replace H:=od2 H
     obtain ⟨e9,f0,H⟩:=H
     have H':=ak H
     clear H
     obtain ⟨ad190,b2,b3,e190,hx190_0,a8,HR190_0,e0,q190⟩:=al_ HR0.out a0
     cases e190
     obtain ⟨ad191,e191,hx191_0,e1,q191⟩:=ai_ HR190_0.out a1
     cases e191
     obtain ⟨ad192,e2,e3,e192,hx192_0,d7,HR192_0,g4,q192⟩:=al_ HR0.out a0
     obtain rfl:=ij_ e192
     obtain ⟨rfl,rfl⟩:=is_ hx190_0 hx192_0
     obtain ⟨ad193,e193,hx193_0,g5,q193⟩:=ai_ HR192_0.out a2
     cases e193
     go_wp2
     go_meet
     case rel=>exact ⟨_,(((rd (rd_L1 l0 a0) a2)==0)),z5_0,H',⟨(by have:=HK1.out;first|omega|exact Nat.le_refl _)⟩,z5_1⟩
    case rest =>
     clear d9
     try clear c4
     try clear b1
     obtain ⟨kq,a5,rfl,HA,b0,⟨mc4,rfl⟩⟩:=hcut
     cases kq with
     | zero=>exact absurd HA.out (by simp [impl_meet.j1])
     | succ e4 =>
      have H:=HA.out
      clear HA
      simp only [impl_meet.j1] at H
      replace H:=ox_ H
      rcases H with ⟨rfl,H⟩|⟨rfl,H⟩
      ·
       have H':=ak H
       clear H
       go_wp2
       go_roundg e4
       case measure=>have:=HK1.out;have:=b0.out;omega
       case rel=>exact ⟨(wrap64 (a0+1)),z5_0,H',⟨(by have:=HK1.out;have:=b0.out;omega)⟩,z5_1⟩
      have H':=ak H
      clear H
      go_wp2
      go_loopg [8,35] e4 (fun kq v8 g6 w'=>∃ (b4:Bool) (a3:Int),v8 = .bool b4∧g6 = .int .i64 a3∧Aside0 (impl_meet.l1 kq l0 a1 a2 a0 b4 (l0.length:Int) a0 (l0.length:Int) a3=some r)∧Aside0 (kq≤e4)∧Drawn0 w w')
      case atStart=>exact ⟨(true),(0),z5_0,z5_0,H',⟨Nat.le_refl _⟩,z5_1⟩
      case round =>
       clear H'
       try clear c4
       try clear b1
       try clear h1
       obtain ⟨b4,a3,rfl,rfl,HA,HK3,⟨m3,rfl⟩⟩:=hrel
       cases gk with
       | zero=>exact absurd HA.out (by simp [impl_meet.l1])
       | succ k3 =>
        have H:=HA.out
        clear HA
        simp only [impl_meet.l1] at H
        replace H:=os_ H
        rcases H with ⟨d0,H⟩|⟨d0,H⟩
        ·
         replace H:=ox_ H
         rcases H with ⟨rfl,H⟩|⟨rfl,H⟩
         ·
          replace H:=od4 H
          obtain ⟨f1,f2,f3,f4,H⟩:=H
          replace H:=oe2 H
          rcases H with ⟨⟨-,d1,d2⟩,H⟩|⟨⟨h2,d1,d2⟩,H⟩
          ·
           have H':=ak H
           clear H
           obtain ⟨ad194,a6,a7,e194,hx194_0,a4,HR194_0,d3,q194⟩:=al_ HR0.out a3
           cases e194
           obtain ⟨ad195,e195,hx195_0,d4,q195⟩:=ai_ HR194_0.out a1
           cases e195
           go_wp2
           go_roundg k3
           case measure=>have:=HK1.out;have:=b0.out;have:=HK3.out;omega
           case rel=>exact ⟨(true),(wrap64 (a3+1)),z5_0,z5_0,H',⟨z5_2⟩,z5_1⟩
          replace H:=od2 H
          obtain ⟨f5,f6,H⟩:=H
          replace H:=oe2 H
          rcases H with ⟨⟨-,d5,d6⟩,H⟩|⟨⟨h3,d5,d6⟩,H⟩
          ·
           have H':=ak H
           clear H
           obtain ⟨ad194,a6,a7,e194,hx194_0,a4,HR194_0,d3,q194⟩:=al_ HR0.out a3
           cases e194
           obtain ⟨ad195,e195,hx195_0,d4,q195⟩:=ai_ HR194_0.out a1
           cases e195
           obtain ⟨ad196,b5,b6,e196,hx196_0,a9,HR196_0,e5,q196⟩:=al_ HR0.out a3
           obtain rfl:=ij_ e196
           obtain ⟨rfl,rfl⟩:=is_ hx194_0 hx196_0
           obtain ⟨ad197,e197,hx197_0,e6,q197⟩:=ai_ HR196_0.out a2
           cases e197
           go_wp2
           go_roundg k3
           case measure=>have:=HK1.out;have:=b0.out;have:=HK3.out;omega
           case rel=>exact ⟨(true),(wrap64 (a3+1)),z5_0,z5_0,H',⟨z5_2⟩,z5_1⟩
          replace H:=od2 H
          obtain ⟨f7,f8,H⟩:=H
          have H':=ak H
          clear H
          obtain ⟨ad194,a6,a7,e194,hx194_0,a4,HR194_0,d3,q194⟩:=al_ HR0.out a3
          cases e194
          obtain ⟨ad195,e195,hx195_0,d4,q195⟩:=ai_ HR194_0.out a1
          cases e195
          obtain ⟨ad196,b5,b6,e196,hx196_0,a9,HR196_0,e5,q196⟩:=al_ HR0.out a3
          obtain rfl:=ij_ e196
          obtain ⟨rfl,rfl⟩:=is_ hx194_0 hx196_0
          obtain ⟨ad197,e197,hx197_0,e6,q197⟩:=ai_ HR196_0.out a2
          cases e197
          obtain ⟨ad198,e7,e8,e198,hx198_0,d8,HR198_0,g7,q198⟩:=al_ HR0.out a3
          obtain rfl:=ij_ e198
          obtain ⟨rfl,rfl⟩:=is_ hx194_0 hx198_0
          obtain ⟨ad199,e199,hx199_0,g8,q199⟩:=ai_ HR198_0.out a0
          cases e199
          go_wp2
          go_roundg k3
          case measure=>have:=HK1.out;have:=b0.out;have:=HK3.out;omega
          case rel=>exact ⟨(((rd (rd_L1 l0 a3) a0)==1)),(wrap64 (a3+1)),z5_0,z5_0,H',⟨z5_2⟩,z5_1⟩
         have H':=ak H
         clear H
         go_wp2
         go_roundg k3
         case measure=>have:=HK1.out;have:=b0.out;have:=HK3.out;omega
         case rel=>exact ⟨(false),(wrap64 (a3+1)),z5_0,z5_0,H',⟨z5_2⟩,z5_1⟩
        replace H:=ox_ H
        rcases H with ⟨rfl,H⟩|⟨rfl,H⟩
        ·
         obtain rfl:=Option.some.inj H
         go_wp2
         go_ret
         exact ⟨z5_0,z5_1⟩
        have H':=ak H
        clear H
        go_wp2
        go_roundg k3
        case measure=>have:=HK1.out;have:=b0.out;have:=HK3.out;omega
        case rel=>exact ⟨(wrap64 (a0+1)),z5_0,H',⟨z5_2⟩,z5_1⟩
   obtain rfl:=Option.some.inj H
   go_wp2
   go_ret
   exact ⟨z5_0,z5_1⟩

end Go.Proofs.Ytacifhahfamipaa.P

namespace Go.Proofs.Ytacifhahfamipaa.P
open Go.RowKit Go.Proofs.YtacifhahfamipaaW.PrintWords Go.Proofs.YtacifhahfamipaaW.PrintLast Go.Proofs.YtacifhahfamipaaW.PrintMore
attribute [local go_sem] max2_int min2_int max_two min_two max_three min_three max_four min_four
set_option linter.unusedVariables false
set_option linter.unusedSimpArgs false
def impl_turned.T9:Bool × List (List Nat × List Nat):=(true,[([],[]),([],[]),([0,1],[0,1]),([2],[2]),([],[]),([],[]),([],[]),([5,6],[5,6]),([7],[7]),([],[]),([8,9],[8,9]),([10],[10]),([3,4,0,1,2,3,4,5,6,7,8,9,10,11],[3,4]),([12,11,0,1,2,3,4,5,6,7,8,9,10,11],[11,12])])
def impl_turned.B9:List Nat:=[0,0,3,7,0,0,0,96,224,0,992,2016,4095,8191]
theorem impl_turned.tab9:rtab .any (opsOf Try.f105 9)=impl_turned.T9:=by kernel_rfl
theorem impl_turned.bits9:waitsOk impl_turned.T9.2 impl_turned.B9=true:=by kernel_rfl
theorem z7_1 {p:Prop} (h:p:=by first|rfl|(simp;done)|(simp [*];done)):p:=h
theorem z7_0 {p:Prop} (h:p:=by repeat (first|(with_reducible first|exact HB.out|apply below_alloc|apply pw_below_drewN|apply below_drew1)|exact HB.out)):p:=h
set_option maxHeartbeats 8000000 in
set_option maxRecDepth 100000 in
theorem impl_turned.calls (k:Nat) (A0:Option Addr) (c0:Nat) (l0:List (List Int)) (r:List (List Int)) (w:World) (hr0:Kd.C (Kd.slice 3 (Kd.int .i64)) w A0 l0.length l0) (hc0:l0.length≤c0) (h:impl_turned.f k l0=some r) :
 Calls Try.prog 105 #[.slice A0 l0.length c0] w fun e w'=>∃ v0_:Value,e = .returned (v0_)∧Kd.S (Kd.slice 3 (Kd.int .i64)) 25 w' w.heap.size (fun _=>True) v0_ r∧Below w.heap.size w w':=by
 have HR0:=ak hr0
 have f8:=ak hc0
 clear hr0 hc0
 have HB:=ak (Below.refl w.heap.size w)
 have H:(if 0≤(l0.length:Int) then (if ((l0.length:Int):Int).toNat≤11728124029610 then (impl_turned.l0 k l0 (List.replicate ((l0.length:Int):Int).toNat []) (l0.length:Int) 0) else (none)) else (none))=some r:=h
 clear h
 replace H:=ok_ H
 obtain ⟨c2,H⟩:=H
 have b3:=eq_true c2
 have b4:decide (0≤(l0.length:Int))=true:=dT_ c2
 clear c2
 replace H:=ok_ H
 obtain ⟨c3,H⟩:=H
 have b5:=eq_true c3
 have b6:decide (((l0.length:Int):Int).toNat≤11728124029610)=true:=dT_ c3
 clear c3
 obtain ⟨y177,hy177⟩ : ∃ y_:List (List Int),y_=(List.replicate ((l0.length:Int):Int).toNat []):=⟨_,rfl⟩
 replace H:(impl_turned.l0 k l0 y177 (l0.length:Int) 0)=some r:=by first|(rw [hy177];with_reducible exact H)|(have H2_:=(Option.bind_some _ _).symm.trans H;rw [hy177];with_reducible exact H2_)|(have H2_:=(Option.bind_some _ _).symm.trans H;with_reducible exact H2_)|with_reducible exact H|(rw [hy177];exact H)|exact H
 have Ny177:=ak hy177
 clear hy177
 have H':=ak H
 clear H
 go_enter Try.func105,Try.ntmps105
 go_wp2_with (first|((with_reducible refine gate_dst (N:=8) rfl ?_);refine Kd.S_make (Kd.slice 3 (Kd.int .i64)) _ 25 rfl (N:=8) rfl 24 _ _ rfl (l0.length:Int) rfl rfl Try.underlying24 (.slice none 0 0) 24 info25 rfl (by decide) (by omega) [] (ok:=fun _=>True) (okp:=fun _=>True) ⟨_,rfl,Kd.R_nil _ _ _ _ _⟩ (fun _ hk=>hk) trivial (oa_) (Nat.le_trans (Nat.mul_le_mul_right _ (oa_:(l0.length:Int).toNat≤11728124029610)) (by omega)) (Below.refl _ _) (Nat.le_refl _) ?_;intro d8 w4 ho5 hb hg_ hnew_;clear hg_ hnew_;(first|rw [← Ny177.out] at ho5|(simp only [Int.reduceToNat] at ho5;rw [← Ny177.out] at ho5));have b7:=ak (Kd.S_lower ho5 (below_size z7_0));replace HB:=ak (below_step z7_0 hb);clear hb ho5))
 go_loopg [11] k (fun kq f5 w'=>∃ (a4:List (List Int)) (a0:Int),f5 = .int .i64 a0∧Aside0 (impl_turned.l0 kq l0 a4 (l0.length:Int) a0=some r)∧Aside0 (kq≤k)∧Aside0 (Kd.S (Kd.slice 3 (Kd.int .i64)) 25 w' w.heap.size (fun _=>True) d8 a4)∧Aside0 (Below w.heap.size w w'))
 case atStart=>exact ⟨(y177),(0),z7_1,H',⟨Nat.le_refl _⟩,⟨(xS b7.out)⟩,⟨z7_0⟩⟩
 case round =>
  clear H'
  try clear c2
  try clear b3
  try clear b4
  try clear c3
  try clear b5
  try clear b6
  obtain ⟨a4,a0,rfl,HA,HK1,a2,HB⟩:=hrel
  cases gk with
  | zero=>exact absurd HA.out (by simp [impl_turned.l0])
  | succ k1 =>
   have H:=HA.out
   clear HA
   simp only [impl_turned.l0] at H
   replace H:=os_ H
   rcases H with ⟨b8,H⟩|⟨b8,H⟩
   ·
    replace H:=ok_ H
    obtain ⟨c7,H⟩:=H
    have d9:=eq_true c7
    have e0:decide (0≤(l0.length:Int))=true:=dT_ c7
    clear c7
    replace H:=ok_ H
    obtain ⟨c8,H⟩:=H
    have e1:=eq_true c8
    have e2:decide (((l0.length:Int):Int).toNat≤35184372088832)=true:=dT_ c8
    clear c8
    obtain ⟨y180,hy180⟩ : ∃ y_:List Int,y_=(List.replicate ((l0.length:Int):Int).toNat 0):=⟨_,rfl⟩
    replace H:(if 0≤a0 then (if a0<(a4.length:Int) then (impl_turned.l1 k1 l0 (a4.set (a0:Int).toNat y180) a0 (l0.length:Int) a0 (l0.length:Int) 0) else (none)) else (none))=some r:=by first|(rw [hy180];with_reducible exact H)|(have H2_:=(Option.bind_some _ _).symm.trans H;rw [hy180];with_reducible exact H2_)|(have H2_:=(Option.bind_some _ _).symm.trans H;with_reducible exact H2_)|with_reducible exact H|(rw [hy180];exact H)|exact H
    have Ny180:=ak hy180
    clear hy180
    replace H:=od2 H
    obtain ⟨e3,b9,H⟩:=H
    obtain ⟨y183,hy183⟩ : ∃ y_:List (List Int),y_=(a4.set (a0:Int).toNat y180):=⟨_,rfl⟩
    replace H:(impl_turned.l1 k1 l0 y183 a0 (l0.length:Int) a0 (l0.length:Int) 0)=some r:=by first|(rw [hy183];with_reducible exact H)|(have H2_:=(Option.bind_some _ _).symm.trans H;rw [hy183];with_reducible exact H2_)|(have H2_:=(Option.bind_some _ _).symm.trans H;with_reducible exact H2_)|with_reducible exact H|(rw [hy183];exact H)|exact H
    have Ny183:=ak hy183
    clear hy183
    have H':=ak H
    clear H
    go_wp2_with (first|((with_reducible refine gate_dst (N:=18) rfl ?_);refine Kd.R_make (Kd.int .i64) _ 3 rfl (N:=18) rfl 25 _ _ rfl (l0.length:Int) rfl rfl Try.underlying25 (.int .i64 0) 8 info3 rfl (by decide) (by omega) 0 (ok:=fun _=>True) (okp:=fun _=>True) rfl (fun _ hk=>hk) trivial (oa_) (Nat.le_trans (Nat.mul_le_mul_right _ (oa_:(l0.length:Int).toNat≤35184372088832)) (by omega)) (Below.refl _ _) (Nat.le_refl _) ?_;intro a6 e4 ho13 hb hg_ hnew_;clear hg_ hnew_;(first|rw [← Ny180.out] at ho13|(simp only [Int.reduceToNat] at ho13;rw [← Ny180.out] at ho13));replace a2:=ak (Kd.S_elder' (xS a2.out) (Kd.R_base ho13) hb);have a5:=ak (Kd.R_lower ho13 (below_size z7_0));replace HB:=ak (below_step z7_0 hb);clear hb ho13;have d5:0≤(a0:Int):=oa_;have q11:(a0:Int)<((a4.length:Int):Int):=oa_;obtain ⟨go11,a8,d0,d1,gl11,cl11,HG11⟩:=Kd.S_form a2.out (by omega);(first|cases d0|(injection d0 with ea_ en_ ec_;(first|subst ea_|(injection ea_ with ea_;subst ea_));subst ec_;clear en_));have GB11:=ak d1;have GG11:=ak HG11;clear d1 gl11 HG11;obtain ⟨_,ce11,hcl11,hM11,hcc11,hfr11,_,_⟩:=Kd.S_elem a2.out [] (a0:Int) d5 q11;obtain ⟨ve11_0,rfl,ge11_0⟩:=hM11;have hx11_0:=hcc11 0 _ rfl;have hf11_0:=hfr11 0;(try simp only [show ((Kd.slice 3 (Kd.int .i64))).sz=1 from rfl,Nat.mul_one,Nat.add_zero] at hx11_0);(try simp only [show ((Kd.slice 3 (Kd.int .i64))).sz=1 from rfl,Nat.mul_one,Nat.add_zero] at hf11_0);clear hcl11 hcc11 hfr11;(try clear hM11);replace d5:=eq_true d5;replace q11:=eq_true q11;have n_:=ak (Kd.S_mono (ok':=(fun k_=>some k_≠(a6:Value).ownBlock)) a2.out (fun k_ hk=>hk.2));clear a2;have a2:=n_;clear n_;have HX14:=ak (show Kd.S (Kd.slice 3 (Kd.int .i64)) 25 e4 w.heap.size (fun k_=>((fun _=>True)) k_∧¬((fun k_=>some k_=(a6:Value).ownBlock)) k_) (.slice (some ⟨go11,0,none⟩) a4.length a8) a4 from (by (with_reducible repeat (first|apply Kd.S_alloc|apply Kd.S_drewN|apply Kd.S_drew));exact Kd.S_mono a2.out (fun k_ hk=>⟨trivial,fun e_=>hk e_⟩)));obtain ⟨oki14,ce14,hcl14,hM14,hcc14,hfr14,hoki14,hH14⟩:=Kd.S_elem HX14.out [] (a0:Int) (oa_) (by have h_:(a0:Int)<((a4.length:Int):Int):=oa_;first|exact h_|(have e_:=(Kd.S_reads' a2.out).1;omega)|simpa using h_);obtain ⟨ve14_0,rfl,ge14_0⟩:=hM14;have HP14:=Kd.S_seg hH14 (oa_) (by have h_:(a0:Int)<((a4.length:Int):Int):=oa_;first|exact h_|(have e_:=(Kd.S_reads' a2.out).1;omega)|simpa using h_) (seg:=[a6]) (j:=0) (show 1≤1 from by decide) (x':=y180) (Kd.M_row (Kd.R_mono (Kd.R_tight rfl (Kd.R_mono (ok':=fun k_=>((fun _=>True)) k_∧k_≠go11) (Kd.R_apart' (a5.out) (Kd.S_typed a2.out) (by decide)) (fun k_ hk=>⟨trivial,fun e_=>(hk.2) (by rw [e_];rfl)⟩))) (fun _ h_=>Or.inr (h_)))) (fun _ hk=>hk) (fun k_ hk_=>((Kd.R_mono (ok':=fun k_=>((fun _=>True)) k_∧k_≠go11) (Kd.R_apart' (a5.out) (Kd.S_typed a2.out) (by decide)) (fun k_ hk=>⟨trivial,fun e_=>(hk.2) (by rw [e_];rfl)⟩))).1 k_ hk_.symm);have hx14_0:=hcc14 0 _ rfl;(try simp only [show ((Kd.slice 3 (Kd.int .i64))).sz=1 from rfl,Nat.mul_one,Nat.add_zero] at hx14_0);have hf14_0:=hfr14 0;(try simp only [show ((Kd.slice 3 (Kd.int .i64))).sz=1 from rfl,Nat.mul_one,Nat.add_zero] at hf14_0);clear hcl14 hcc14 hfr14 hoki14 hH14;(try clear hM14);(try simp only [show ((Kd.slice 3 (Kd.int .i64))).sz=1 from rfl,Nat.mul_one,Nat.add_zero] at HP14))|((with_reducible refine gate_store (t:=25) (p:=19) rfl ?_);refine store_event (t:=25) (p:=19) (v:=?vo_w15) (w1:=(e4.setCell ⟨go11,(a0:Int).toNat,none⟩ (a6))) ?hg ?ho ?hn ?hr ?_;(case ho=>rfl);(case hg=>rfl);(case hn=>rfl);(case hr=>first|(go_simp;done)|(go_simp;rfl)|(obtain ⟨_,_,e_⟩:=Kd.R_slice a5.out;rw [e_];first|(go_simp;done)|(go_simp;rfl)));intro e5 hw;have hg:e4.grownBy e5 (some go11):=(by rw [hw];exact HP14.2);have hp_:Kd.S (Kd.slice 3 (Kd.int .i64)) 25 e5 w.heap.size (fun _=>True) (.slice (some ⟨go11,0,none⟩) a4.length a8) y183:=(by rw [hw,Ny183.out];exact HP14.1);clear HP14;replace a2:=ak (hp_);replace HB:=ak ((by rw [hw];exact below_set (HB.out) GB11.out:Below w.heap.size w e5));clear a5;clear hg hw hp_))
    go_loopg [22] k1 (fun kq f6 w'=>∃ (a3:List (List Int)) (a1:Int),f6 = .int .i64 a1∧Aside0 (impl_turned.l1 kq l0 a3 a0 (l0.length:Int) a0 (l0.length:Int) a1=some r)∧Aside0 (kq≤k1)∧Aside0 (Kd.S (Kd.slice 3 (Kd.int .i64)) 25 w' w.heap.size (fun _=>True) (.slice (some ⟨go11,0,none⟩) a4.length a8) a3)∧Aside0 (Below w.heap.size w w'))
    case atStart=>exact ⟨(y183),(0),z7_1,H',⟨Nat.le_refl _⟩,⟨(xS a2.out)⟩,⟨z7_0⟩⟩
    case round =>
     clear H'
     try clear c2
     try clear b3
     try clear b4
     try clear c3
     try clear b5
     try clear b6
     try clear c6
     try clear b8
     try clear c7
     try clear d9
     try clear e0
     try clear c8
     try clear e1
     try clear e2
     try clear c9
     try clear e3
     try clear f9
     try clear b9
     try clear d5
     try clear q11
     try clear hx11_0
     try clear hx14_0
     obtain ⟨a3,a1,rfl,HA,HK2,a2,HB⟩:=hrel
     have hl3_2:=(Kd.S_reads' a2.out).1
     rw [hl3_2] at a2
     (try simp only [hl3_2])
     cases gk with
     | zero=>exact absurd HA.out (by simp [impl_turned.l1])
     | succ k2 =>
      have H:=HA.out
      clear HA
      simp only [impl_turned.l1] at H
      replace H:=os_ H
      rcases H with ⟨d2,H⟩|⟨d2,H⟩
      ·
       replace H:=od6 H
       obtain ⟨e9,f0,f1,f2,f3,f4,H⟩:=H
       obtain ⟨y187,hy187⟩ : ∃ y_:List Int,y_=((rd_L1 a3 a0).set (a1:Int).toNat (rd (rd_L1 l0 a1) a0)):=⟨_,rfl⟩
       replace H:(impl_turned.l1 k2 l0 (a3.set (a0:Int).toNat y187) a0 (l0.length:Int) a0 (l0.length:Int) (wrap64 (a1+1)))=some r:=by first|(rw [hy187];with_reducible exact H)|(have H2_:=(Option.bind_some _ _).symm.trans H;rw [hy187];with_reducible exact H2_)|(have H2_:=(Option.bind_some _ _).symm.trans H;with_reducible exact H2_)|with_reducible exact H|(rw [hy187];exact H)|exact H
       have Ny187:=ak hy187
       clear hy187
       obtain ⟨y189,hy189⟩ : ∃ y_:List (List Int),y_=(a3.set (a0:Int).toNat y187):=⟨_,rfl⟩
       replace H:(impl_turned.l1 k2 l0 y189 a0 (l0.length:Int) a0 (l0.length:Int) (wrap64 (a1+1)))=some r:=by first|(rw [hy189];with_reducible exact H)|(have H2_:=(Option.bind_some _ _).symm.trans H;rw [hy189];with_reducible exact H2_)|(have H2_:=(Option.bind_some _ _).symm.trans H;with_reducible exact H2_)|with_reducible exact H|(rw [hy189];exact H)|exact H
       have Ny189:=ak hy189
       clear hy189
       have H':=ak H
       clear H
       try go_wp2
       replace a2:=ak (Kd.S_drew a2.out)
       replace HB:=ak (below_drew1 HB.out)
       have a7:0≤(a0:Int):=oa_
       have q184:a0<(a3.length:Int):=oa_
       obtain ⟨ad184,e6,a9,e184,hx184_0,hl184_0,hi184_0⟩:=at_L1 (Kd.S_reads' a2.out).2.2 a0 a7 q184
       obtain rfl:(⟨go11,0,none⟩:Addr)=ad184:=(by injection e184)
       obtain ⟨ce184,hce184,hMe184,hcc184⟩:=Kd.S_get a2.out [] a0 a7 (by first|exact q184|exact oa_|(have e_:=(Kd.S_reads' a2.out).1;omega))
       obtain ⟨ve184_0,rfl,ge184_0⟩:=hMe184
       have hv184_0:=hcc184 0 _ rfl
       rw [Nat.add_zero,show ((Kd.slice 3 (Kd.int .i64))).sz=1 from rfl,Nat.mul_one] at hv184_0
       replace hv184_0:=Option.some.inj (hv184_0.symm.trans hx184_0)
       rw [hv184_0] at ge184_0
       have HL184_0:=ak (show Kd.R (Kd.int .i64) 3 _ _ _ _ (rd_L1 a3 a0) from ge184_0)
       clear hv184_0 ge184_0
       have HX184_0:=ak hx184_0
       clear hcc184 hce184
       (first|simp only [add_plain] at hx184_0|simp only [add_at] at hx184_0|simp only [Addr.add,Nat.zero_add] at hx184_0|skip)
       have HR184_0:=ak hi184_0
       have d6:=ak hl184_0
       clear hi184_0 hl184_0
       replace a7:=eq_true a7
       replace q184:=eq_true q184
       have b0:0≤(a1:Int):=oa_
       have q185:a1<(l0.length:Int):=oa_
       obtain ⟨ad185,e7,b1,e185,hx185_0,hl185_0,hi185_0⟩:=at_L1 HR0.out a1 b0 q185
       have hw185_0:=hx185_0
       cases e185
       replace hx185_0:=(HB.out.cell (World.block_lt_of_cell? w _ hx185_0)).trans hx185_0
       have HR185_0:=ak hi185_0
       have d7:=ak hl185_0
       clear hi185_0 hl185_0
       replace b0:=eq_true b0
       replace q185:=eq_true q185
       have b2:0≤(a0:Int):=oa_
       have q186:a0<((rd_L1 l0 a1).length:Int):=oa_
       obtain ⟨ad186,e186,hx186_0⟩:=Kd.at_int HR185_0.out a0 b2 q186
       have hw186_0:=hx186_0
       cases e186
       replace hx186_0:=(HB.out.cell (World.block_lt_of_cell? w _ hx186_0)).trans hx186_0
       replace b2:=eq_true b2
       replace q186:=eq_true q186
       have e8:0≤(a1:Int):=oa_
       have q23:(a1:Int)<(((rd_L1 a3 a0).length:Int):Int):=oa_
       obtain ⟨go23,f7,d3,d4,gl23,cl23,HG23⟩:=Kd.R_form HL184_0.out (by omega)
       (first|cases d3|(injection d3 with ea_ en_ ec_;(first|subst ea_|(injection ea_ with ea_;subst ea_));subst ec_;clear en_))
       have GB23:=ak d4
       have GG23:=ak HG23
       clear d4 gl23 HG23
       obtain ⟨hx23_0,hf23_0⟩:=Kd.R_celln 0 HL184_0.out (a1:Int) e8 q23
       replace e8:=eq_true e8
       replace q23:=eq_true q23
       have hq25:(a0:Int)<(a3.length:Int):=(by have h_:(a0:Int)<((a3.length:Int):Int):=oa_;first|exact h_|(have e_:=(Kd.S_reads' a2.out).1;omega)|simpa only [List.length_set,List.length_set] using h_)
       obtain ⟨oki25,ce25,hcl25,hM25,hcc25,hok25,hbk25⟩:=Kd.S_borrow a2.out [] (a0:Int) (oa_) hq25
       obtain ⟨ve25_0,rfl,ge25_0⟩:=hM25
       have hv25:=hcc25 0 _ rfl
       rw [Nat.add_zero,show ((Kd.slice 3 (Kd.int .i64))).sz=1 from rfl,Nat.mul_one] at hv25
       replace hv25:=Option.some.inj (hv25.symm.trans HX184_0.out)
       subst hv25
       clear hcc25 hcl25
       replace ge25_0:=(show Kd.R (Kd.int .i64) 3 _ _ _ _ (rd_L1 a3 a0) from ge25_0)
       have HP25:=Kd.R_putg ge25_0 (a1:Int) (rd (rd_L1 l0 a1) a0)
       rw [← Ny187.out] at HP25
       have HS25:=hbk25 HP25.2 (fun k_ e_=>by injection e_ with e_;subst e_;exact ge25_0.1 _ rfl) (x':=y187) (Kd.M_row HP25.1)
       rw [← Ny189.out] at HS25
       have HQ25:=ak HS25
       clear HP25 HS25 hbk25 hok25
       refine start_ (n:=14) (S:=fun w'=>w'.cell? ⟨go11,(a0).toNat,none⟩=some (.slice (some ⟨go23,0,none⟩) (rd_L1 a3 a0).length a9)∧w'.cell? (ad185.add (a1).toNat)=some (.slice (some ad186) (rd_L1 l0 a1).length b1)∧w'.cell? (ad186.add (a0).toNat)=some (.int .i64 (rd (rd_L1 l0 a1) a0))) (ds:=[13]) (bA 14 0) (by kernel_rfl) rfl rfl ⟨hx184_0,((HB.out.cell (World.block_lt_of_cell? w _ hw185_0)).trans hw185_0),((HB.out.cell (World.block_lt_of_cell? w _ hw186_0)).trans hw186_0)⟩ (fun hHeld=>?_);refine with_tabW impl_turned.tab9 impl_turned.bits9 (fun HT_ HW_=>?_)
       generalize wr.drew=g0 at a2 HB GG23 HL184_0 HQ25 HR184_0 HR185_0 HX184_0 hf23_0 hx184_0 hx185_0 hx186_0 hx23_0 hHeld ⊢
       refine pu_ (i:=0) (N:=some 25) (bA 14 1) ?_
       refine pu_ (i:=1) (N:=some 26) (bA 14 3) ?_
       refine pu_ (i:=2) (N:=some 27) (bA 14 7) ?_
       refine pu_ (i:=4) (N:=some 29) (bA 14 23) ?_
       refine pu_ (i:=5) (N:=some 30) (bA 14 55) ?_
       refine pu_ (i:=6) (N:=some 31) (bA 14 119) ?_
       refine pu_ (i:=7) (N:=some 32) (bA 14 247) ?_
       refine pu_ (i:=9) (N:=some 34) (bA 14 759) ?_
       refine tk_ (i:=3) (N:=some 28) (bA 14 767) ?_
       refine tk_ (i:=8) (N:=some 33) (bA 14 1023) ?_
       refine pu_ (i:=10) (N:=some 35) (bA 14 2047) ?_
       refine tk_ (i:=11) (N:=some 36) (bA 14 4095) ?_
       refine pu_ (i:=12) (N:=some 37) (bA 14 8191) ?_
       refine last_ (i:=13) (N:=none) (bA 14 16383) rfl rfl (one_of HT_.out (by kernel_rfl)) (by decide) (fun K hK=>?_)
       refine skip_ (w1:=?_) (by rfl) rfl ?_ ?_
       rotate_left
       ·
        go_simp
        rfl
       refine hK.out _ _ ?_
       clear hK K
       refine done_ (done_of HT_.out (by kernel_rfl)) ?_
       try go_wp2
       (try simp only [← hl3_2])
       go_roundg k2
       case measure=>have:=HK1.out;have:=HK2.out;omega
       case rel=>exact ⟨(y189),(wrap64 (a1+1)),z7_1,H',⟨(by have:=HK1.out;have:=HK2.out;omega)⟩,⟨(by (try simp only [hl3_2]);(with_reducible repeat (first|apply Kd.S_alloc|apply Kd.S_drewN|apply Kd.S_drew));exact HQ25.out)⟩,⟨(by repeat (first|(with_reducible first|exact HB.out|apply below_alloc|apply pw_below_drewN|apply below_drew1|refine below_set ?_ GB23.out)|exact HB.out))⟩⟩
      have H':=ak H
      clear H
      go_wp2
      (try simp only [← hl3_2])
      go_roundg k2
      case measure=>have:=HK1.out;have:=HK2.out;omega
      case rel=>exact ⟨(a3),(wrap64 (a0+1)),z7_1,H',⟨(by have:=HK1.out;have:=HK2.out;omega)⟩,⟨(by (try simp only [hl3_2]);(with_reducible repeat (first|apply Kd.S_alloc|apply Kd.S_drewN|apply Kd.S_drew));exact a2.out)⟩,⟨z7_0⟩⟩
   obtain rfl:=Option.some.inj H
   go_wp2
   go_ret
   exact ⟨_,(by first|rfl|(simp [errW_none,errW_some] <;> rfl)|(simp [*,errW_none,errW_some] <;> rfl)),(xS a2.out),z7_0⟩

end Go.Proofs.Ytacifhahfamipaa.P

namespace Go.Proofs.Ytacifhahfamipaa.P
open Go.RowKit Go.Proofs.YtacifhahfamipaaW.PrintWords Go.Proofs.YtacifhahfamipaaW.PrintLast Go.Proofs.YtacifhahfamipaaW.PrintMore
attribute [local go_sem] max2_int min2_int max_two min_two max_three min_three max_four min_four
set_option linter.unusedVariables false
set_option linter.unusedSimpArgs false
theorem z3_2 {p:Prop} (h:p:=by first|rfl|(simp;done)|(simp [*];done)):p:=h
theorem z3_1 {p:Prop} (h:p:=by first|rfl|(simp [errW_none,errW_some] <;> rfl)|(simp [*,errW_none,errW_some] <;> rfl)):p:=h
theorem z3_0 {p:Prop} (h:p:=by repeat (first|(with_reducible first|exact HB.out|apply below_alloc|apply pw_below_drewN|apply below_drew1)|exact HB.out)):p:=h
set_option maxHeartbeats 8000000 in
set_option maxRecDepth 100000 in
theorem impl_LatticeOk.calls (k:Nat) (A0:Option Addr) (c0:Nat) (l0:List (List Int)) (r:Bool) (w:World) (hr0:Kd.C (Kd.slice 3 (Kd.int .i64)) w A0 l0.length l0) (hc0:l0.length≤c0) (h:impl_LatticeOk.f k l0=some r) :
 Calls Try.prog 104 #[.slice A0 l0.length c0] w fun e w'=>e = .returned (.bool r)∧Below w.heap.size w w':=by
 have HR0:=ak hr0
 have a5:=ak hc0
 clear hr0 hc0
 have HB:=ak (Below.refl w.heap.size w)
 have H:((impl_OrderOk.f k l0).bind fun a6=>(if a6=true then ((impl_turned.f k l0).bind fun a3=>(impl_LatticeOk.l0 k l0 a3 (l0.length:Int) 0)) else (some false)))=some r:=h
 clear h
 obtain ⟨a6,A2,H⟩:=bd_ H
 try dsimp only at H
 replace H:=ox_ H
 rcases H with ⟨rfl,H⟩|⟨rfl,H⟩
 ·
  obtain ⟨a3,A4,H⟩:=bd_ H
  try dsimp only at H
  have H':=ak H
  clear H
  go_enter Try.func104,Try.ntmps104
  go_wp2_with (first|((with_reducible refine gate_callee (f:=67) rfl ?_);refine gl_ (some 7) Try.func67 #[.slice A0 l0.length c0] ?_;(with_reducible refine (impl_OrderOk.calls k _ _ l0 true _ (y4 HR0.out) a5.out A2.out).mono ?_);rintro e w' ⟨rfl,⟨nd,rfl⟩⟩;refine ⟨_,rfl,?_⟩)|((with_reducible refine gate_callee (f:=105) rfl ?_);refine gl_ (some 10) Try.func105 #[.slice A0 l0.length c0] ?_;(with_reducible refine (impl_turned.calls k _ _ l0 a3 _ (y4 HR0.out) a5.out A4.out).mono ?_);rintro e w' ⟨a7,rfl,ho0,hb⟩;refine ⟨_,rfl,?_⟩;have a8:=ak (Kd.S_lower ho0 (below_size z3_0));replace HB:=ak (below_step z3_0 hb);(try clear hb);(try clear hb2);(try clear hk);(try clear hi);(try clear ho0)))
  go_loopg [13] k (fun kq b7 w'=>∃ (a0:Int),b7 = .int .i64 a0∧Aside0 (impl_LatticeOk.l0 kq l0 a3 (l0.length:Int) a0=some r)∧Aside0 (kq≤k)∧Aside0 (Kd.S (Kd.slice 3 (Kd.int .i64)) 25 w' w.heap.size (fun _=>True) a7 a3)∧Aside0 (Below w.heap.size w w'))
  case atStart=>exact ⟨(0),z3_2,H',⟨Nat.le_refl _⟩,⟨(xS a8.out)⟩,⟨z3_0⟩⟩
  case round =>
   clear H'
   try clear c3
   obtain ⟨a0,rfl,HA,HK1,a2,HB⟩:=hrel
   cases gk with
   | zero=>exact absurd HA.out (by simp [impl_LatticeOk.l0])
   | succ k1 =>
    have H:=HA.out
    clear HA
    simp only [impl_LatticeOk.l0] at H
    replace H:=os_ H
    rcases H with ⟨a9,H⟩|⟨a9,H⟩
    ·
     have H':=ak H
     clear H
     go_wp2
     go_loopg [18] k1 (fun kq b8 w'=>∃ (a1:Int),b8 = .int .i64 a1∧Aside0 (impl_LatticeOk.l1 kq l0 a3 a0 (l0.length:Int) a0 (l0.length:Int) a1=some r)∧Aside0 (kq≤k1)∧Aside0 (Kd.S (Kd.slice 3 (Kd.int .i64)) 25 w' w.heap.size (fun _=>True) a7 a3)∧Aside0 (Below w.heap.size w w'))
     case atStart=>exact ⟨(0),z3_2,H',⟨Nat.le_refl _⟩,⟨(xS a2.out)⟩,⟨z3_0⟩⟩
     case round =>
      clear H'
      try clear c3
      try clear c6
      try clear a9
      obtain ⟨a1,rfl,HA,HK2,a2,HB⟩:=hrel
      cases gk with
      | zero=>exact absurd HA.out (by simp [impl_LatticeOk.l1])
      | succ k2 =>
       have H:=HA.out
       clear HA
       simp only [impl_LatticeOk.l1] at H
       replace H:=os_ H
       rcases H with ⟨b2,H⟩|⟨b2,H⟩
       ·
        obtain ⟨a4,A8,H⟩:=bd_ H
        try dsimp only at H
        replace H:=os_ H
        rcases H with ⟨b3,H⟩|⟨b3,H⟩
        ·
         obtain rfl:=Option.some.inj H
         go_wp2_with (first|((with_reducible refine gate_callee (f:=106) rfl ?_);refine gl_ (some 24) Try.func106 #[.slice A0 l0.length c0,.int .i64 a0,.int .i64 a1] ?_;(with_reducible refine (impl_meet.calls k2 _ _ l0 a0 a1 a4 _ (y3 HR0.out HB.out) a5.out A8.out).mono ?_);rintro e w' ⟨rfl,⟨nd,rfl⟩⟩;refine ⟨_,rfl,?_⟩))
         go_ret
         exact ⟨z3_1,z3_0⟩
        obtain ⟨b0,b6,H⟩:=bd_ H
        try dsimp only at H
        replace H:=os_ H
        rcases H with ⟨b1,H⟩|⟨b1,H⟩
        ·
         obtain rfl:=Option.some.inj H
         go_wp2_with (first|((with_reducible refine gate_callee (f:=106) rfl ?_);refine gl_ (some 24) Try.func106 #[.slice A0 l0.length c0,.int .i64 a0,.int .i64 a1] ?_;(with_reducible refine (impl_meet.calls k2 _ _ l0 a0 a1 a4 _ (y3 HR0.out HB.out) a5.out A8.out).mono ?_);rintro e w' ⟨rfl,⟨nd,rfl⟩⟩;refine ⟨_,rfl,?_⟩;obtain ⟨b9,d0,b4⟩:=Kd.S_slice a2.out;subst b4)|(go_at_call 106;(with_reducible refine (impl_meet.calls k2 _ _ a3 a0 a1 b0 _ (y1 a2.out) (y2 a2.out) b6.out).mono ?_);rintro e w' ⟨rfl,⟨nd,rfl⟩⟩))
         go_ret
         exact ⟨z3_1,z3_0⟩
        have H':=ak H
        clear H
        go_wp2_with (first|((with_reducible refine gate_callee (f:=106) rfl ?_);refine gl_ (some 24) Try.func106 #[.slice A0 l0.length c0,.int .i64 a0,.int .i64 a1] ?_;(with_reducible refine (impl_meet.calls k2 _ _ l0 a0 a1 a4 _ (y3 HR0.out HB.out) a5.out A8.out).mono ?_);rintro e w' ⟨rfl,⟨nd,rfl⟩⟩;refine ⟨_,rfl,?_⟩;obtain ⟨d1,d2,b5⟩:=Kd.S_slice a2.out;subst b5)|(go_at_call 106;(with_reducible refine (impl_meet.calls k2 _ _ a3 a0 a1 b0 _ (y1 a2.out) (y2 a2.out) b6.out).mono ?_);rintro e w' ⟨rfl,⟨nd,rfl⟩⟩))
        go_roundg k2
        case measure=>have:=HK1.out;have:=HK2.out;omega
        case rel=>exact ⟨(wrap64 (a1+1)),z3_2,H',⟨(by have:=HK1.out;have:=HK2.out;omega)⟩,⟨(xS a2.out)⟩,⟨z3_0⟩⟩
       have H':=ak H
       clear H
       go_wp2
       go_roundg k2
       case measure=>have:=HK1.out;have:=HK2.out;omega
       case rel=>exact ⟨(wrap64 (a0+1)),z3_2,H',⟨(by have:=HK1.out;have:=HK2.out;omega)⟩,⟨(xS a2.out)⟩,⟨z3_0⟩⟩
    obtain rfl:=Option.some.inj H
    go_wp2
    go_ret
    exact ⟨z3_1,z3_0⟩
 obtain rfl:=Option.some.inj H
 go_enter Try.func104,Try.ntmps104
 go_wp2_with (first|((with_reducible refine gate_callee (f:=67) rfl ?_);refine gl_ (some 7) Try.func67 #[.slice A0 l0.length c0] ?_;(with_reducible refine (impl_OrderOk.calls k _ _ l0 false _ (y4 HR0.out) a5.out A2.out).mono ?_);rintro e w' ⟨rfl,⟨nd,rfl⟩⟩;refine ⟨_,rfl,?_⟩))
 go_ret
 exact ⟨z3_1,z3_0⟩

end Go.Proofs.Ytacifhahfamipaa.P

namespace Go.Proofs.Ytacifhahfamipaa.P
open Go.RowKit Go.Proofs.YtacifhahfamipaaW.PrintWords Go.Proofs.YtacifhahfamipaaW.PrintLast Go.Proofs.YtacifhahfamipaaW.PrintMore
attribute [local go_sem] max2_int min2_int max_two min_two max_three min_three max_four min_four
set_option linter.unusedVariables false
set_option linter.unusedSimpArgs false
theorem z4_1 {p:Prop} (h:p:=by repeat (first|exact Drawn0.refl _|apply Drawn0.step)):p:=h
theorem z4_0 {p:Prop} (h:p:=by first|rfl|(simp;done)|(simp [*];done)):p:=h
set_option maxHeartbeats 8000000 in
set_option maxRecDepth 100000 in
theorem impl_LeastOf.calls (k:Nat) (A0:Option Addr) (c0:Nat) (l0:List (List Int)) (r1:Int) (r2:Bool) (w:World) (hr0:Kd.C (Kd.slice 3 (Kd.int .i64)) w A0 l0.length l0) (hc0:l0.length≤c0) (h:impl_LeastOf.f k l0=some (r1,r2)) :
 Calls Try.prog 69 #[.slice A0 l0.length c0] w fun e w'=>e = .returned (.tuple #[.int .i64 r1,.bool r2])∧Drawn0 w w':=by
 have HR0:=ak hr0
 have b3:=ak hc0
 clear hr0 hc0
 have H:((impl_OrderOk.f k l0).bind fun a3=>(if a3=true then (impl_LeastOf.l0 k l0 (l0.length:Int) 0) else (some ((-1),false))))=some (r1,r2):=h
 clear h
 obtain ⟨a3,A2,H⟩:=bd_ H
 try dsimp only at H
 replace H:=ox_ H
 rcases H with ⟨rfl,H⟩|⟨rfl,H⟩
 ·
  have H':=ak H
  clear H
  go_enter Try.func69,Try.ntmps69
  go_wp2_with (first|((with_reducible refine gate_callee (f:=67) rfl ?_);refine gl_ (some 10) Try.func67 #[.slice A0 l0.length c0] ?_;(with_reducible refine (impl_OrderOk.calls k _ _ l0 true _ (y4 HR0.out) b3.out A2.out).mono ?_);rintro e w' ⟨rfl,⟨nd,rfl⟩⟩;refine ⟨_,rfl,?_⟩))
  go_loopg [14] k (fun kq b4 w'=>∃ (a0:Int),b4 = .int .i64 a0∧Aside0 (impl_LeastOf.l0 kq l0 (l0.length:Int) a0=some (r1,r2))∧Aside0 (kq≤k)∧Drawn0 w w')
  case atStart=>exact ⟨(0),z4_0,H',⟨Nat.le_refl _⟩,z4_1⟩
  case round =>
   clear H'
   try clear c3
   obtain ⟨a0,rfl,HA,HK1,⟨m1,rfl⟩⟩:=hrel
   cases gk with
   | zero=>exact absurd HA.out (by simp [impl_LeastOf.l0])
   | succ k1 =>
    have H:=HA.out
    clear HA
    simp only [impl_LeastOf.l0] at H
    replace H:=os_ H
    rcases H with ⟨a4,H⟩|⟨a4,H⟩
    ·
     replace H:=od2 H
     obtain ⟨a6,a7,H⟩:=H
     have H':=ak H
     clear H
     obtain ⟨ad175,a8,a9,e175,hx175_0,a5,HR175_0,b0,q175⟩:=al_ HR0.out a0
     cases e175
     go_wp2
     go_loopg [6,21] k1 (fun kq v6 b5 w'=>∃ (a2:Bool) (a1:Int),v6 = .bool a2∧b5 = .int .i64 a1∧Aside0 (impl_LeastOf.l1 kq a0 a2 l0 (l0.length:Int) a0 (rd_L1 l0 a0) ((rd_L1 l0 a0).length:Int) a1=some (r1,r2))∧Aside0 (kq≤k1)∧Drawn0 w w')
     case atStart=>exact ⟨(true),(0),z4_0,z4_0,H',⟨Nat.le_refl _⟩,z4_1⟩
     case round =>
      clear H'
      try clear c3
      try clear c4
      try clear a4
      try clear c5
      try clear a6
      try clear c6
      try clear a7
      try clear hx175_0
      try clear b0
      try clear q175
      obtain ⟨a2,a1,rfl,rfl,HA,HK2,⟨m2,rfl⟩⟩:=hrel
      cases gk with
      | zero=>exact absurd HA.out (by simp [impl_LeastOf.l1])
      | succ k2 =>
       have H:=HA.out
       clear HA
       simp only [impl_LeastOf.l1] at H
       replace H:=os_ H
       rcases H with ⟨b1,H⟩|⟨b1,H⟩
       ·
        replace H:=od2 H
        obtain ⟨b6,b7,H⟩:=H
        replace H:=ox_ H
        rcases H with ⟨rfl,H⟩|⟨rfl,H⟩
        ·
         have H':=ak H
         clear H
         obtain ⟨ad176,e176,hx176_0,b2,q176⟩:=ai_ HR175_0.out a1
         cases e176
         go_wp2
         go_roundg k2
         case measure=>have:=HK1.out;have:=HK2.out;omega
         case rel=>exact ⟨(((rd (rd_L1 l0 a0) a1)==1)),(wrap64 (a1+1)),z4_0,z4_0,H',⟨(by have:=HK1.out;have:=HK2.out;omega)⟩,z4_1⟩
        have H':=ak H
        clear H
        obtain ⟨ad176,e176,hx176_0,b2,q176⟩:=ai_ HR175_0.out a1
        cases e176
        go_wp2
        go_roundg k2
        case measure=>have:=HK1.out;have:=HK2.out;omega
        case rel=>exact ⟨(false),(wrap64 (a1+1)),z4_0,z4_0,H',⟨(by have:=HK1.out;have:=HK2.out;omega)⟩,z4_1⟩
       replace H:=ox_ H
       rcases H with ⟨rfl,H⟩|⟨rfl,H⟩
       ·
        simp only [Option.some.injEq,Prod.mk.injEq] at H
        obtain ⟨rfl,rfl⟩:=H
        go_wp2
        go_ret2
        exact ⟨z4_0,z4_1⟩
       have H':=ak H
       clear H
       go_wp2
       go_roundg k2
       case measure=>have:=HK1.out;have:=HK2.out;omega
       case rel=>exact ⟨(wrap64 (a0+1)),z4_0,H',⟨(by have:=HK1.out;have:=HK2.out;omega)⟩,z4_1⟩
    simp only [Option.some.injEq,Prod.mk.injEq] at H
    obtain ⟨rfl,rfl⟩:=H
    go_wp2
    go_ret2
    exact ⟨z4_0,z4_1⟩
 simp only [Option.some.injEq,Prod.mk.injEq] at H
 obtain ⟨rfl,rfl⟩:=H
 go_enter Try.func69,Try.ntmps69
 go_wp2_with (first|((with_reducible refine gate_callee (f:=67) rfl ?_);refine gl_ (some 10) Try.func67 #[.slice A0 l0.length c0] ?_;(with_reducible refine (impl_OrderOk.calls k _ _ l0 false _ (y4 HR0.out) b3.out A2.out).mono ?_);rintro e w' ⟨rfl,⟨nd,rfl⟩⟩;refine ⟨_,rfl,?_⟩))
 go_ret2
 exact ⟨z4_0,z4_1⟩

end Go.Proofs.Ytacifhahfamipaa.P

namespace Go.Proofs.Ytacifhahfamipaa.P
open Go.RowKit Go.Proofs.YtacifhahfamipaaW.PrintWords Go.Proofs.YtacifhahfamipaaW.PrintLast Go.Proofs.YtacifhahfamipaaW.PrintMore
attribute [local go_sem] max2_int min2_int max_two min_two max_three min_three max_four min_four
set_option linter.unusedVariables false
set_option linter.unusedSimpArgs false
theorem z1o_1 {p:Prop} (h:p:=by repeat (first|(with_reducible first|exact HB.out|apply below_alloc|apply pw_below_drewN|apply below_drew1|refine below_set ?_ a3.out)|exact HB.out)):p:=h
theorem z1o_0 {p:Prop} (h:p:=by repeat (first|(with_reducible first|exact HB.out|apply below_alloc|apply pw_below_drewN|apply below_drew1)|exact HB.out)):p:=h
set_option maxHeartbeats 8000000 in
set_option maxRecDepth 100000 in
theorem spec_NoOf.calls (k:Nat) (A0_0:Option Addr) (c0_0:Nat) (l0_0:List (List Int)) (A0_1:Option Addr) (c0_1:Nat) (l0_1:List Int) (r:Int) (w:World) (hr0_0:Kd.C (Kd.slice 3 (Kd.int .i64)) w A0_0 l0_0.length l0_0) (hc0_0:l0_0.length≤c0_0) (hr0_1:Kd.C (Kd.int .i64) w A0_1 l0_1.length l0_1) (hc0_1:l0_1.length≤c0_1) (h:spec_NoOf.f k l0_0 l0_1=some r) :
 Calls Try.prog 37 #[.agg #[.slice A0_0 l0_0.length c0_0,.slice A0_1 l0_1.length c0_1]] w fun e w'=>e = .returned (.int .i64 r)∧Below w.heap.size w w':=by
 have hu27:=Try.underlying27
 have HR0_0:=ak hr0_0
 have a2:=ak hc0_0
 clear hr0_0 hc0_0
 have HR0_1:=ak hr0_1
 have a4:=ak hc0_1
 clear hr0_1 hc0_1
 have HB:=ak (Below.refl w.heap.size w)
 have H:((spec_LogicOk.f k l0_0 l0_1).bind fun a9=>(if a9=true then ((spec_LeastOf.f k l0_0).bind fun b0=>(some b0.1)) else (some (-1))))=some r:=h
 clear h
 obtain ⟨a9,A2,H⟩:=bd_ H
 try dsimp only at H
 replace H:=ox_ H
 rcases H with ⟨rfl,H⟩|⟨rfl,H⟩
 ·
  obtain ⟨⟨b2,b3⟩,A4,H⟩:=bd_ H
  try dsimp only at H
  obtain rfl:=Option.some.inj H
  go_enter Try.func37,Try.ntmps37
  go_wp2_with (first|((with_reducible refine gate_dst (N:=1) rfl ?_);refine bx_ (N:=1) (cs:=#[.slice A0_0 l0_0.length c0_0,.slice A0_1 l0_1.length c0_1]) (t:=27) ?_;intro a1 hg w5 hbox hb;have a0:=ak (hbox);have b1:=ak ((by rw [hg];exact (below_size z1o_0):w.heap.size≤a1));have a3:=ak ((by rw [hg];exact (below_size z1o_0):w.heap.size≤a1));replace HB:=ak (below_step z1o_0 hb);clear hb hbox hg;have a5:=cz20 a0.out;have a6:=cz21 a0.out;have a7:=blk_frozen a0.out 0;have a8:=blk_frozen a0.out 1)|((with_reducible refine gate_callee (f:=30) rfl ?_);refine gl_ (some 6) Try.func30 #[.agg #[.slice A0_0 l0_0.length c0_0,.slice A0_1 l0_1.length c0_1]] ?_;(with_reducible refine (spec_LogicOk.calls k _ _ l0_0 _ _ l0_1 true _ (y3 HR0_0.out HB.out) a2.out (y3 HR0_1.out HB.out) a4.out A2.out).mono ?_);rintro e w' ⟨rfl,hb⟩;refine ⟨_,rfl,?_⟩;replace a0:=ak (blk_below (g:=a1) (o:=.cells #[.slice A0_0 l0_0.length c0_0,.slice A0_1 l0_1.length c0_1] 27 (0,0)) (xb a0.out) hb);replace HB:=ak (below_step z1o_1 hb);(try clear hb);(try clear hb2);(try clear hk);(try clear hi);have a5:=cz20 a0.out;have a6:=cz21 a0.out;have a7:=blk_frozen a0.out 0;have a8:=blk_frozen a0.out 1)|((with_reducible refine gate_callee (f:=81) rfl ?_);refine gl_ (some 11) Try.func81 #[.slice A0_0 l0_0.length c0_0] ?_;(with_reducible refine (spec_LeastOf.calls k _ _ l0_0 b2 b3 _ (y3 HR0_0.out HB.out) a2.out A4.out).mono ?_);rintro e w' ⟨rfl,⟨nd,rfl⟩⟩;refine ⟨_,rfl,?_⟩))
  go_ret
  exact ⟨(by first|rfl|(simp [errW_none,errW_some] <;> rfl)|(simp [*,errW_none,errW_some] <;> rfl)),z1o_1⟩
 obtain rfl:=Option.some.inj H
 go_enter Try.func37,Try.ntmps37
 go_wp2_with (first|((with_reducible refine gate_dst (N:=1) rfl ?_);refine bx_ (N:=1) (cs:=#[.slice A0_0 l0_0.length c0_0,.slice A0_1 l0_1.length c0_1]) (t:=27) ?_;intro a1 hg w9 hbox hb;have a0:=ak (hbox);have b1:=ak ((by rw [hg];exact (below_size z1o_0):w.heap.size≤a1));have a3:=ak ((by rw [hg];exact (below_size z1o_0):w.heap.size≤a1));replace HB:=ak (below_step z1o_0 hb);clear hb hbox hg;have a5:=cz20 a0.out;have a6:=cz21 a0.out;have a7:=blk_frozen a0.out 0;have a8:=blk_frozen a0.out 1)|((with_reducible refine gate_callee (f:=30) rfl ?_);refine gl_ (some 6) Try.func30 #[.agg #[.slice A0_0 l0_0.length c0_0,.slice A0_1 l0_1.length c0_1]] ?_;(with_reducible refine (spec_LogicOk.calls k _ _ l0_0 _ _ l0_1 false _ (y3 HR0_0.out HB.out) a2.out (y3 HR0_1.out HB.out) a4.out A2.out).mono ?_);rintro e w' ⟨rfl,hb⟩;refine ⟨_,rfl,?_⟩;replace a0:=ak (blk_below (g:=a1) (o:=.cells #[.slice A0_0 l0_0.length c0_0,.slice A0_1 l0_1.length c0_1] 27 (0,0)) (xb a0.out) hb);replace HB:=ak (below_step z1o_1 hb);(try clear hb);(try clear hb2);(try clear hk);(try clear hi)))
 go_ret
 exact ⟨(by first|rfl|(simp [errW_none,errW_some] <;> rfl)|(simp [*,errW_none,errW_some] <;> rfl)),z1o_1⟩

end Go.Proofs.Ytacifhahfamipaa.P

namespace Go.Proofs.Ytacifhahfamipaa.P
open Go.RowKit Go.Proofs.YtacifhahfamipaaW.PrintWords Go.Proofs.YtacifhahfamipaaW.PrintLast Go.Proofs.YtacifhahfamipaaW.PrintMore
attribute [local go_sem] max2_int min2_int max_two min_two max_three min_three max_four min_four
set_option linter.unusedVariables false
set_option linter.unusedSimpArgs false
theorem z1h_2 {p:Prop} (h:p:=by first|rfl|(simp [errW_none,errW_some] <;> rfl)|(simp [*,errW_none,errW_some] <;> rfl)):p:=h
theorem z1h_1 {p:Prop} (h:p:=by repeat (first|(with_reducible first|exact HB.out|apply below_alloc|apply pw_below_drewN|apply below_drew1|refine below_set ?_ a8.out)|exact HB.out)):p:=h
theorem z1h_0 {p:Prop} (h:p:=by repeat (first|(with_reducible first|exact HB.out|apply below_alloc|apply pw_below_drewN|apply below_drew1)|exact HB.out)):p:=h
set_option maxHeartbeats 8000000 in
set_option maxRecDepth 100000 in
theorem spec_l2Both.calls (k:Nat) (A0_0:Option Addr) (c0_0:Nat) (l0_0:List (List Int)) (A0_1:Option Addr) (c0_1:Nat) (l0_1:List Int) (a1:Int) (a2:Int) (r:Bool) (w:World) (hr0_0:Kd.C (Kd.slice 3 (Kd.int .i64)) w A0_0 l0_0.length l0_0) (hc0_0:l0_0.length≤c0_0) (hr0_1:Kd.C (Kd.int .i64) w A0_1 l0_1.length l0_1) (hc0_1:l0_1.length≤c0_1) (h:spec_l2Both.f k l0_0 l0_1 a1 a2=some r) :
 Calls Try.prog 98 #[.agg #[.slice A0_0 l0_0.length c0_0,.slice A0_1 l0_1.length c0_1],.int .i64 a1,.int .i64 a2] w fun e w'=>e = .returned (.bool r)∧Below w.heap.size w w':=by
 have hu27:=Try.underlying27
 have HR0_0:=ak hr0_0
 have a9:=ak hc0_0
 clear hr0_0 hc0_0
 have HR0_1:=ak hr0_1
 have b0:=ak hc0_1
 clear hr0_1 hc0_1
 have HB:=ak (Below.refl w.heap.size w)
 have H:((spec_LogicOk.f k l0_0 l0_1).bind fun b3=>(if b3=true then ((spec_l1In.f a1 0 (wrap64 ((l0_1.length:Int)-1))).bind fun b4=>(if b4=true then ((spec_l1In.f a2 0 (wrap64 ((l0_1.length:Int)-1))).bind fun b2=>(some b2)) else (some false))) else (some false)))=some r:=h
 clear h
 obtain ⟨b3,A4,H⟩:=bd_ H
 try dsimp only at H
 replace H:=ox_ H
 rcases H with ⟨rfl,H⟩|⟨rfl,H⟩
 ·
  obtain ⟨b4,A6,H⟩:=bd_ H
  try dsimp only at H
  replace H:=ox_ H
  rcases H with ⟨rfl,H⟩|⟨rfl,H⟩
  ·
   obtain ⟨b2,A8,H⟩:=bd_ H
   try dsimp only at H
   obtain rfl:=Option.some.inj H
   go_enter Try.func98,Try.ntmps98
   go_wp2_with (first|((with_reducible refine gate_dst (N:=3) rfl ?_);(try (refine gate_guard (by rfl) ?_;dsimp only));refine box_event ?hg (N:=3) ?hd (cs:=#[.slice A0_0 l0_0.length c0_0,.slice A0_1 l0_1.length c0_1]) (t:=27) ?hr ?_;(case hd=>rfl);(case hg=>rfl);(case hr=>first|(go_simp;done)|(go_simp;rfl));intro a3 hg w9 hbox hb;have a0:=ak (hbox);have b1:=ak ((by rw [hg];exact (below_size z1h_0):w.heap.size≤a3));have a8:=ak ((by rw [hg];exact (below_size z1h_0):w.heap.size≤a3));replace HB:=ak (below_step z1h_0 hb);clear hb hbox hg;have a4:=cz20 a0.out;have a5:=cz21 a0.out;have a6:=blk_frozen a0.out 0;have a7:=blk_frozen a0.out 1)|((with_reducible refine gate_callee (f:=30) rfl ?_);refine gl_ (some 8) Try.func30 #[.agg #[.slice A0_0 l0_0.length c0_0,.slice A0_1 l0_1.length c0_1]] ?_;(with_reducible refine (spec_LogicOk.calls k _ _ l0_0 _ _ l0_1 true _ (y3 HR0_0.out HB.out) a9.out (y3 HR0_1.out HB.out) b0.out A4.out).mono ?_);rintro e w' ⟨rfl,hb⟩;refine ⟨_,rfl,?_⟩;replace a0:=ak (blk_below (g:=a3) (o:=.cells #[.slice A0_0 l0_0.length c0_0,.slice A0_1 l0_1.length c0_1] 27 (0,0)) (xb a0.out) hb);replace HB:=ak (below_step z1h_1 hb);(try clear hb);(try clear hb2);(try clear hk);(try clear hi);have a4:=cz20 a0.out;have a5:=cz21 a0.out;have a6:=blk_frozen a0.out 0;have a7:=blk_frozen a0.out 1)|(go_at_call 72;(with_reducible refine (spec_l1In.calls a1 0 (wrap64 ((l0_1.length:Int)-1)) true _ A6.out).mono ?_);rintro e w' ⟨rfl,⟨nd,rfl⟩⟩)|(go_at_call 72;(with_reducible refine (spec_l1In.calls a2 0 (wrap64 ((l0_1.length:Int)-1)) b2 _ A8.out).mono ?_);rintro e w' ⟨rfl,⟨nd,rfl⟩⟩))
   go_ret
   exact ⟨z1h_2,z1h_1⟩
  obtain rfl:=Option.some.inj H
  go_enter Try.func98,Try.ntmps98
  go_wp2_with (first|((with_reducible refine gate_dst (N:=3) rfl ?_);(try (refine gate_guard (by rfl) ?_;dsimp only));refine box_event ?hg (N:=3) ?hd (cs:=#[.slice A0_0 l0_0.length c0_0,.slice A0_1 l0_1.length c0_1]) (t:=27) ?hr ?_;(case hd=>rfl);(case hg=>rfl);(case hr=>first|(go_simp;done)|(go_simp;rfl));intro a3 hg b5 hbox hb;have a0:=ak (hbox);have b1:=ak ((by rw [hg];exact (below_size z1h_0):w.heap.size≤a3));have a8:=ak ((by rw [hg];exact (below_size z1h_0):w.heap.size≤a3));replace HB:=ak (below_step z1h_0 hb);clear hb hbox hg;have a4:=cz20 a0.out;have a5:=cz21 a0.out;have a6:=blk_frozen a0.out 0;have a7:=blk_frozen a0.out 1)|((with_reducible refine gate_callee (f:=30) rfl ?_);refine gl_ (some 8) Try.func30 #[.agg #[.slice A0_0 l0_0.length c0_0,.slice A0_1 l0_1.length c0_1]] ?_;(with_reducible refine (spec_LogicOk.calls k _ _ l0_0 _ _ l0_1 true _ (y3 HR0_0.out HB.out) a9.out (y3 HR0_1.out HB.out) b0.out A4.out).mono ?_);rintro e w' ⟨rfl,hb⟩;refine ⟨_,rfl,?_⟩;replace a0:=ak (blk_below (g:=a3) (o:=.cells #[.slice A0_0 l0_0.length c0_0,.slice A0_1 l0_1.length c0_1] 27 (0,0)) (xb a0.out) hb);replace HB:=ak (below_step z1h_1 hb);(try clear hb);(try clear hb2);(try clear hk);(try clear hi);have a4:=cz20 a0.out;have a5:=cz21 a0.out;have a6:=blk_frozen a0.out 0;have a7:=blk_frozen a0.out 1)|(go_at_call 72;(with_reducible refine (spec_l1In.calls a1 0 (wrap64 ((l0_1.length:Int)-1)) false _ A6.out).mono ?_);rintro e w' ⟨rfl,⟨nd,rfl⟩⟩))
  go_ret
  exact ⟨z1h_2,z1h_1⟩
 obtain rfl:=Option.some.inj H
 go_enter Try.func98,Try.ntmps98
 go_wp2_with (first|((with_reducible refine gate_dst (N:=3) rfl ?_);(try (refine gate_guard (by rfl) ?_;dsimp only));refine box_event ?hg (N:=3) ?hd (cs:=#[.slice A0_0 l0_0.length c0_0,.slice A0_1 l0_1.length c0_1]) (t:=27) ?hr ?_;(case hd=>rfl);(case hg=>rfl);(case hr=>first|(go_simp;done)|(go_simp;rfl));intro a3 hg b6 hbox hb;have a0:=ak (hbox);have b1:=ak ((by rw [hg];exact (below_size z1h_0):w.heap.size≤a3));have a8:=ak ((by rw [hg];exact (below_size z1h_0):w.heap.size≤a3));replace HB:=ak (below_step z1h_0 hb);clear hb hbox hg;have a4:=cz20 a0.out;have a5:=cz21 a0.out;have a6:=blk_frozen a0.out 0;have a7:=blk_frozen a0.out 1)|((with_reducible refine gate_callee (f:=30) rfl ?_);refine gl_ (some 8) Try.func30 #[.agg #[.slice A0_0 l0_0.length c0_0,.slice A0_1 l0_1.length c0_1]] ?_;(with_reducible refine (spec_LogicOk.calls k _ _ l0_0 _ _ l0_1 false _ (y3 HR0_0.out HB.out) a9.out (y3 HR0_1.out HB.out) b0.out A4.out).mono ?_);rintro e w' ⟨rfl,hb⟩;refine ⟨_,rfl,?_⟩;replace a0:=ak (blk_below (g:=a3) (o:=.cells #[.slice A0_0 l0_0.length c0_0,.slice A0_1 l0_1.length c0_1] 27 (0,0)) (xb a0.out) hb);replace HB:=ak (below_step z1h_1 hb);(try clear hb);(try clear hb2);(try clear hk);(try clear hi)))
 go_ret
 exact ⟨z1h_2,z1h_1⟩

end Go.Proofs.Ytacifhahfamipaa.P

namespace Go.Proofs.Ytacifhahfamipaa.P
open Go.RowKit Go.Proofs.YtacifhahfamipaaW.PrintWords Go.Proofs.YtacifhahfamipaaW.PrintLast Go.Proofs.YtacifhahfamipaaW.PrintMore
attribute [local go_sem] max2_int min2_int max_two min_two max_three min_three max_four min_four
set_option linter.unusedVariables false
set_option linter.unusedSimpArgs false
theorem z1p_1 {p:Prop} (h:p:=by repeat (first|(with_reducible first|exact HB.out|apply below_alloc|apply pw_below_drewN|apply below_drew1|refine below_set ?_ a3.out)|exact HB.out)):p:=h
theorem z1p_0 {p:Prop} (h:p:=by repeat (first|(with_reducible first|exact HB.out|apply below_alloc|apply pw_below_drewN|apply below_drew1)|exact HB.out)):p:=h
set_option maxHeartbeats 8000000 in
set_option maxRecDepth 100000 in
theorem spec_NotOf.calls (k:Nat) (A0_0:Option Addr) (c0_0:Nat) (l0_0:List (List Int)) (A0_1:Option Addr) (c0_1:Nat) (l0_1:List Int) (a1:Int) (r:Int) (w:World) (hr0_0:Kd.C (Kd.slice 3 (Kd.int .i64)) w A0_0 l0_0.length l0_0) (hc0_0:l0_0.length≤c0_0) (hr0_1:Kd.C (Kd.int .i64) w A0_1 l0_1.length l0_1) (hc0_1:l0_1.length≤c0_1) (h:spec_NotOf.f k l0_0 l0_1 a1=some r) :
 Calls Try.prog 85 #[.agg #[.slice A0_0 l0_0.length c0_0,.slice A0_1 l0_1.length c0_1],.int .i64 a1] w fun e w'=>e = .returned (.int .i64 r)∧Below w.heap.size w w':=by
 have hu27:=Try.underlying27
 have HR0_0:=ak hr0_0
 have a4:=ak hc0_0
 clear hr0_0 hc0_0
 have HR0_1:=ak hr0_1
 have a5:=ak hc0_1
 clear hr0_1 hc0_1
 have HB:=ak (Below.refl w.heap.size w)
 have H:((spec_l2Both.f k l0_0 l0_1 a1 a1).bind fun b1=>(if b1=true then (if 0≤a1 then (if a1<(l0_1.length:Int) then (some (rd l0_1 a1)) else (none)) else (none)) else (some (-1))))=some r:=h
 clear h
 obtain ⟨b1,A3,H⟩:=bd_ H
 try dsimp only at H
 replace H:=ox_ H
 rcases H with ⟨rfl,H⟩|⟨rfl,H⟩
 ·
  replace H:=od2 H
  obtain ⟨b3,b4,H⟩:=H
  obtain rfl:=Option.some.inj H
  go_enter Try.func85,Try.ntmps85
  go_wp2_with (first|((with_reducible refine gate_dst (N:=2) rfl ?_);refine bx_ (N:=2) (cs:=#[.slice A0_0 l0_0.length c0_0,.slice A0_1 l0_1.length c0_1]) (t:=27) ?_;intro a2 hg w7 hbox hb;have a0:=ak (hbox);have b2:=ak ((by rw [hg];exact (below_size z1p_0):w.heap.size≤a2));have a3:=ak ((by rw [hg];exact (below_size z1p_0):w.heap.size≤a2));replace HB:=ak (below_step z1p_0 hb);clear hb hbox hg;have a6:=cz20 a0.out;have a7:=cz21 a0.out;have a8:=blk_frozen a0.out 0;have a9:=blk_frozen a0.out 1)|((with_reducible refine gate_callee (f:=98) rfl ?_);refine gl_ (some 8) Try.func98 #[.agg #[.slice A0_0 l0_0.length c0_0,.slice A0_1 l0_1.length c0_1],.int .i64 a1,.int .i64 a1] ?_;(with_reducible refine (spec_l2Both.calls k _ _ l0_0 _ _ l0_1 a1 a1 true _ (y3 HR0_0.out HB.out) a4.out (y3 HR0_1.out HB.out) a5.out A3.out).mono ?_);rintro e w' ⟨rfl,hb⟩;refine ⟨_,rfl,?_⟩;replace a0:=ak (blk_below (g:=a2) (o:=.cells #[.slice A0_0 l0_0.length c0_0,.slice A0_1 l0_1.length c0_1] 27 (0,0)) (xb a0.out) hb);replace HB:=ak (below_step z1p_1 hb);(try clear hb);(try clear hb2);(try clear hk);(try clear hi);have a6:=cz20 a0.out;have a7:=cz21 a0.out;have a8:=blk_frozen a0.out 0;have a9:=blk_frozen a0.out 1;have b0:0≤(a1:Int):=oa_;have q780:a1<(l0_1.length:Int):=oa_;obtain ⟨ad780,e780,hx780_0⟩:=Kd.at_int HR0_1.out a1 b0 q780;cases e780;replace hx780_0:=(HB.out.cell (World.block_lt_of_cell? w _ hx780_0)).trans hx780_0;replace b0:=eq_true b0;replace q780:=eq_true q780))
  go_ret
  exact ⟨(by first|rfl|(simp [errW_none,errW_some] <;> rfl)|(simp [*,errW_none,errW_some] <;> rfl)),z1p_1⟩
 obtain rfl:=Option.some.inj H
 go_enter Try.func85,Try.ntmps85
 go_wp2_with (first|((with_reducible refine gate_dst (N:=2) rfl ?_);refine bx_ (N:=2) (cs:=#[.slice A0_0 l0_0.length c0_0,.slice A0_1 l0_1.length c0_1]) (t:=27) ?_;intro a2 hg b5 hbox hb;have a0:=ak (hbox);have b2:=ak ((by rw [hg];exact (below_size z1p_0):w.heap.size≤a2));have a3:=ak ((by rw [hg];exact (below_size z1p_0):w.heap.size≤a2));replace HB:=ak (below_step z1p_0 hb);clear hb hbox hg;have a6:=cz20 a0.out;have a7:=cz21 a0.out;have a8:=blk_frozen a0.out 0;have a9:=blk_frozen a0.out 1)|((with_reducible refine gate_callee (f:=98) rfl ?_);refine gl_ (some 8) Try.func98 #[.agg #[.slice A0_0 l0_0.length c0_0,.slice A0_1 l0_1.length c0_1],.int .i64 a1,.int .i64 a1] ?_;(with_reducible refine (spec_l2Both.calls k _ _ l0_0 _ _ l0_1 a1 a1 false _ (y3 HR0_0.out HB.out) a4.out (y3 HR0_1.out HB.out) a5.out A3.out).mono ?_);rintro e w' ⟨rfl,hb⟩;refine ⟨_,rfl,?_⟩;replace a0:=ak (blk_below (g:=a2) (o:=.cells #[.slice A0_0 l0_0.length c0_0,.slice A0_1 l0_1.length c0_1] 27 (0,0)) (xb a0.out) hb);replace HB:=ak (below_step z1p_1 hb);(try clear hb);(try clear hb2);(try clear hk);(try clear hi)))
 go_ret
 exact ⟨(by first|rfl|(simp [errW_none,errW_some] <;> rfl)|(simp [*,errW_none,errW_some] <;> rfl)),z1p_1⟩

end Go.Proofs.Ytacifhahfamipaa.P

namespace Go.Proofs.Ytacifhahfamipaa.P
open Go.RowKit Go.Proofs.YtacifhahfamipaaW.PrintWords Go.Proofs.YtacifhahfamipaaW.PrintLast Go.Proofs.YtacifhahfamipaaW.PrintMore
attribute [local go_sem] max2_int min2_int max_two min_two max_three min_three max_four min_four
set_option linter.unusedVariables false
set_option linter.unusedSimpArgs false
theorem z1x_1 {p:Prop} (h:p:=by repeat (first|(with_reducible first|exact HB.out|apply below_alloc|apply pw_below_drewN|apply below_drew1)|exact HB.out)):p:=h
theorem z1x_0 {p:Prop} (h:p:=by repeat (first|(with_reducible first|exact HB.out|apply below_alloc|apply pw_below_drewN|apply below_drew1|refine below_set ?_ a6.out)|exact HB.out)):p:=h
set_option maxHeartbeats 8000000 in
set_option maxRecDepth 100000 in
theorem spec_YesOf.calls (k:Nat) (A0_0:Option Addr) (c0_0:Nat) (l0_0:List (List Int)) (A0_1:Option Addr) (c0_1:Nat) (l0_1:List Int) (r:Int) (w:World) (hr0_0:Kd.C (Kd.slice 3 (Kd.int .i64)) w A0_0 l0_0.length l0_0) (hc0_0:l0_0.length≤c0_0) (hr0_1:Kd.C (Kd.int .i64) w A0_1 l0_1.length l0_1) (hc0_1:l0_1.length≤c0_1) (h:spec_YesOf.f k l0_0 l0_1=some r) :
 Calls Try.prog 38 #[.agg #[.slice A0_0 l0_0.length c0_0,.slice A0_1 l0_1.length c0_1]] w fun e w'=>e = .returned (.int .i64 r)∧Below w.heap.size w w':=by
 have hu27:=Try.underlying27
 have HR0_0:=ak hr0_0
 have a3:=ak hc0_0
 clear hr0_0 hc0_0
 have HR0_1:=ak hr0_1
 have a4:=ak hc0_1
 clear hr0_1 hc0_1
 have HB:=ak (Below.refl w.heap.size w)
 have H:((spec_NoOf.f k l0_0 l0_1).bind fun a2=>((spec_NotOf.f k l0_0 l0_1 a2).bind fun a5=>(some a5)))=some r:=h
 clear h
 obtain ⟨a2,A2,H⟩:=bd_ H
 obtain ⟨a5,A3,H⟩:=bd_ H
 try dsimp only at H
 obtain rfl:=Option.some.inj H
 go_enter Try.func38,Try.ntmps38
 try go_wp2_with (first|((with_reducible refine gate_dst (N:=1) rfl ?_);refine bx_ (N:=1) (cs:=#[.slice A0_0 l0_0.length c0_0,.slice A0_1 l0_1.length c0_1]) (t:=27) ?_;intro a1 hg w4 hbox hb;have a0:=ak (hbox);have a7:=ak ((by rw [hg];exact (below_size z1x_1):w.heap.size≤a1));have a6:=ak ((by rw [hg];exact (below_size z1x_1):w.heap.size≤a1));replace HB:=ak (below_step z1x_1 hb);clear hb hbox hg))
 replace a0:=ak (blk_drew a0.out)
 replace HB:=ak (below_drew1 HB.out)
 refine start_ (n:=5) (S:=fun w'=>w'.cell? ⟨a1,0,none⟩=some (.slice A0_0 l0_0.length c0_0)∧w'.cell? ⟨a1,1,none⟩=some (.slice A0_1 l0_1.length c0_1)) (ds:=[]) (bA 5 0) (by kernel_rfl) rfl rfl ⟨(blk_cell a0.out 0).trans rfl,(blk_cell a0.out 1).trans rfl⟩ (fun hHeld=>?_)
 generalize w4.drew=w5 at a0 HB hHeld ⊢
 refine tk_ (i:=0) (N:=some 3) (bA 5 1) ?_
 refine tk_ (i:=1) (N:=some 4) (bA 5 3) ?_
 refine one_ (i:=2) (N:=some 5) (bA 5 7) rfl rfl (by kernel_rfl) (by decide) (fun K hK=>?_)
 refine ge_ Try.func37 #[.agg #[.slice A0_0 l0_0.length c0_0,.slice A0_1 l0_1.length c0_1]] ?_
 with_reducible refine (spec_NoOf.calls k _ _ l0_0 _ _ l0_1 a2 _ ?side1 ?side2 ?side3 ?side4 A2.out).mono ?_
 (case side1=>repeat (first|exact (Kd.C_below HR0_0.out HB.out)|(with_reducible refine Kd.C_alloc ?_ _)|(with_reducible refine Kd.C_drewN ?_ _)|(with_reducible refine Kd.C_drew ?_)))
 (case side2=>exact a3.out)
 (case side3=>repeat (first|exact (Kd.C_below HR0_1.out HB.out)|(with_reducible refine Kd.C_alloc ?_ _)|(with_reducible refine Kd.C_drewN ?_ _)|(with_reducible refine Kd.C_drew ?_)))
 (case side4=>exact a4.out)
 rintro e w' ⟨rfl,hb⟩
 refine ⟨_,rfl,?_⟩
 replace a0:=ak (blk_below (g:=a1) (o:=.cells #[.slice A0_0 l0_0.length c0_0,.slice A0_1 l0_1.length c0_1] 27 (0,0)) (xb a0.out) hb)
 replace HB:=ak (below_step z1x_0 hb)
 (try clear hb)
 (try clear hb2)
 (try clear hk)
 (try clear hi)
 refine hK.out _ _ ⟨(blk_cell a0.out 0).trans rfl,(blk_cell a0.out 1).trans rfl⟩ (fun hHeld=>?_)
 clear hK K
 refine no_ (N:=some 5) ?_
 refine one_ (i:=3) (N:=some 6) (bA 5 15) rfl rfl (by kernel_rfl) (by decide) (fun K hK=>?_)
 refine ge_ Try.func85 #[.agg #[.slice A0_0 l0_0.length c0_0,.slice A0_1 l0_1.length c0_1],.int .i64 a2] ?_
 with_reducible refine (spec_NotOf.calls k _ _ l0_0 _ _ l0_1 a2 a5 _ ?side1 ?side2 ?side3 ?side4 A3.out).mono ?_
 (case side1=>repeat (first|exact (Kd.C_below HR0_0.out HB.out)|(with_reducible refine Kd.C_alloc ?_ _)|(with_reducible refine Kd.C_drewN ?_ _)|(with_reducible refine Kd.C_drew ?_)))
 (case side2=>exact a3.out)
 (case side3=>repeat (first|exact (Kd.C_below HR0_1.out HB.out)|(with_reducible refine Kd.C_alloc ?_ _)|(with_reducible refine Kd.C_drewN ?_ _)|(with_reducible refine Kd.C_drew ?_)))
 (case side4=>exact a4.out)
 rintro e w' ⟨rfl,hb⟩
 refine ⟨_,rfl,?_⟩
 replace a0:=ak (blk_below (g:=a1) (o:=.cells #[.slice A0_0 l0_0.length c0_0,.slice A0_1 l0_1.length c0_1] 27 (0,0)) (xb a0.out) hb)
 replace HB:=ak (below_step z1x_0 hb)
 (try clear hb)
 (try clear hb2)
 (try clear hk)
 (try clear hi)
 refine hK.out _ _ ⟨(blk_cell a0.out 0).trans rfl,(blk_cell a0.out 1).trans rfl⟩ (fun hHeld=>?_)
 clear hK K
 refine no_ (N:=some 6) ?_
 refine pu_ (i:=4) (N:=some 2) (bA 5 31) ?_
 refine done_ (by kernel_rfl) ?_
 try go_wp2
 go_ret
 exact ⟨(by first|rfl|(simp [errW_none,errW_some] <;> rfl)|(simp [*,errW_none,errW_some] <;> rfl)),z1x_0⟩

end Go.Proofs.Ytacifhahfamipaa.P

namespace Go.Proofs.Ytacifhahfamipaa.P
open Go.RowKit Go.Proofs.YtacifhahfamipaaW.PrintWords Go.Proofs.YtacifhahfamipaaW.PrintLast Go.Proofs.YtacifhahfamipaaW.PrintMore
attribute [local go_sem] max2_int min2_int max_two min_two max_three min_three max_four min_four
set_option linter.unusedVariables false
set_option linter.unusedSimpArgs false
theorem z1i_2 {p:Prop} (h:p:=by first|rfl|(simp;done)|(simp [*];done)):p:=h
theorem z1i_1 {p:Prop} (h:p:=by repeat (first|(with_reducible first|exact HB.out|apply below_alloc|apply pw_below_drewN|apply below_drew1)|exact HB.out)):p:=h
theorem z1i_0 {p:Prop} (h:p:=by repeat (first|(with_reducible first|exact HB.out|apply below_alloc|apply pw_below_drewN|apply below_drew1|refine below_set ?_ b3.out)|exact HB.out)):p:=h
set_option maxHeartbeats 8000000 in
set_option maxRecDepth 100000 in
theorem spec_l3Inner.calls (k:Nat) (A0_0:Option Addr) (c0_0:Nat) (l0_0:List (List Int)) (A0_1:Option Addr) (c0_1:Nat) (l0_1:List Int) (r:List Int) (w:World) (hr0_0:Kd.C (Kd.slice 3 (Kd.int .i64)) w A0_0 l0_0.length l0_0) (hc0_0:l0_0.length≤c0_0) (hr0_1:Kd.C (Kd.int .i64) w A0_1 l0_1.length l0_1) (hc0_1:l0_1.length≤c0_1) (h:spec_l3Inner.f k l0_0 l0_1=some r) :
 Calls Try.prog 99 #[.agg #[.slice A0_0 l0_0.length c0_0,.slice A0_1 l0_1.length c0_1]] w fun e w'=>∃ v0_:Value,e = .returned (v0_)∧Kd.R (Kd.int .i64) 3 w' w.heap.size (fun _=>True) v0_ r∧Below w.heap.size w w':=by
 have hu27:=Try.underlying27
 have HR0_0:=ak hr0_0
 have a4:=ak hc0_0
 clear hr0_0 hc0_0
 have HR0_1:=ak hr0_1
 have a5:=ak hc0_1
 clear hr0_1 hc0_1
 have HB:=ak (Below.refl w.heap.size w)
 have H:(spec_l3Inner.l0 k (([]:List Int)) 0 l0_0 l0_1)=some r:=h
 clear h
 obtain ⟨y1151,hy1151⟩ : ∃ y_:List Int,y_=(([]:List Int)):=⟨_,rfl⟩
 replace H:(spec_l3Inner.l0 k y1151 0 l0_0 l0_1)=some r:=by first|(rw [hy1151];with_reducible exact H)|(have H2_:=(Option.bind_some _ _).symm.trans H;rw [hy1151];with_reducible exact H2_)|(have H2_:=(Option.bind_some _ _).symm.trans H;with_reducible exact H2_)|with_reducible exact H|(rw [hy1151];exact H)|exact H
 have Ny1151:=ak hy1151
 clear hy1151
 have H':=ak H
 clear H
 go_enter Try.func99,Try.ntmps99
 go_wp2_with (first|((with_reducible refine gate_dst (N:=1) rfl ?_);refine bx_ (N:=1) (cs:=#[.slice A0_0 l0_0.length c0_0,.slice A0_1 l0_1.length c0_1]) (t:=27) ?_;intro a1 hg w2 hbox hb;have a0:=ak (hbox);have b8:=ak ((by rw [hg];exact (below_size z1i_1):w.heap.size≤a1));have b3:=ak ((by rw [hg];exact (below_size z1i_1):w.heap.size≤a1));replace HB:=ak (below_step z1i_1 hb);clear hb hbox hg)|((with_reducible refine gate_dst (N:=5) rfl ?_);refine Kd.R_lit (Kd.int .i64) _ 3 ?hg (N:=5) ?hd (xs:=([]:List Int)) (inner:=[]) (ok:=fun _=>True) (okp:=fun _=>True) ?hr ?hp (fun _ hk=>hk) trivial (Below.refl _ _) (Nat.le_refl _) (by simp) ?_;(case hd=>rfl);(case hg=>rfl);(case hr=>first|(go_simp;done)|(go_simp;rfl));(case hp=>exact (Reps.none _ _));intro d2 w3 ho4 hb hg_ hnew_;clear hg_ hnew_;(first|rw [← Ny1151.out] at ho4|(simp only [Int.reduceToNat] at ho4;rw [← Ny1151.out] at ho4));have b4:=ak (Kd.R_lower ho4 (below_size z1i_0));replace a0:=ak (blk_below (g:=a1) (o:=.cells #[.slice A0_0 l0_0.length c0_0,.slice A0_1 l0_1.length c0_1] 27 (0,0)) (xb a0.out) hb);replace HB:=ak (below_step z1i_0 hb);clear hb ho4))
 go_loopg [3,4] k (fun kq v3 v4 w'=>∃ (b0:List Int) (a3:Int),v4 = .int .i64 a3∧Aside0 (spec_l3Inner.l0 kq b0 a3 l0_0 l0_1=some r)∧Aside0 (kq≤k)∧Aside0 (Kd.R (Kd.int .i64) 3 w' w.heap.size (fun _=>True) v3 b0)∧Aside0 (w'.heap[a1]?=some (.cells #[(.slice A0_0 l0_0.length c0_0),(.slice A0_1 l0_1.length c0_1)] 27 (0,0)))∧Aside0 (Below w.heap.size w w'))
 case atStart=>exact ⟨(y1151),(0),z1i_2,H',⟨Nat.le_refl _⟩,⟨(xR b4.out)⟩,⟨(xb a0.out)⟩,⟨z1i_0⟩⟩
 case round =>
  clear H'
  obtain ⟨b0,a3,rfl,HA,HK1,a2,a0,HB⟩:=hrel
  cases gk with
  | zero=>exact absurd HA.out (by simp [spec_l3Inner.l0])
  | succ k1 =>
   have H:=HA.out
   clear HA
   simp only [spec_l3Inner.l0] at H
   replace H:=os_ H
   rcases H with ⟨b9,H⟩|⟨b9,H⟩
   ·
    obtain ⟨b1,A6,H⟩:=bd_ H
    try dsimp only at H
    replace H:=oe2 H
    rcases H with ⟨⟨-,d0,d1⟩,H⟩|⟨⟨c7,d0,d1⟩,H⟩
    ·
     have H':=ak H
     clear H
     have a6:=cz20 a0.out
     have a7:=cz21 a0.out
     have a8:=blk_frozen a0.out 0
     have a9:=blk_frozen a0.out 1
     go_wp2_with (first|((with_reducible refine gate_callee (f:=37) rfl ?_);refine gl_ (some 15) Try.func37 #[.agg #[.slice A0_0 l0_0.length c0_0,.slice A0_1 l0_1.length c0_1]] ?_;(with_reducible refine (spec_NoOf.calls k1 _ _ l0_0 _ _ l0_1 b1 _ (y3 HR0_0.out HB.out) a4.out (y3 HR0_1.out HB.out) a5.out A6.out).mono ?_);rintro e w' ⟨rfl,hb⟩;refine ⟨_,rfl,?_⟩;replace a2:=ak (Kd.R_below (xR a2.out) hb);replace a0:=ak (blk_below (g:=a1) (o:=.cells #[.slice A0_0 l0_0.length c0_0,.slice A0_1 l0_1.length c0_1] 27 (0,0)) (xb a0.out) hb);replace HB:=ak (below_step z1i_0 hb);(try clear hb);(try clear hb2);(try clear hk);(try clear hi)))
     go_roundg k1
     case measure=>have:=HK1.out;omega
     case rel=>exact ⟨(b0),(wrap64 (a3+1)),z1i_2,H',⟨(by have:=HK1.out;omega)⟩,⟨(xR a2.out)⟩,⟨(xb a0.out)⟩,⟨z1i_0⟩⟩
    obtain ⟨b2,d3,H⟩:=bd_ H
    try dsimp only at H
    replace H:=oe2 H
    rcases H with ⟨⟨-,b6,b7⟩,H⟩|⟨⟨d6,b6,b7⟩,H⟩
    ·
     have H':=ak H
     clear H
     have a6:=cz20 a0.out
     have a7:=cz21 a0.out
     have a8:=blk_frozen a0.out 0
     have a9:=blk_frozen a0.out 1
     go_wp2_with (first|((with_reducible refine gate_callee (f:=37) rfl ?_);refine gl_ (some 15) Try.func37 #[.agg #[.slice A0_0 l0_0.length c0_0,.slice A0_1 l0_1.length c0_1]] ?_;(with_reducible refine (spec_NoOf.calls k1 _ _ l0_0 _ _ l0_1 b1 _ (y3 HR0_0.out HB.out) a4.out (y3 HR0_1.out HB.out) a5.out A6.out).mono ?_);rintro e w' ⟨rfl,hb⟩;refine ⟨_,rfl,?_⟩;replace a2:=ak (Kd.R_below (xR a2.out) hb);replace a0:=ak (blk_below (g:=a1) (o:=.cells #[.slice A0_0 l0_0.length c0_0,.slice A0_1 l0_1.length c0_1] 27 (0,0)) (xb a0.out) hb);replace HB:=ak (below_step z1i_0 hb);(try clear hb);(try clear hb2);(try clear hk);(try clear hi);have a6:=cz20 a0.out;have a7:=cz21 a0.out;have a8:=blk_frozen a0.out 0;have a9:=blk_frozen a0.out 1)|(go_at_call 38;(with_reducible refine (spec_YesOf.calls k1 _ _ l0_0 _ _ l0_1 b2 _ (y3 HR0_0.out HB.out) a4.out (y3 HR0_1.out HB.out) a5.out d3.out).mono ?_);rintro e w' ⟨rfl,hb⟩;replace a2:=ak (Kd.R_below (xR a2.out) hb);replace a0:=ak (blk_below (g:=a1) (o:=.cells #[.slice A0_0 l0_0.length c0_0,.slice A0_1 l0_1.length c0_1] 27 (0,0)) (xb a0.out) hb);replace HB:=ak (below_step z1i_0 hb);(try clear hb);(try clear hb2);(try clear hk);(try clear hi)))
     go_roundg k1
     case measure=>have:=HK1.out;omega
     case rel=>exact ⟨(b0),(wrap64 (a3+1)),z1i_2,H',⟨(by have:=HK1.out;omega)⟩,⟨(xR a2.out)⟩,⟨(xb a0.out)⟩,⟨z1i_0⟩⟩
    replace H:=ok_ H
    obtain ⟨d4,H⟩:=H
    have LMc16:=ak d4
    clear d4
    obtain ⟨y1156,hy1156⟩ : ∃ y_:List Int,y_=(b0 ++ [a3]):=⟨_,rfl⟩
    replace H:(spec_l3Inner.l0 k1 y1156 (wrap64 (a3+1)) l0_0 l0_1)=some r:=by first|(rw [hy1156];with_reducible exact H)|(have H2_:=(Option.bind_some _ _).symm.trans H;rw [hy1156];with_reducible exact H2_)|(have H2_:=(Option.bind_some _ _).symm.trans H;with_reducible exact H2_)|with_reducible exact H|(rw [hy1156];exact H)|exact H
    have Ny1156:=ak hy1156
    clear hy1156
    have H':=ak H
    clear H
    have a6:=cz20 a0.out
    have a7:=cz21 a0.out
    have a8:=blk_frozen a0.out 0
    have a9:=blk_frozen a0.out 1
    go_wp2_with (first|((with_reducible refine gate_callee (f:=37) rfl ?_);refine gl_ (some 15) Try.func37 #[.agg #[.slice A0_0 l0_0.length c0_0,.slice A0_1 l0_1.length c0_1]] ?_;(with_reducible refine (spec_NoOf.calls k1 _ _ l0_0 _ _ l0_1 b1 _ (y3 HR0_0.out HB.out) a4.out (y3 HR0_1.out HB.out) a5.out A6.out).mono ?_);rintro e w' ⟨rfl,hb⟩;refine ⟨_,rfl,?_⟩;replace a2:=ak (Kd.R_below (xR a2.out) hb);replace a0:=ak (blk_below (g:=a1) (o:=.cells #[.slice A0_0 l0_0.length c0_0,.slice A0_1 l0_1.length c0_1] 27 (0,0)) (xb a0.out) hb);replace HB:=ak (below_step z1i_0 hb);(try clear hb);(try clear hb2);(try clear hk);(try clear hi);have a6:=cz20 a0.out;have a7:=cz21 a0.out;have a8:=blk_frozen a0.out 0;have a9:=blk_frozen a0.out 1)|(go_at_call 38;(with_reducible refine (spec_YesOf.calls k1 _ _ l0_0 _ _ l0_1 b2 _ (y3 HR0_0.out HB.out) a4.out (y3 HR0_1.out HB.out) a5.out d3.out).mono ?_);rintro e w' ⟨rfl,hb⟩;replace a2:=ak (Kd.R_below (xR a2.out) hb);replace a0:=ak (blk_below (g:=a1) (o:=.cells #[.slice A0_0 l0_0.length c0_0,.slice A0_1 l0_1.length c0_1] 27 (0,0)) (xb a0.out) hb);replace HB:=ak (below_step z1i_0 hb);(try clear hb);(try clear hb2);(try clear hk);(try clear hi))|((with_reducible refine gate_builtin (b:=.append) (xs:=#[.tmp 23,.tmp 25]) rfl ?_);at_builtin;refine Kd.R_append (Kd.int .i64) (w0:=w) w.heap.size rfl (.tmp 23) (.tmp 25) 25 3 (.int .i64 0) 8 rfl Try.underlying25 info3 rfl (by decide) (by omega) u3 b0 a3 [.int .i64 a3] (fun _=>True) (fun _=>False) rfl rfl ?aP (fun _ hk=>hk.elim) ?aF ?aO ?aB ?aS ?aL ?_;(case aP=>exact rfl);(case aB=>exact z1i_0);(case aF=>exact (fun _ _=>trivial));(case aO=>exact (xR a2.out));(case aS=>exact (below_size z1i_0));(case aL=>have:=LMc16.out;omega);intro d5 d7 ho hb hg hat;rw [← Ny1156.out] at ho;replace a0:=ak (blk_grown (g:=a1) (o:=.cells #[.slice A0_0 l0_0.length c0_0,.slice A0_1 l0_1.length c0_1] 27 (0,0)) (xb a0.out) hg (Kd.R_ne a2.out a0.out (by decide)));replace HB:=ak (hb);have b5:=ak (ho);clear a2;clear ho hb hg hat))
    go_roundg k1
    case measure=>have:=HK1.out;omega
    case rel=>exact ⟨(y1156),(wrap64 (a3+1)),z1i_2,H',⟨(by have:=HK1.out;omega)⟩,⟨(xR b5.out)⟩,⟨(xb a0.out)⟩,⟨z1i_0⟩⟩
   obtain rfl:=Option.some.inj H
   have a6:=cz20 a0.out
   have a7:=cz21 a0.out
   have a8:=blk_frozen a0.out 0
   have a9:=blk_frozen a0.out 1
   go_wp2
   go_ret
   exact ⟨_,(by first|rfl|(simp [errW_none,errW_some] <;> rfl)|(simp [*,errW_none,errW_some] <;> rfl)),(xR a2.out),z1i_0⟩

end Go.Proofs.Ytacifhahfamipaa.P
