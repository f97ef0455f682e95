/- 2 texts of this seat joined: walks, and the laws of what they compute. -/
import Derived.Test.YtacifhahfamipaaPk2
import Derived.Test.YtacifhahfamipaaPk3
import Derived.Test.YtacifhahfamipaaPk6
namespace Go.Proofs.Ytacifhahfamipaa.P
open Go.RowKit Go.Proofs.YtacifhahfamipaaW.PrintWords Go.Proofs.YtacifhahfamipaaW.PrintLast Go.Proofs.YtacifhahfamipaaW.PrintMore
attribute [local go_sem] max2_int min2_int max_two min_two max_three min_three max_four min_four
set_option linter.unusedVariables false
set_option linter.unusedSimpArgs false
def spec_l20Logic.T39:Bool × List (List Nat × List Nat):=(true,[([],[]),([0],[0]),([],[]),([],[]),([3],[3]),([4],[4]),([2,5],[2,5]),([],[]),([],[]),([8],[8]),([9],[9]),([10],[10]),([7,11,6],[7,11]),([1,6,0,1,2,3,4,5,6,7,8,9,10,11,12],[1,6]),([13,12,12,0,1,2,3,4,5,6,7,8,9,10,11,12],[12,13])])
def spec_l20Logic.B39:List Nat:=[0,1,0,0,8,24,60,0,0,256,768,1792,4092,8191,16383]
theorem spec_l20Logic.tab39:rtab .any (opsOf Try.f73 39)=spec_l20Logic.T39:=by kernel_rfl
theorem spec_l20Logic.bits39:waitsOk spec_l20Logic.T39.2 spec_l20Logic.B39=true:=by kernel_rfl
theorem z19_12 {p:Prop} (h:p:=by first|rfl|(simp;done)|(simp [*];done)):p:=h
theorem z19_11 {p:Prop} (h:p:=by first|rfl|(simp [errW_none,errW_some] <;> rfl)|(simp [*,errW_none,errW_some] <;> rfl)):p:=h
theorem z19_10 {p:Prop} (h:p:=by (with_reducible repeat (first|apply Kd.Q_alloc|apply Kd.Q_drewN|apply Kd.Q_drew));exact Kd.Q_mono a2.out (fun _ hk=>⟨trivial,hk⟩)):p:=h
theorem z19_9 {p:Prop} (h:p:=by decide):p:=h
theorem z19_8 {p:Prop} (h:p:=by repeat (first|(with_reducible first|exact HK.out|apply KeepBut.set_|apply keep_drewN|apply keep_drew|apply keep_alloc)|exact HK.out)):p:=h
theorem z19_7 {p:Prop} (h:p:=by have:=o7.out;have:=G8.out;first|omega|exact Nat.le_refl _):p:=h
theorem z19_6 {p:Prop} (h:p:=by repeat (first|(with_reducible first|exact HK.out|apply KeepBut.set_|apply keep_drewN|apply keep_drew|apply keep_alloc|refine keep_far ?_ m2.out _)|exact HK.out)):p:=h
theorem z19_5 {p:Prop} (h:p:=by (with_reducible repeat (first|apply Kd.Q_alloc|apply Kd.Q_drewN|apply Kd.Q_drew));exact Kd.Q_mono a2.out (fun _ hk=>hk.2)):p:=h
theorem z19_4 {p:Prop} (h:p:=by (with_reducible repeat (first|apply Kd.S_alloc|apply Kd.S_drewN|apply Kd.S_drew));exact Kd.S_mono a3.out (fun _ hk=>⟨hk.2,hk.1⟩)):p:=h
theorem z19_3 {p:Prop} (h:p:=by (with_reducible repeat (first|refine blk_drewN ?_ _|refine blk_drew ?_|refine blk_alloc ?_ _));refine blk_far ?_ b3.out _;(with_reducible repeat (first|refine blk_drewN ?_ _|refine blk_drew ?_|refine blk_alloc ?_ _));refine blk_far ?_ b3.out _;(with_reducible repeat (first|refine blk_drewN ?_ _|refine blk_drew ?_|refine blk_alloc ?_ _));exact a4.out):p:=h
theorem z19_2 {p:Prop} (h:p:=by repeat (first|(with_reducible first|exact b4.out|apply IsS80.alloc|apply IsS80.drewN|apply IsS80.drew|apply IsS80.set_1|refine IsS80.far ?_ b1.out _|refine IsS80.far ?_ a8.out _)|exact b4.out)):p:=h
theorem z19_1 {p:Prop} (h:p:=by repeat (first|(with_reducible first|exact HB.out|apply below_alloc|apply pw_below_drewN|apply below_drew1|refine below_set ?_ (IsS80.ge b4.out)|refine below_set ?_ h6.out|refine below_set ?_ j4.out)|exact HB.out)):p:=h
theorem z19_0 {p:Prop} (h:p:=by repeat (first|(with_reducible first|exact HK.out|apply KeepBut.set_|apply keep_drewN|apply keep_drew|apply keep_alloc|refine keep_far ?_ m2.out _|refine keep_far ?_ s2.out _)|exact HK.out)):p:=h
set_option maxHeartbeats 8000000 in
set_option maxRecDepth 100000 in
theorem spec_l20Logic.calls (k:Nat) (g:Nat) (s0_0:List Int) (s0_1:Int) (a1:Int) (r1:List (List Int)) (r2:List Int) (r3:Int) (w0 w:World) (hI:IsS80 w0 w g s0_0 s0_1) (hB:Below w0.heap.size w0 w) (h:spec_l20Logic.f k s0_0 s0_1 a1=some (r1,r2,r3)) :
 Calls Try.prog 73 #[.pointer (some ⟨g,0,none⟩),.int .i64 a1] w fun e w'=>∃ v0_ v1_:Value,e = .returned (.agg #[v0_,v1_])∧Kd.S (Kd.slice 3 (Kd.int .i64)) 25 w' w.heap.size (fun k_=>some k_≠(v1_:Value).ownBlock) v0_ r1∧Kd.Q (Kd.int .i64) 3 w' w.heap.size (fun _=>True) v1_ r2∧IsS80 w0 w' g s0_0 r3∧Below w0.heap.size w0 w'∧KeepBut w w' g none:=by
 have hu27:=Try.underlying27
 have b4:=ak hI
 have HK:=ak (KeepBut.refl w g none)
 have HL:=ak hB.size
 clear hI
 have HW0:=ak hB.size
 have HB:=ak hB
 clear hB
 have H:((spec_l20Rd_pick.f k s0_0 s0_1 9).bind fun g2=>(if g2.1=0 then (spec_l20Logic.j0 k a1 g2.1 (g2.1==0) s0_0 g2.2) else (spec_l20Logic.j0 k a1 g2.1 (g2.1==1) s0_0 g2.2)))=some (r1,r2,r3):=h
 clear h
 obtain ⟨⟨i6,g0⟩,A3,H⟩:=bd_ H
 try dsimp only at H
 have G9:=ak H
 clear H
 go_enter Try.func73,Try.ntmps73
 go_upto_block 0 with (first|((with_reducible refine gate_dst (N:=4) rfl ?_);refine bx_ (N:=4) (cs:=#[.slice none 0 0,.slice none 0 0]) (t:=27) ?_;intro b0 hg w5 hbox hb;replace HB:=ak (below_step (by repeat (first|(with_reducible first|exact HB.out|apply below_alloc|apply pw_below_drewN|apply below_drew1|refine below_set ?_ (IsS80.ge b4.out))|exact HB.out)) hb);have a4:=ak (hbox);have m2:=ak ((by rw [hg];exact (keep_size (w:=w) (g:=g) (row:=none) z19_8):w.heap.size≤b0));have h6:=ak ((Nat.le_trans HW0.out (by rw [hg];exact (keep_size (w:=w) (g:=g) (row:=none) z19_8):w.heap.size≤b0):w0.heap.size≤b0));replace HK:=ak (KeepBut.trans z19_8 (KeepBut.of_below hb g none) (.inl rfl));have b1:=ak ((by rw [hg];exact Nat.ne_of_lt (IsS80.lt (show IsS80 w0 _ g s0_0 s0_1 from by repeat (first|(with_reducible first|exact b4.out|apply IsS80.alloc|apply IsS80.drewN|apply IsS80.drew|apply IsS80.set_1)|exact b4.out))):g≠b0));have b7:=ak ((by rw [hg];exact Nat.ne_of_gt (IsS80.lt (show IsS80 w0 _ g s0_0 s0_1 from by repeat (first|(with_reducible first|exact b4.out|apply IsS80.alloc|apply IsS80.drewN|apply IsS80.drew|apply IsS80.set_1)|exact b4.out))):b0≠g));replace b4:=ak (IsS80.below (by repeat (first|(with_reducible first|exact b4.out|apply IsS80.alloc|apply IsS80.drewN|apply IsS80.drew|apply IsS80.set_1)|exact b4.out)) hb);clear hb hbox hg)|((with_reducible refine gate_dst (N:=5) rfl ?_);refine bx_ (N:=5) (cs:=#[.slice none 0 0,.slice none 0 0]) (t:=27) ?_;intro a7 hg w6 hbox hb;replace HB:=ak (below_step (by repeat (first|(with_reducible first|exact HB.out|apply below_alloc|apply pw_below_drewN|apply below_drew1|refine below_set ?_ (IsS80.ge b4.out)|refine below_set ?_ h6.out)|exact HB.out)) hb);have a0:=ak (hbox);have s2:=ak ((by rw [hg];exact (keep_size (w:=w) (g:=g) (row:=none) z19_6):w.heap.size≤a7));have j4:=ak ((Nat.le_trans HW0.out (by rw [hg];exact (keep_size (w:=w) (g:=g) (row:=none) z19_6):w.heap.size≤a7):w0.heap.size≤a7));replace HK:=ak (KeepBut.trans z19_6 (KeepBut.of_below hb g none) (.inl rfl));have b3:=ak ((by rw [hg];exact Nat.ne_of_lt (blk_lt (g:=b0) (o:=.cells #[.slice none 0 0,.slice none 0 0] 27 (0,0)) (xb a4.out)):b0≠a7));have b6:=ak ((by rw [hg];exact Nat.ne_of_gt (blk_lt (g:=b0) (o:=.cells #[.slice none 0 0,.slice none 0 0] 27 (0,0)) (xb a4.out)):a7≠b0));replace a4:=ak (blk_below (g:=b0) (o:=.cells #[.slice none 0 0,.slice none 0 0] 27 (0,0)) (xb a4.out) hb);have a8:=ak ((by rw [hg];exact Nat.ne_of_lt (IsS80.lt (show IsS80 w0 _ g s0_0 s0_1 from by repeat (first|(with_reducible first|exact b4.out|apply IsS80.alloc|apply IsS80.drewN|apply IsS80.drew|apply IsS80.set_1|refine IsS80.far ?_ b1.out _)|exact b4.out))):g≠a7));have b2:=ak ((by rw [hg];exact Nat.ne_of_gt (IsS80.lt (show IsS80 w0 _ g s0_0 s0_1 from by repeat (first|(with_reducible first|exact b4.out|apply IsS80.alloc|apply IsS80.drewN|apply IsS80.drew|apply IsS80.set_1|refine IsS80.far ?_ b1.out _)|exact b4.out))):a7≠g));replace b4:=ak (IsS80.below (by repeat (first|(with_reducible first|exact b4.out|apply IsS80.alloc|apply IsS80.drewN|apply IsS80.drew|apply IsS80.set_1|refine IsS80.far ?_ b1.out _)|exact b4.out)) hb);clear hb hbox hg;have Z1:=b6.out;have Z2:=b3.out;have Z3:=b2.out;have Z4:=a8.out;have b8:=cz20 a0.out;have b9:=cz21 a0.out;have d0:=blk_frozen a0.out 0;have d1:=blk_frozen a0.out 1)|((with_reducible refine gate_callee (f:=62) rfl ?_);refine gl_ (some 12) Try.func62 #[.pointer (some ⟨g,0,none⟩),.int .i64 9] ?_;(with_reducible refine (spec_l20Rd_pick.calls k g s0_0 s0_1 9 i6 g0 w0 _ z19_2 z19_1 A3.out).mono ?_);rintro e w' ⟨rfl,hi,hb,hk⟩;refine ⟨_,rfl,?_⟩;replace a4:=ak (KeepBut.blk hk (g':=b0) (o:=.cells #[.slice none 0 0,.slice none 0 0] 27 (0,0)) z19_3 b7.out (by simp));replace a0:=ak (KeepBut.blk hk (g':=a7) (o:=.cells #[.slice none 0 0,.slice none 0 0] 27 (0,0)) (by (with_reducible repeat (first|refine blk_drewN ?_ _|refine blk_drew ?_|refine blk_alloc ?_ _));refine blk_put (cs:=#[.slice none 0 0,.slice none 0 0]) ?_ 1 _ rfl;(with_reducible repeat (first|refine blk_drewN ?_ _|refine blk_drew ?_|refine blk_alloc ?_ _));refine blk_put (cs:=#[.slice none 0 0,.slice none 0 0]) ?_ 0 _ rfl;(with_reducible repeat (first|refine blk_drewN ?_ _|refine blk_drew ?_|refine blk_alloc ?_ _));exact a0.out) b2.out (by simp));replace HK:=ak (KeepBut.trans z19_0 hk (.inl rfl));replace HB:=ak (hb);replace b4:=ak (hi);(try clear hb);(try clear hb2);(try clear hk);(try clear hi)))
 (try simp only [Act.put,List.setIfInBounds_toArray,List.set_cons_zero,List.set_cons_succ])
 go_cut [] (fun wc=>∃ (kq:Nat) (f2:Int) (b5:List (List Int)) (e0:List Int) (u426000:Value) (u426001:Value),Aside0 (spec_l20Logic.j2 kq a1 s0_0 f2 b5 e0=some (r1,r2,r3))∧Aside0 (kq≤k)∧Aside0 (Kd.S (Kd.slice 3 (Kd.int .i64)) 25 wc w.heap.size (fun k_=>some k_≠(u426001:Value).ownBlock) u426000 b5)∧Aside0 (Kd.Q (Kd.int .i64) 3 wc w.heap.size (fun _=>True) u426001 e0)∧Aside0 (wc.heap[b0]?=some (.cells #[(.slice none 0 0),(.slice none 0 0)] 27 (0,0)))∧Aside0 (wc.heap[a7]?=some (.cells #[u426000,u426001] 27 (0,0)))∧Aside0 (IsS80 w0 wc g s0_0 f2)∧Aside0 (KeepBut w wc g none)∧Aside0 (Below w0.heap.size w0 wc))
 case first =>
  have H:=G9.out
  clear G9
  have x3:=ak H
  clear H
  go_upto_if 14 with (fail)
  go_cut [14] (fun Z5 wc=>∃ (kq:Nat) (i7:Bool),Z5 = .bool i7∧Aside0 (spec_l20Logic.j0 kq a1 i6 i7 s0_0 g0=some (r1,r2,r3))∧Aside0 (kq≤k)∧Aside0 (wc.heap[b0]?=some (.cells #[(.slice none 0 0),(.slice none 0 0)] 27 (0,0)))∧Aside0 (wc.heap[a7]?=some (.cells #[(.slice none 0 0),(.slice none 0 0)] 27 (0,0)))∧Aside0 (IsS80 w0 wc g s0_0 g0)∧Aside0 (KeepBut w wc g none)∧Aside0 (Below w0.heap.size w0 wc))
  case first =>
   have H:=x3.out
   clear x3
   replace H:=oe2 H
   rcases H with ⟨⟨-,h7,D1⟩,H⟩|⟨⟨c12,h7,D1⟩,H⟩
   ·
    (first|rw [h7]|(simp only [i64_w,i32_w];rw [h7])|skip)
    have H':=ak H
    clear H
    go_wp2
    go_meet
    case rel=>exact ⟨_,((i6==0)),z19_12,H',⟨(by first|omega|exact Nat.le_refl _)⟩,⟨(xb a4.out)⟩,⟨(xb a0.out)⟩,⟨z19_2⟩,⟨z19_0⟩,⟨z19_1⟩⟩
   (first|rw [h7]|(simp only [i64_w,i32_w];rw [h7])|skip)
   have H':=ak H
   clear H
   go_wp2
   go_meet
   case rel=>exact ⟨_,((i6==1)),z19_12,H',⟨(by first|omega|exact Nat.le_refl _)⟩,⟨(xb a4.out)⟩,⟨(xb a0.out)⟩,⟨z19_2⟩,⟨z19_0⟩,⟨z19_1⟩⟩
  case rest =>
   clear x3
   try clear b8
   try clear b9
   try clear d0
   try clear d1
   obtain ⟨kq,i7,rfl,HA,o7,a4,a0,b4,HK,HB⟩:=hcut
   cases kq with
   | zero=>exact absurd HA.out (by simp [spec_l20Logic.j0])
   | succ x4 =>
    have H:=HA.out
    clear HA
    simp only [spec_l20Logic.j0] at H
    replace H:=ox_ H
    rcases H with ⟨rfl,H⟩|⟨rfl,H⟩
    ·
     obtain ⟨⟨x5,D2⟩,Z6,H⟩:=bd_ H
     try dsimp only at H
     obtain ⟨⟨l3,m3⟩,Z7,H⟩:=bd_ H
     try dsimp only at H
     have H':=ak H
     clear H
     go_wp2_with (first|((with_reducible refine gate_callee (f:=62) rfl ?_);refine gl_ (some 18) Try.func62 #[.pointer (some ⟨g,0,none⟩),.int .i64 4] ?_;(with_reducible refine (spec_l20Rd_pick.calls x4 g s0_0 g0 4 x5 D2 w0 _ z19_2 z19_1 Z6.out).mono ?_);rintro e w' ⟨rfl,hi,hb,hk⟩;refine ⟨_,rfl,?_⟩;replace a4:=ak (KeepBut.blk hk (g':=b0) (o:=.cells #[.slice none 0 0,.slice none 0 0] 27 (0,0)) (xb a4.out) b7.out (by simp));replace a0:=ak (KeepBut.blk hk (g':=a7) (o:=.cells #[.slice none 0 0,.slice none 0 0] 27 (0,0)) (xb a0.out) b2.out (by simp));replace HK:=ak (KeepBut.trans z19_0 hk (.inl rfl));replace HB:=ak (hb);replace b4:=ak (hi);(try clear hb);(try clear hb2);(try clear hk);(try clear hi))|((with_reducible refine gate_callee (f:=91) rfl ?_);refine gl_ (some 19) Try.func91 #[.int .i64 x5] ?_;(with_reducible refine (spec_l20Boole.calls x4 x5 l3 m3 _ Z7.out).mono ?_);rintro e w' ⟨Z8,Z9,rfl,ho0,ho1,hb⟩;refine ⟨_,rfl,?_⟩;have s3:=ak (Kd.S_lower ho0 (keep_size (w:=w) (g:=g) (row:=none) z19_0));have s4:=ak (Kd.R_lower ho1 (keep_size (w:=w) (g:=g) (row:=none) z19_0));replace a4:=ak (blk_below (g:=b0) (o:=.cells #[.slice none 0 0,.slice none 0 0] 27 (0,0)) (xb a4.out) hb);replace a0:=ak (blk_below (g:=a7) (o:=.cells #[.slice none 0 0,.slice none 0 0] 27 (0,0)) (xb a0.out) hb);replace HK:=ak (KeepBut.trans z19_0 (KeepBut.of_below hb g none) (.inl rfl));replace HB:=ak (below_step z19_1 hb);replace b4:=ak (IsS80.below z19_2 hb);(try clear hb);(try clear hb2);(try clear hk);(try clear hi);(try clear ho0);(try clear ho1);obtain ⟨o8,o9,I0⟩:=Kd.S_slice s3.out;subst I0;have W4:=b6.out;have W5:=b3.out;have W6:=b2.out;have W7:=a8.out;have b8:=cz20 a0.out;have b9:=cz21 a0.out;have d0:=blk_frozen a0.out 0;have d1:=blk_frozen a0.out 1;obtain ⟨x6,x7,I1⟩:=Kd.R_slice s4.out;subst I1))
     go_meet
     case rel=>exact ⟨_,(D2),(l3),(m3),(.slice o8 l3.length o9),(.slice x6 m3.length x7),H',⟨(by have:=o7.out;first|omega|exact Nat.le_refl _)⟩,⟨(by (with_reducible repeat (first|apply Kd.S_alloc|apply Kd.S_drewN|apply Kd.S_drew));exact Kd.S_mono (Kd.S_far (p:=⟨a7,1,none⟩) (Kd.S_far (p:=⟨a7,0,none⟩) (Kd.S_types s3.out a0.out z19_9) (fun _ hk=>hk.2) (.slice o8 l3.length o9)) (fun _ hk=>hk.2) (.slice x6 m3.length x7)) (fun _ hk=>hk.1))⟩,⟨Kd.Q_of_R (by (with_reducible repeat (first|apply Kd.R_alloc|apply Kd.R_drewN|apply Kd.R_drew));exact Kd.R_mono (Kd.R_far (p:=⟨a7,1,none⟩) (Kd.R_far (p:=⟨a7,0,none⟩) (Kd.R_types s4.out a0.out z19_9) (fun _ hk=>hk.2) (.slice o8 l3.length o9)) (fun _ hk=>hk.2) (.slice x6 m3.length x7)) (fun _ hk=>trivial))⟩,⟨z19_3⟩,⟨(by (with_reducible repeat (first|refine blk_drewN ?_ _|refine blk_drew ?_|refine blk_alloc ?_ _));refine blk_put (cs:=#[.slice o8 l3.length o9,.slice none 0 0]) ?_ 1 _ rfl;(with_reducible repeat (first|refine blk_drewN ?_ _|refine blk_drew ?_|refine blk_alloc ?_ _));refine blk_put (cs:=#[.slice none 0 0,.slice none 0 0]) ?_ 0 _ rfl;(with_reducible repeat (first|refine blk_drewN ?_ _|refine blk_drew ?_|refine blk_alloc ?_ _));exact a0.out)⟩,⟨z19_2⟩,⟨z19_0⟩,⟨z19_1⟩⟩
    have x8:=ak H
    clear H
    go_upto_if 20 with (fail)
    go_cut [20] (fun v20 wc=>∃ (kq:Nat) (i8:Bool),v20 = .bool i8∧Aside0 (spec_l20Logic.j1 kq a1 i6 i8 s0_0 g0=some (r1,r2,r3))∧Aside0 (kq≤x4)∧Aside0 (wc.heap[b0]?=some (.cells #[(.slice none 0 0),(.slice none 0 0)] 27 (0,0)))∧Aside0 (wc.heap[a7]?=some (.cells #[(.slice none 0 0),(.slice none 0 0)] 27 (0,0)))∧Aside0 (IsS80 w0 wc g s0_0 g0)∧Aside0 (KeepBut w wc g none)∧Aside0 (Below w0.heap.size w0 wc))
    case first =>
     have H:=x8.out
     clear x8
     replace H:=oe2 H
     rcases H with ⟨⟨-,h8,D3⟩,H⟩|⟨⟨c24,h8,D3⟩,H⟩
     ·
      (first|rw [h8]|(simp only [i64_w,i32_w];rw [h8])|skip)
      have H':=ak H
      clear H
      go_wp2
      go_meet
      case rel=>exact ⟨_,((i6==2)),z19_12,H',⟨(by have:=o7.out;first|omega|exact Nat.le_refl _)⟩,⟨(xb a4.out)⟩,⟨(xb a0.out)⟩,⟨z19_2⟩,⟨z19_0⟩,⟨z19_1⟩⟩
     (first|rw [h8]|(simp only [i64_w,i32_w];rw [h8])|skip)
     have H':=ak H
     clear H
     go_wp2
     go_meet
     case rel=>exact ⟨_,((i6==3)),z19_12,H',⟨(by have:=o7.out;first|omega|exact Nat.le_refl _)⟩,⟨(xb a4.out)⟩,⟨(xb a0.out)⟩,⟨z19_2⟩,⟨z19_0⟩,⟨z19_1⟩⟩
    case rest =>
     clear x8
     try clear c13
     try clear b8
     try clear b9
     try clear d0
     try clear d1
     obtain ⟨kq,i8,rfl,HA,G8,a4,a0,b4,HK,HB⟩:=hcut
     cases kq with
     | zero=>exact absurd HA.out (by simp [spec_l20Logic.j1])
     | succ f3 =>
      have H:=HA.out
      clear HA
      simp only [spec_l20Logic.j1] at H
      replace H:=ox_ H
      rcases H with ⟨rfl,H⟩|⟨rfl,H⟩
      ·
       obtain ⟨⟨x9,y0⟩,A26,H⟩:=bd_ H
       try dsimp only at H
       obtain ⟨⟨y3,y4⟩,A27,H⟩:=bd_ H
       try dsimp only at H
       obtain ⟨⟨l4,m4⟩,A28,H⟩:=bd_ H
       try dsimp only at H
       have H':=ak H
       clear H
       go_wp2_with (first|((with_reducible refine gate_callee (f:=91) rfl ?_);refine gl_ (some 23) Try.func91 #[.int .i64 2] ?_;(with_reducible refine (spec_l20Boole.calls f3 2 x9 y0 _ A26.out).mono ?_);rintro e w' ⟨b00,b01,rfl,ho0,ho1,hb⟩;refine ⟨_,rfl,?_⟩;have f4:=ak (Kd.S_lower ho0 (keep_size (w:=w) (g:=g) (row:=none) z19_0));have e4:=ak (Kd.R_lower ho1 (keep_size (w:=w) (g:=g) (row:=none) z19_0));replace a4:=ak (blk_below (g:=b0) (o:=.cells #[.slice none 0 0,.slice none 0 0] 27 (0,0)) (xb a4.out) hb);replace a0:=ak (blk_below (g:=a7) (o:=.cells #[.slice none 0 0,.slice none 0 0] 27 (0,0)) (xb a0.out) hb);replace HK:=ak (KeepBut.trans z19_0 (KeepBut.of_below hb g none) (.inl rfl));replace HB:=ak (below_step z19_1 hb);replace b4:=ak (IsS80.below z19_2 hb);(try clear hb);(try clear hb2);(try clear hk);(try clear hi);(try clear ho0);(try clear ho1))|((with_reducible refine gate_callee (f:=91) rfl ?_);refine gl_ (some 24) Try.func91 #[.int .i64 2] ?_;(with_reducible refine (spec_l20Boole.calls f3 2 y3 y4 _ A27.out).mono ?_);rintro e w' ⟨b02,b03,rfl,ho0,ho1,hb⟩;refine ⟨_,rfl,?_⟩;have g9:=ak (Kd.S_lower (Kd.S_new' (Kd.S_new' ho0 (Kd.S_lt (xS f4.out))) (Kd.R_lt (xR e4.out))) (keep_size (w:=w) (g:=g) (row:=none) z19_0));replace f4:=ak (Kd.S_mono (Kd.S_told (Kd.S_told (Kd.S_old (xS f4.out) hb) (Kd.S_base ho0)) (Kd.R_base ho1)) (fun _ h_=>h_.1));have g3:=ak (Kd.R_lower (Kd.R_new' ho1 (Kd.R_lt (xR e4.out))) (keep_size (w:=w) (g:=g) (row:=none) z19_0));replace e4:=ak (Kd.R_elder' (xR e4.out) (Kd.R_base ho1) hb);replace a4:=ak (blk_below (g:=b0) (o:=.cells #[.slice none 0 0,.slice none 0 0] 27 (0,0)) (xb a4.out) hb);replace a0:=ak (blk_below (g:=a7) (o:=.cells #[.slice none 0 0,.slice none 0 0] 27 (0,0)) (xb a0.out) hb);replace HK:=ak (KeepBut.trans z19_0 (KeepBut.of_below hb g none) (.inl rfl));replace HB:=ak (below_step z19_1 hb);replace b4:=ak (IsS80.below z19_2 hb);(try clear hb);(try clear hb2);(try clear hk);(try clear hi);(try clear ho0);(try clear ho1);obtain ⟨I2,I3,I4⟩:=Kd.S_slice f4.out;subst I4;obtain ⟨I5,I6,I7⟩:=Kd.R_slice e4.out;subst I7;obtain ⟨I8,I9,J0⟩:=Kd.S_slice g9.out;subst J0;obtain ⟨J1,J2,J3⟩:=Kd.R_slice g3.out;subst J3)|((with_reducible refine gate_callee (f:=108) rfl ?_);refine gl_ (some 25) Try.func108 #[.agg #[.slice I2 x9.length I3,.slice I5 y0.length I6],.agg #[.slice I8 y3.length I9,.slice J1 y4.length J2]] ?_;(with_reducible refine (spec_l20Glued.calls f3 _ _ x9 _ _ y0 _ _ y3 _ _ y4 l4 m4 _ (y1 f4.out) (y2 f4.out) (y1 e4.out) (y2 e4.out) (y1 g9.out) (y2 g9.out) (y1 g3.out) (y2 g3.out) A28.out).mono ?_);rintro e w' ⟨b04,b05,rfl,ho0,ho1,hb⟩;refine ⟨_,rfl,?_⟩;have s5:=ak (Kd.S_lower (Kd.S_new' (Kd.S_new' (Kd.S_new' (Kd.S_new' ho0 (Kd.S_lt (xS f4.out))) (Kd.R_lt (xR e4.out))) (Kd.S_lt (xS g9.out))) (Kd.R_lt (xR g3.out))) (keep_size (w:=w) (g:=g) (row:=none) z19_0));replace f4:=ak (Kd.S_mono (Kd.S_told (Kd.S_told (Kd.S_old (xS f4.out) hb) (Kd.S_base ho0)) (Kd.R_base ho1)) (fun _ h_=>h_.1));replace g9:=ak (Kd.S_mono (Kd.S_told (Kd.S_told (Kd.S_old (xS g9.out) hb) (Kd.S_base ho0)) (Kd.R_base ho1)) (fun _ h_=>h_.1));have s6:=ak (Kd.R_lower (Kd.R_new' (Kd.R_new' ho1 (Kd.R_lt (xR e4.out))) (Kd.R_lt (xR g3.out))) (keep_size (w:=w) (g:=g) (row:=none) z19_0));replace e4:=ak (Kd.R_elder' (xR e4.out) (Kd.R_base ho1) hb);replace g3:=ak (Kd.R_elder' (xR g3.out) (Kd.R_base ho1) hb);replace a4:=ak (blk_below (g:=b0) (o:=.cells #[.slice none 0 0,.slice none 0 0] 27 (0,0)) (xb a4.out) hb);replace a0:=ak (blk_below (g:=a7) (o:=.cells #[.slice none 0 0,.slice none 0 0] 27 (0,0)) (xb a0.out) hb);replace HK:=ak (KeepBut.trans z19_0 (KeepBut.of_below hb g none) (.inl rfl));replace HB:=ak (below_step z19_1 hb);replace b4:=ak (IsS80.below z19_2 hb);(try clear hb);(try clear hb2);(try clear hk);(try clear hi);(try clear ho0);(try clear ho1);obtain ⟨q0,q1,J4⟩:=Kd.S_slice s5.out;subst J4;have W8:=b6.out;have W9:=b3.out;have X0:=b2.out;have X1:=a8.out;have b8:=cz20 a0.out;have b9:=cz21 a0.out;have d0:=blk_frozen a0.out 0;have d1:=blk_frozen a0.out 1;obtain ⟨y5,y6,J5⟩:=Kd.R_slice s6.out;subst J5))
       go_meet
       case rel=>exact ⟨_,(g0),(l4),(m4),(.slice q0 l4.length q1),(.slice y5 m4.length y6),H',⟨z19_7⟩,⟨(by (with_reducible repeat (first|apply Kd.S_alloc|apply Kd.S_drewN|apply Kd.S_drew));exact Kd.S_mono (Kd.S_far (p:=⟨a7,1,none⟩) (Kd.S_far (p:=⟨a7,0,none⟩) (Kd.S_types s5.out a0.out z19_9) (fun _ hk=>hk.2) (.slice q0 l4.length q1)) (fun _ hk=>hk.2) (.slice y5 m4.length y6)) (fun _ hk=>hk.1.1.1.1.1))⟩,⟨Kd.Q_of_R (by (with_reducible repeat (first|apply Kd.R_alloc|apply Kd.R_drewN|apply Kd.R_drew));exact Kd.R_mono (Kd.R_far (p:=⟨a7,1,none⟩) (Kd.R_far (p:=⟨a7,0,none⟩) (Kd.R_types s6.out a0.out z19_9) (fun _ hk=>hk.2) (.slice q0 l4.length q1)) (fun _ hk=>hk.2) (.slice y5 m4.length y6)) (fun _ hk=>trivial))⟩,⟨z19_3⟩,⟨(by (with_reducible repeat (first|refine blk_drewN ?_ _|refine blk_drew ?_|refine blk_alloc ?_ _));refine blk_put (cs:=#[.slice q0 l4.length q1,.slice none 0 0]) ?_ 1 _ rfl;(with_reducible repeat (first|refine blk_drewN ?_ _|refine blk_drew ?_|refine blk_alloc ?_ _));refine blk_put (cs:=#[.slice none 0 0,.slice none 0 0]) ?_ 0 _ rfl;(with_reducible repeat (first|refine blk_drewN ?_ _|refine blk_drew ?_|refine blk_alloc ?_ _));exact a0.out)⟩,⟨z19_2⟩,⟨z19_0⟩,⟨z19_1⟩⟩
      replace H:=oe2 H
      rcases H with ⟨⟨-,D4,D5⟩,H⟩|⟨⟨c41,D4,D5⟩,H⟩
      ·
       obtain ⟨⟨y7,y8⟩,A42,H⟩:=bd_ H
       try dsimp only at H
       obtain ⟨⟨y9,z0⟩,A43,H⟩:=bd_ H
       try dsimp only at H
       obtain ⟨⟨l5,m5⟩,A44,H⟩:=bd_ H
       try dsimp only at H
       have H':=ak H
       clear H
       go_wp2_with (first|((with_reducible refine gate_callee (f:=91) rfl ?_);refine gl_ (some 28) Try.func91 #[.int .i64 2] ?_;(with_reducible refine (spec_l20Boole.calls f3 2 y7 y8 _ A42.out).mono ?_);rintro e w' ⟨b06,b07,rfl,ho0,ho1,hb⟩;refine ⟨_,rfl,?_⟩;have f5:=ak (Kd.S_lower ho0 (keep_size (w:=w) (g:=g) (row:=none) z19_0));have e5:=ak (Kd.R_lower ho1 (keep_size (w:=w) (g:=g) (row:=none) z19_0));replace a4:=ak (blk_below (g:=b0) (o:=.cells #[.slice none 0 0,.slice none 0 0] 27 (0,0)) (xb a4.out) hb);replace a0:=ak (blk_below (g:=a7) (o:=.cells #[.slice none 0 0,.slice none 0 0] 27 (0,0)) (xb a0.out) hb);replace HK:=ak (KeepBut.trans z19_0 (KeepBut.of_below hb g none) (.inl rfl));replace HB:=ak (below_step z19_1 hb);replace b4:=ak (IsS80.below z19_2 hb);(try clear hb);(try clear hb2);(try clear hk);(try clear hi);(try clear ho0);(try clear ho1))|((with_reducible refine gate_callee (f:=91) rfl ?_);refine gl_ (some 29) Try.func91 #[.int .i64 3] ?_;(with_reducible refine (spec_l20Boole.calls f3 3 y9 z0 _ A43.out).mono ?_);rintro e w' ⟨b08,b09,rfl,ho0,ho1,hb⟩;refine ⟨_,rfl,?_⟩;have h0:=ak (Kd.S_lower (Kd.S_new' (Kd.S_new' ho0 (Kd.S_lt (xS f5.out))) (Kd.R_lt (xR e5.out))) (keep_size (w:=w) (g:=g) (row:=none) z19_0));replace f5:=ak (Kd.S_mono (Kd.S_told (Kd.S_told (Kd.S_old (xS f5.out) hb) (Kd.S_base ho0)) (Kd.R_base ho1)) (fun _ h_=>h_.1));have g4:=ak (Kd.R_lower (Kd.R_new' ho1 (Kd.R_lt (xR e5.out))) (keep_size (w:=w) (g:=g) (row:=none) z19_0));replace e5:=ak (Kd.R_elder' (xR e5.out) (Kd.R_base ho1) hb);replace a4:=ak (blk_below (g:=b0) (o:=.cells #[.slice none 0 0,.slice none 0 0] 27 (0,0)) (xb a4.out) hb);replace a0:=ak (blk_below (g:=a7) (o:=.cells #[.slice none 0 0,.slice none 0 0] 27 (0,0)) (xb a0.out) hb);replace HK:=ak (KeepBut.trans z19_0 (KeepBut.of_below hb g none) (.inl rfl));replace HB:=ak (below_step z19_1 hb);replace b4:=ak (IsS80.below z19_2 hb);(try clear hb);(try clear hb2);(try clear hk);(try clear hi);(try clear ho0);(try clear ho1);obtain ⟨J6,J7,J8⟩:=Kd.S_slice f5.out;subst J8;obtain ⟨J9,K0,K1⟩:=Kd.R_slice e5.out;subst K1;obtain ⟨K2,K3,K4⟩:=Kd.S_slice h0.out;subst K4;obtain ⟨K5,K6,K7⟩:=Kd.R_slice g4.out;subst K7)|((with_reducible refine gate_callee (f:=108) rfl ?_);refine gl_ (some 30) Try.func108 #[.agg #[.slice J6 y7.length J7,.slice J9 y8.length K0],.agg #[.slice K2 y9.length K3,.slice K5 z0.length K6]] ?_;(with_reducible refine (spec_l20Glued.calls f3 _ _ y7 _ _ y8 _ _ y9 _ _ z0 l5 m5 _ (y1 f5.out) (y2 f5.out) (y1 e5.out) (y2 e5.out) (y1 h0.out) (y2 h0.out) (y1 g4.out) (y2 g4.out) A44.out).mono ?_);rintro e w' ⟨b0a,b0b,rfl,ho0,ho1,hb⟩;refine ⟨_,rfl,?_⟩;have s7:=ak (Kd.S_lower (Kd.S_new' (Kd.S_new' (Kd.S_new' (Kd.S_new' ho0 (Kd.S_lt (xS f5.out))) (Kd.R_lt (xR e5.out))) (Kd.S_lt (xS h0.out))) (Kd.R_lt (xR g4.out))) (keep_size (w:=w) (g:=g) (row:=none) z19_0));replace f5:=ak (Kd.S_mono (Kd.S_told (Kd.S_told (Kd.S_old (xS f5.out) hb) (Kd.S_base ho0)) (Kd.R_base ho1)) (fun _ h_=>h_.1));replace h0:=ak (Kd.S_mono (Kd.S_told (Kd.S_told (Kd.S_old (xS h0.out) hb) (Kd.S_base ho0)) (Kd.R_base ho1)) (fun _ h_=>h_.1));have s8:=ak (Kd.R_lower (Kd.R_new' (Kd.R_new' ho1 (Kd.R_lt (xR e5.out))) (Kd.R_lt (xR g4.out))) (keep_size (w:=w) (g:=g) (row:=none) z19_0));replace e5:=ak (Kd.R_elder' (xR e5.out) (Kd.R_base ho1) hb);replace g4:=ak (Kd.R_elder' (xR g4.out) (Kd.R_base ho1) hb);replace a4:=ak (blk_below (g:=b0) (o:=.cells #[.slice none 0 0,.slice none 0 0] 27 (0,0)) (xb a4.out) hb);replace a0:=ak (blk_below (g:=a7) (o:=.cells #[.slice none 0 0,.slice none 0 0] 27 (0,0)) (xb a0.out) hb);replace HK:=ak (KeepBut.trans z19_0 (KeepBut.of_below hb g none) (.inl rfl));replace HB:=ak (below_step z19_1 hb);replace b4:=ak (IsS80.below z19_2 hb);(try clear hb);(try clear hb2);(try clear hk);(try clear hi);(try clear ho0);(try clear ho1);obtain ⟨q2,q3,K8⟩:=Kd.S_slice s7.out;subst K8;have X2:=b6.out;have X3:=b3.out;have X4:=b2.out;have X5:=a8.out;have b8:=cz20 a0.out;have b9:=cz21 a0.out;have d0:=blk_frozen a0.out 0;have d1:=blk_frozen a0.out 1;obtain ⟨z1,z2,K9⟩:=Kd.R_slice s8.out;subst K9))
       go_meet
       case rel=>exact ⟨_,(g0),(l5),(m5),(.slice q2 l5.length q3),(.slice z1 m5.length z2),H',⟨z19_7⟩,⟨(by (with_reducible repeat (first|apply Kd.S_alloc|apply Kd.S_drewN|apply Kd.S_drew));exact Kd.S_mono (Kd.S_far (p:=⟨a7,1,none⟩) (Kd.S_far (p:=⟨a7,0,none⟩) (Kd.S_types s7.out a0.out z19_9) (fun _ hk=>hk.2) (.slice q2 l5.length q3)) (fun _ hk=>hk.2) (.slice z1 m5.length z2)) (fun _ hk=>hk.1.1.1.1.1))⟩,⟨Kd.Q_of_R (by (with_reducible repeat (first|apply Kd.R_alloc|apply Kd.R_drewN|apply Kd.R_drew));exact Kd.R_mono (Kd.R_far (p:=⟨a7,1,none⟩) (Kd.R_far (p:=⟨a7,0,none⟩) (Kd.R_types s8.out a0.out z19_9) (fun _ hk=>hk.2) (.slice q2 l5.length q3)) (fun _ hk=>hk.2) (.slice z1 m5.length z2)) (fun _ hk=>trivial))⟩,⟨z19_3⟩,⟨(by (with_reducible repeat (first|refine blk_drewN ?_ _|refine blk_drew ?_|refine blk_alloc ?_ _));refine blk_put (cs:=#[.slice q2 l5.length q3,.slice none 0 0]) ?_ 1 _ rfl;(with_reducible repeat (first|refine blk_drewN ?_ _|refine blk_drew ?_|refine blk_alloc ?_ _));refine blk_put (cs:=#[.slice none 0 0,.slice none 0 0]) ?_ 0 _ rfl;(with_reducible repeat (first|refine blk_drewN ?_ _|refine blk_drew ?_|refine blk_alloc ?_ _));exact a0.out)⟩,⟨z19_2⟩,⟨z19_0⟩,⟨z19_1⟩⟩
      replace H:=oe2 H
      rcases H with ⟨⟨-,D6,D7⟩,H⟩|⟨⟨c57,D6,D7⟩,H⟩
      ·
       obtain ⟨⟨z3,z4⟩,A58,H⟩:=bd_ H
       try dsimp only at H
       obtain ⟨⟨z5,z6⟩,A59,H⟩:=bd_ H
       try dsimp only at H
       obtain ⟨⟨z7,z8⟩,A60,H⟩:=bd_ H
       try dsimp only at H
       obtain ⟨⟨z9,A0⟩,A61,H⟩:=bd_ H
       try dsimp only at H
       obtain ⟨⟨l6,m6⟩,A62,H⟩:=bd_ H
       try dsimp only at H
       have H':=ak H
       clear H
       go_wp2_with (first|((with_reducible refine gate_callee (f:=91) rfl ?_);refine gl_ (some 33) Try.func91 #[.int .i64 2] ?_;(with_reducible refine (spec_l20Boole.calls f3 2 z3 z4 _ A58.out).mono ?_);rintro e w' ⟨b0c,b0d,rfl,ho0,ho1,hb⟩;refine ⟨_,rfl,?_⟩;have d6:=ak (Kd.S_lower ho0 (keep_size (w:=w) (g:=g) (row:=none) z19_0));have d3:=ak (Kd.R_lower ho1 (keep_size (w:=w) (g:=g) (row:=none) z19_0));replace a4:=ak (blk_below (g:=b0) (o:=.cells #[.slice none 0 0,.slice none 0 0] 27 (0,0)) (xb a4.out) hb);replace a0:=ak (blk_below (g:=a7) (o:=.cells #[.slice none 0 0,.slice none 0 0] 27 (0,0)) (xb a0.out) hb);replace HK:=ak (KeepBut.trans z19_0 (KeepBut.of_below hb g none) (.inl rfl));replace HB:=ak (below_step z19_1 hb);replace b4:=ak (IsS80.below z19_2 hb);(try clear hb);(try clear hb2);(try clear hk);(try clear hi);(try clear ho0);(try clear ho1))|((with_reducible refine gate_callee (f:=91) rfl ?_);refine gl_ (some 34) Try.func91 #[.int .i64 2] ?_;(with_reducible refine (spec_l20Boole.calls f3 2 z5 z6 _ A59.out).mono ?_);rintro e w' ⟨b0e,b0f,rfl,ho0,ho1,hb⟩;refine ⟨_,rfl,?_⟩;have e2:=ak (Kd.S_lower (Kd.S_new' (Kd.S_new' ho0 (Kd.S_lt (xS d6.out))) (Kd.R_lt (xR d3.out))) (keep_size (w:=w) (g:=g) (row:=none) z19_0));replace d6:=ak (Kd.S_mono (Kd.S_told (Kd.S_told (Kd.S_old (xS d6.out) hb) (Kd.S_base ho0)) (Kd.R_base ho1)) (fun _ h_=>h_.1));have d7:=ak (Kd.R_lower (Kd.R_new' ho1 (Kd.R_lt (xR d3.out))) (keep_size (w:=w) (g:=g) (row:=none) z19_0));replace d3:=ak (Kd.R_elder' (xR d3.out) (Kd.R_base ho1) hb);replace a4:=ak (blk_below (g:=b0) (o:=.cells #[.slice none 0 0,.slice none 0 0] 27 (0,0)) (xb a4.out) hb);replace a0:=ak (blk_below (g:=a7) (o:=.cells #[.slice none 0 0,.slice none 0 0] 27 (0,0)) (xb a0.out) hb);replace HK:=ak (KeepBut.trans z19_0 (KeepBut.of_below hb g none) (.inl rfl));replace HB:=ak (below_step z19_1 hb);replace b4:=ak (IsS80.below z19_2 hb);(try clear hb);(try clear hb2);(try clear hk);(try clear hi);(try clear ho0);(try clear ho1);obtain ⟨L0,L1,L2⟩:=Kd.S_slice d6.out;subst L2;obtain ⟨L3,L4,L5⟩:=Kd.R_slice d3.out;subst L5;obtain ⟨L6,L7,L8⟩:=Kd.S_slice e2.out;subst L8;obtain ⟨L9,M0,M1⟩:=Kd.R_slice d7.out;subst M1)|((with_reducible refine gate_callee (f:=108) rfl ?_);refine gl_ (some 35) Try.func108 #[.agg #[.slice L0 z3.length L1,.slice L3 z4.length L4],.agg #[.slice L6 z5.length L7,.slice L9 z6.length M0]] ?_;(with_reducible refine (spec_l20Glued.calls f3 _ _ z3 _ _ z4 _ _ z5 _ _ z6 z7 z8 _ (y1 d6.out) (y2 d6.out) (y1 d3.out) (y2 d3.out) (y1 e2.out) (y2 e2.out) (y1 d7.out) (y2 d7.out) A60.out).mono ?_);rintro e w' ⟨b0g,b0h,rfl,ho0,ho1,hb⟩;refine ⟨_,rfl,?_⟩;have f6:=ak (Kd.S_lower (Kd.S_new' (Kd.S_new' (Kd.S_new' (Kd.S_new' ho0 (Kd.S_lt (xS d6.out))) (Kd.R_lt (xR d3.out))) (Kd.S_lt (xS e2.out))) (Kd.R_lt (xR d7.out))) (keep_size (w:=w) (g:=g) (row:=none) z19_0));replace d6:=ak (Kd.S_mono (Kd.S_told (Kd.S_told (Kd.S_old (xS d6.out) hb) (Kd.S_base ho0)) (Kd.R_base ho1)) (fun _ h_=>h_.1));replace e2:=ak (Kd.S_mono (Kd.S_told (Kd.S_told (Kd.S_old (xS e2.out) hb) (Kd.S_base ho0)) (Kd.R_base ho1)) (fun _ h_=>h_.1));have e6:=ak (Kd.R_lower (Kd.R_new' (Kd.R_new' ho1 (Kd.R_lt (xR d3.out))) (Kd.R_lt (xR d7.out))) (keep_size (w:=w) (g:=g) (row:=none) z19_0));replace d3:=ak (Kd.R_elder' (xR d3.out) (Kd.R_base ho1) hb);replace d7:=ak (Kd.R_elder' (xR d7.out) (Kd.R_base ho1) hb);replace a4:=ak (blk_below (g:=b0) (o:=.cells #[.slice none 0 0,.slice none 0 0] 27 (0,0)) (xb a4.out) hb);replace a0:=ak (blk_below (g:=a7) (o:=.cells #[.slice none 0 0,.slice none 0 0] 27 (0,0)) (xb a0.out) hb);replace HK:=ak (KeepBut.trans z19_0 (KeepBut.of_below hb g none) (.inl rfl));replace HB:=ak (below_step z19_1 hb);replace b4:=ak (IsS80.below z19_2 hb);(try clear hb);(try clear hb2);(try clear hk);(try clear hi);(try clear ho0);(try clear ho1))|((with_reducible refine gate_callee (f:=91) rfl ?_);refine gl_ (some 36) Try.func91 #[.int .i64 2] ?_;(with_reducible refine (spec_l20Boole.calls f3 2 z9 A0 _ A61.out).mono ?_);rintro e w' ⟨b0i,b0j,rfl,ho0,ho1,hb⟩;refine ⟨_,rfl,?_⟩;have h1:=ak (Kd.S_lower (Kd.S_new' (Kd.S_new' (Kd.S_new' (Kd.S_new' (Kd.S_new' (Kd.S_new' ho0 (Kd.S_lt (xS d6.out))) (Kd.R_lt (xR d3.out))) (Kd.S_lt (xS e2.out))) (Kd.R_lt (xR d7.out))) (Kd.S_lt (xS f6.out))) (Kd.R_lt (xR e6.out))) (keep_size (w:=w) (g:=g) (row:=none) z19_0));replace d6:=ak (Kd.S_mono (Kd.S_told (Kd.S_told (Kd.S_old (xS d6.out) hb) (Kd.S_base ho0)) (Kd.R_base ho1)) (fun _ h_=>h_.1));replace e2:=ak (Kd.S_mono (Kd.S_told (Kd.S_told (Kd.S_old (xS e2.out) hb) (Kd.S_base ho0)) (Kd.R_base ho1)) (fun _ h_=>h_.1));replace f6:=ak (Kd.S_mono (Kd.S_told (Kd.S_told (Kd.S_old (xS f6.out) hb) (Kd.S_base ho0)) (Kd.R_base ho1)) (fun _ h_=>h_.1));have g5:=ak (Kd.R_lower (Kd.R_new' (Kd.R_new' (Kd.R_new' ho1 (Kd.R_lt (xR d3.out))) (Kd.R_lt (xR d7.out))) (Kd.R_lt (xR e6.out))) (keep_size (w:=w) (g:=g) (row:=none) z19_0));replace d3:=ak (Kd.R_elder' (xR d3.out) (Kd.R_base ho1) hb);replace d7:=ak (Kd.R_elder' (xR d7.out) (Kd.R_base ho1) hb);replace e6:=ak (Kd.R_elder' (xR e6.out) (Kd.R_base ho1) hb);replace a4:=ak (blk_below (g:=b0) (o:=.cells #[.slice none 0 0,.slice none 0 0] 27 (0,0)) (xb a4.out) hb);replace a0:=ak (blk_below (g:=a7) (o:=.cells #[.slice none 0 0,.slice none 0 0] 27 (0,0)) (xb a0.out) hb);replace HK:=ak (KeepBut.trans z19_0 (KeepBut.of_below hb g none) (.inl rfl));replace HB:=ak (below_step z19_1 hb);replace b4:=ak (IsS80.below z19_2 hb);(try clear hb);(try clear hb2);(try clear hk);(try clear hi);(try clear ho0);(try clear ho1);obtain ⟨M2,M3,M4⟩:=Kd.S_slice f6.out;subst M4;obtain ⟨M5,M6,M7⟩:=Kd.R_slice e6.out;subst M7;obtain ⟨M8,M9,N0⟩:=Kd.S_slice h1.out;subst N0;obtain ⟨N1,N2,N3⟩:=Kd.R_slice g5.out;subst N3)|((with_reducible refine gate_callee (f:=108) rfl ?_);refine gl_ (some 37) Try.func108 #[.agg #[.slice M2 z7.length M3,.slice M5 z8.length M6],.agg #[.slice M8 z9.length M9,.slice N1 A0.length N2]] ?_;(with_reducible refine (spec_l20Glued.calls f3 _ _ z7 _ _ z8 _ _ z9 _ _ A0 l6 m6 _ (y1 f6.out) (y2 f6.out) (y1 e6.out) (y2 e6.out) (y1 h1.out) (y2 h1.out) (y1 g5.out) (y2 g5.out) A62.out).mono ?_);rintro e w' ⟨b0k,b0l,rfl,ho0,ho1,hb⟩;refine ⟨_,rfl,?_⟩;have s9:=ak (Kd.S_lower (Kd.S_new' (Kd.S_new' (Kd.S_new' (Kd.S_new' (Kd.S_new' (Kd.S_new' (Kd.S_new' (Kd.S_new' ho0 (Kd.S_lt (xS d6.out))) (Kd.R_lt (xR d3.out))) (Kd.S_lt (xS e2.out))) (Kd.R_lt (xR d7.out))) (Kd.S_lt (xS f6.out))) (Kd.R_lt (xR e6.out))) (Kd.S_lt (xS h1.out))) (Kd.R_lt (xR g5.out))) (keep_size (w:=w) (g:=g) (row:=none) z19_0));replace d6:=ak (Kd.S_mono (Kd.S_told (Kd.S_told (Kd.S_old (xS d6.out) hb) (Kd.S_base ho0)) (Kd.R_base ho1)) (fun _ h_=>h_.1));replace e2:=ak (Kd.S_mono (Kd.S_told (Kd.S_told (Kd.S_old (xS e2.out) hb) (Kd.S_base ho0)) (Kd.R_base ho1)) (fun _ h_=>h_.1));replace f6:=ak (Kd.S_mono (Kd.S_told (Kd.S_told (Kd.S_old (xS f6.out) hb) (Kd.S_base ho0)) (Kd.R_base ho1)) (fun _ h_=>h_.1));replace h1:=ak (Kd.S_mono (Kd.S_told (Kd.S_told (Kd.S_old (xS h1.out) hb) (Kd.S_base ho0)) (Kd.R_base ho1)) (fun _ h_=>h_.1));have u0:=ak (Kd.R_lower (Kd.R_new' (Kd.R_new' (Kd.R_new' (Kd.R_new' ho1 (Kd.R_lt (xR d3.out))) (Kd.R_lt (xR d7.out))) (Kd.R_lt (xR e6.out))) (Kd.R_lt (xR g5.out))) (keep_size (w:=w) (g:=g) (row:=none) z19_0));replace d3:=ak (Kd.R_elder' (xR d3.out) (Kd.R_base ho1) hb);replace d7:=ak (Kd.R_elder' (xR d7.out) (Kd.R_base ho1) hb);replace e6:=ak (Kd.R_elder' (xR e6.out) (Kd.R_base ho1) hb);replace g5:=ak (Kd.R_elder' (xR g5.out) (Kd.R_base ho1) hb);replace a4:=ak (blk_below (g:=b0) (o:=.cells #[.slice none 0 0,.slice none 0 0] 27 (0,0)) (xb a4.out) hb);replace a0:=ak (blk_below (g:=a7) (o:=.cells #[.slice none 0 0,.slice none 0 0] 27 (0,0)) (xb a0.out) hb);replace HK:=ak (KeepBut.trans z19_0 (KeepBut.of_below hb g none) (.inl rfl));replace HB:=ak (below_step z19_1 hb);replace b4:=ak (IsS80.below z19_2 hb);(try clear hb);(try clear hb2);(try clear hk);(try clear hi);(try clear ho0);(try clear ho1);obtain ⟨q4,q5,N4⟩:=Kd.S_slice s9.out;subst N4;have X6:=b6.out;have X7:=b3.out;have X8:=b2.out;have X9:=a8.out;have b8:=cz20 a0.out;have b9:=cz21 a0.out;have d0:=blk_frozen a0.out 0;have d1:=blk_frozen a0.out 1;obtain ⟨A2,A4,N5⟩:=Kd.R_slice u0.out;subst N5))
       go_meet
       case rel=>exact ⟨_,(g0),(l6),(m6),(.slice q4 l6.length q5),(.slice A2 m6.length A4),H',⟨z19_7⟩,⟨(by (with_reducible repeat (first|apply Kd.S_alloc|apply Kd.S_drewN|apply Kd.S_drew));exact Kd.S_mono (Kd.S_far (p:=⟨a7,1,none⟩) (Kd.S_far (p:=⟨a7,0,none⟩) (Kd.S_types s9.out a0.out z19_9) (fun _ hk=>hk.2) (.slice q4 l6.length q5)) (fun _ hk=>hk.2) (.slice A2 m6.length A4)) (fun _ hk=>hk.1.1.1.1.1.1.1.1.1))⟩,⟨Kd.Q_of_R (by (with_reducible repeat (first|apply Kd.R_alloc|apply Kd.R_drewN|apply Kd.R_drew));exact Kd.R_mono (Kd.R_far (p:=⟨a7,1,none⟩) (Kd.R_far (p:=⟨a7,0,none⟩) (Kd.R_types u0.out a0.out z19_9) (fun _ hk=>hk.2) (.slice q4 l6.length q5)) (fun _ hk=>hk.2) (.slice A2 m6.length A4)) (fun _ hk=>trivial))⟩,⟨z19_3⟩,⟨(by (with_reducible repeat (first|refine blk_drewN ?_ _|refine blk_drew ?_|refine blk_alloc ?_ _));refine blk_put (cs:=#[.slice q4 l6.length q5,.slice none 0 0]) ?_ 1 _ rfl;(with_reducible repeat (first|refine blk_drewN ?_ _|refine blk_drew ?_|refine blk_alloc ?_ _));refine blk_put (cs:=#[.slice none 0 0,.slice none 0 0]) ?_ 0 _ rfl;(with_reducible repeat (first|refine blk_drewN ?_ _|refine blk_drew ?_|refine blk_alloc ?_ _));exact a0.out)⟩,⟨z19_2⟩,⟨z19_0⟩,⟨z19_1⟩⟩
      replace H:=oe2 H
      rcases H with ⟨⟨-,D8,D9⟩,H⟩|⟨⟨c81,D8,D9⟩,H⟩
      ·
       obtain ⟨⟨l7,m7⟩,A82,H⟩:=bd_ H
       try dsimp only at H
       have H':=ak H
       clear H
       go_wp2_with (first|((with_reducible refine gate_callee (f:=109) rfl ?_);refine gl_ (some 40) Try.func109 #[] ?_;(with_reducible refine (spec_l20Six.calls  l7 m7 _ A82.out).mono ?_);rintro e w' ⟨b0m,b0n,rfl,ho0,ho1,hb⟩;refine ⟨_,rfl,?_⟩;have u1:=ak (Kd.S_lower ho0 (keep_size (w:=w) (g:=g) (row:=none) z19_0));have u2:=ak (Kd.R_lower ho1 (keep_size (w:=w) (g:=g) (row:=none) z19_0));replace a4:=ak (blk_below (g:=b0) (o:=.cells #[.slice none 0 0,.slice none 0 0] 27 (0,0)) (xb a4.out) hb);replace a0:=ak (blk_below (g:=a7) (o:=.cells #[.slice none 0 0,.slice none 0 0] 27 (0,0)) (xb a0.out) hb);replace HK:=ak (KeepBut.trans z19_0 (KeepBut.of_below hb g none) (.inl rfl));replace HB:=ak (below_step z19_1 hb);replace b4:=ak (IsS80.below z19_2 hb);(try clear hb);(try clear hb2);(try clear hk);(try clear hi);(try clear ho0);(try clear ho1);obtain ⟨q6,q7,N6⟩:=Kd.S_slice u1.out;subst N6;have Y0:=b6.out;have Y1:=b3.out;have Y2:=b2.out;have Y3:=a8.out;have b8:=cz20 a0.out;have b9:=cz21 a0.out;have d0:=blk_frozen a0.out 0;have d1:=blk_frozen a0.out 1;obtain ⟨A5,A6,N7⟩:=Kd.R_slice u2.out;subst N7))
       go_meet
       case rel=>exact ⟨_,(g0),(l7),(m7),(.slice q6 l7.length q7),(.slice A5 m7.length A6),H',⟨z19_7⟩,⟨(by (with_reducible repeat (first|apply Kd.S_alloc|apply Kd.S_drewN|apply Kd.S_drew));exact Kd.S_mono (Kd.S_far (p:=⟨a7,1,none⟩) (Kd.S_far (p:=⟨a7,0,none⟩) (Kd.S_types u1.out a0.out z19_9) (fun _ hk=>hk.2) (.slice q6 l7.length q7)) (fun _ hk=>hk.2) (.slice A5 m7.length A6)) (fun _ hk=>hk.1))⟩,⟨Kd.Q_of_R (by (with_reducible repeat (first|apply Kd.R_alloc|apply Kd.R_drewN|apply Kd.R_drew));exact Kd.R_mono (Kd.R_far (p:=⟨a7,1,none⟩) (Kd.R_far (p:=⟨a7,0,none⟩) (Kd.R_types u2.out a0.out z19_9) (fun _ hk=>hk.2) (.slice q6 l7.length q7)) (fun _ hk=>hk.2) (.slice A5 m7.length A6)) (fun _ hk=>trivial))⟩,⟨z19_3⟩,⟨(by (with_reducible repeat (first|refine blk_drewN ?_ _|refine blk_drew ?_|refine blk_alloc ?_ _));refine blk_put (cs:=#[.slice q6 l7.length q7,.slice none 0 0]) ?_ 1 _ rfl;(with_reducible repeat (first|refine blk_drewN ?_ _|refine blk_drew ?_|refine blk_alloc ?_ _));refine blk_put (cs:=#[.slice none 0 0,.slice none 0 0]) ?_ 0 _ rfl;(with_reducible repeat (first|refine blk_drewN ?_ _|refine blk_drew ?_|refine blk_alloc ?_ _));exact a0.out)⟩,⟨z19_2⟩,⟨z19_0⟩,⟨z19_1⟩⟩
      replace H:=oe2 H
      rcases H with ⟨⟨-,E0,E1⟩,H⟩|⟨⟨c89,E0,E1⟩,H⟩
      ·
       obtain ⟨⟨A7,A8⟩,A90,H⟩:=bd_ H
       try dsimp only at H
       obtain ⟨⟨A9,B0⟩,A91,H⟩:=bd_ H
       try dsimp only at H
       obtain ⟨⟨l8,m8⟩,A92,H⟩:=bd_ H
       try dsimp only at H
       have H':=ak H
       clear H
       go_wp2_with (first|((with_reducible refine gate_callee (f:=109) rfl ?_);refine gl_ (some 43) Try.func109 #[] ?_;(with_reducible refine (spec_l20Six.calls  A7 A8 _ A90.out).mono ?_);rintro e w' ⟨b0o,b0p,rfl,ho0,ho1,hb⟩;refine ⟨_,rfl,?_⟩;have f7:=ak (Kd.S_lower ho0 (keep_size (w:=w) (g:=g) (row:=none) z19_0));have e7:=ak (Kd.R_lower ho1 (keep_size (w:=w) (g:=g) (row:=none) z19_0));replace a4:=ak (blk_below (g:=b0) (o:=.cells #[.slice none 0 0,.slice none 0 0] 27 (0,0)) (xb a4.out) hb);replace a0:=ak (blk_below (g:=a7) (o:=.cells #[.slice none 0 0,.slice none 0 0] 27 (0,0)) (xb a0.out) hb);replace HK:=ak (KeepBut.trans z19_0 (KeepBut.of_below hb g none) (.inl rfl));replace HB:=ak (below_step z19_1 hb);replace b4:=ak (IsS80.below z19_2 hb);(try clear hb);(try clear hb2);(try clear hk);(try clear hi);(try clear ho0);(try clear ho1))|((with_reducible refine gate_callee (f:=91) rfl ?_);refine gl_ (some 44) Try.func91 #[.int .i64 2] ?_;(with_reducible refine (spec_l20Boole.calls f3 2 A9 B0 _ A91.out).mono ?_);rintro e w' ⟨b0q,b0r,rfl,ho0,ho1,hb⟩;refine ⟨_,rfl,?_⟩;have h2:=ak (Kd.S_lower (Kd.S_new' (Kd.S_new' ho0 (Kd.S_lt (xS f7.out))) (Kd.R_lt (xR e7.out))) (keep_size (w:=w) (g:=g) (row:=none) z19_0));replace f7:=ak (Kd.S_mono (Kd.S_told (Kd.S_told (Kd.S_old (xS f7.out) hb) (Kd.S_base ho0)) (Kd.R_base ho1)) (fun _ h_=>h_.1));have g6:=ak (Kd.R_lower (Kd.R_new' ho1 (Kd.R_lt (xR e7.out))) (keep_size (w:=w) (g:=g) (row:=none) z19_0));replace e7:=ak (Kd.R_elder' (xR e7.out) (Kd.R_base ho1) hb);replace a4:=ak (blk_below (g:=b0) (o:=.cells #[.slice none 0 0,.slice none 0 0] 27 (0,0)) (xb a4.out) hb);replace a0:=ak (blk_below (g:=a7) (o:=.cells #[.slice none 0 0,.slice none 0 0] 27 (0,0)) (xb a0.out) hb);replace HK:=ak (KeepBut.trans z19_0 (KeepBut.of_below hb g none) (.inl rfl));replace HB:=ak (below_step z19_1 hb);replace b4:=ak (IsS80.below z19_2 hb);(try clear hb);(try clear hb2);(try clear hk);(try clear hi);(try clear ho0);(try clear ho1);obtain ⟨N8,N9,O0⟩:=Kd.S_slice f7.out;subst O0;obtain ⟨O1,O2,O3⟩:=Kd.R_slice e7.out;subst O3;obtain ⟨O4,O5,O6⟩:=Kd.S_slice h2.out;subst O6;obtain ⟨O7,O8,O9⟩:=Kd.R_slice g6.out;subst O9)|((with_reducible refine gate_callee (f:=108) rfl ?_);refine gl_ (some 45) Try.func108 #[.agg #[.slice N8 A7.length N9,.slice O1 A8.length O2],.agg #[.slice O4 A9.length O5,.slice O7 B0.length O8]] ?_;(with_reducible refine (spec_l20Glued.calls f3 _ _ A7 _ _ A8 _ _ A9 _ _ B0 l8 m8 _ (y1 f7.out) (y2 f7.out) (y1 e7.out) (y2 e7.out) (y1 h2.out) (y2 h2.out) (y1 g6.out) (y2 g6.out) A92.out).mono ?_);rintro e w' ⟨b0s,b0t,rfl,ho0,ho1,hb⟩;refine ⟨_,rfl,?_⟩;have u3:=ak (Kd.S_lower (Kd.S_new' (Kd.S_new' (Kd.S_new' (Kd.S_new' ho0 (Kd.S_lt (xS f7.out))) (Kd.R_lt (xR e7.out))) (Kd.S_lt (xS h2.out))) (Kd.R_lt (xR g6.out))) (keep_size (w:=w) (g:=g) (row:=none) z19_0));replace f7:=ak (Kd.S_mono (Kd.S_told (Kd.S_told (Kd.S_old (xS f7.out) hb) (Kd.S_base ho0)) (Kd.R_base ho1)) (fun _ h_=>h_.1));replace h2:=ak (Kd.S_mono (Kd.S_told (Kd.S_told (Kd.S_old (xS h2.out) hb) (Kd.S_base ho0)) (Kd.R_base ho1)) (fun _ h_=>h_.1));have u4:=ak (Kd.R_lower (Kd.R_new' (Kd.R_new' ho1 (Kd.R_lt (xR e7.out))) (Kd.R_lt (xR g6.out))) (keep_size (w:=w) (g:=g) (row:=none) z19_0));replace e7:=ak (Kd.R_elder' (xR e7.out) (Kd.R_base ho1) hb);replace g6:=ak (Kd.R_elder' (xR g6.out) (Kd.R_base ho1) hb);replace a4:=ak (blk_below (g:=b0) (o:=.cells #[.slice none 0 0,.slice none 0 0] 27 (0,0)) (xb a4.out) hb);replace a0:=ak (blk_below (g:=a7) (o:=.cells #[.slice none 0 0,.slice none 0 0] 27 (0,0)) (xb a0.out) hb);replace HK:=ak (KeepBut.trans z19_0 (KeepBut.of_below hb g none) (.inl rfl));replace HB:=ak (below_step z19_1 hb);replace b4:=ak (IsS80.below z19_2 hb);(try clear hb);(try clear hb2);(try clear hk);(try clear hi);(try clear ho0);(try clear ho1);obtain ⟨j6,j7,E2⟩:=Kd.S_slice u3.out;subst E2;have P0:=b6.out;have P1:=b3.out;have P2:=b2.out;have P3:=a8.out;have b8:=cz20 a0.out;have b9:=cz21 a0.out;have d0:=blk_frozen a0.out 0;have d1:=blk_frozen a0.out 1;obtain ⟨m9,n0,E3⟩:=Kd.R_slice u4.out;subst E3))
       go_meet
       case rel=>exact ⟨_,(g0),(l8),(m8),(.slice j6 l8.length j7),(.slice m9 m8.length n0),H',⟨z19_7⟩,⟨(by (with_reducible repeat (first|apply Kd.S_alloc|apply Kd.S_drewN|apply Kd.S_drew));exact Kd.S_mono (Kd.S_far (p:=⟨a7,1,none⟩) (Kd.S_far (p:=⟨a7,0,none⟩) (Kd.S_types u3.out a0.out z19_9) (fun _ hk=>hk.2) (.slice j6 l8.length j7)) (fun _ hk=>hk.2) (.slice m9 m8.length n0)) (fun _ hk=>hk.1.1.1.1.1))⟩,⟨Kd.Q_of_R (by (with_reducible repeat (first|apply Kd.R_alloc|apply Kd.R_drewN|apply Kd.R_drew));exact Kd.R_mono (Kd.R_far (p:=⟨a7,1,none⟩) (Kd.R_far (p:=⟨a7,0,none⟩) (Kd.R_types u4.out a0.out z19_9) (fun _ hk=>hk.2) (.slice j6 l8.length j7)) (fun _ hk=>hk.2) (.slice m9 m8.length n0)) (fun _ hk=>trivial))⟩,⟨z19_3⟩,⟨(by (with_reducible repeat (first|refine blk_drewN ?_ _|refine blk_drew ?_|refine blk_alloc ?_ _));refine blk_put (cs:=#[.slice j6 l8.length j7,.slice none 0 0]) ?_ 1 _ rfl;(with_reducible repeat (first|refine blk_drewN ?_ _|refine blk_drew ?_|refine blk_alloc ?_ _));refine blk_put (cs:=#[.slice none 0 0,.slice none 0 0]) ?_ 0 _ rfl;(with_reducible repeat (first|refine blk_drewN ?_ _|refine blk_drew ?_|refine blk_alloc ?_ _));exact a0.out)⟩,⟨z19_2⟩,⟨z19_0⟩,⟨z19_1⟩⟩
      obtain ⟨⟨l9,n1⟩,P4,H⟩:=bd_ H
      try dsimp only at H
      have H':=ak H
      clear H
      go_wp2_with (first|((with_reducible refine gate_callee (f:=110) rfl ?_);refine gl_ (some 13) Try.func110 #[] ?_;(with_reducible refine (spec_l20Pasted.calls f3  l9 n1 _ P4.out).mono ?_);rintro e w' ⟨b0u,b0v,rfl,ho0,ho1,hb⟩;refine ⟨_,rfl,?_⟩;have u5:=ak (Kd.S_lower ho0 (keep_size (w:=w) (g:=g) (row:=none) z19_0));have u7:=ak (Kd.R_lower ho1 (keep_size (w:=w) (g:=g) (row:=none) z19_0));replace a4:=ak (blk_below (g:=b0) (o:=.cells #[.slice none 0 0,.slice none 0 0] 27 (0,0)) (xb a4.out) hb);replace a0:=ak (blk_below (g:=a7) (o:=.cells #[.slice none 0 0,.slice none 0 0] 27 (0,0)) (xb a0.out) hb);replace HK:=ak (KeepBut.trans z19_0 (KeepBut.of_below hb g none) (.inl rfl));replace HB:=ak (below_step z19_1 hb);replace b4:=ak (IsS80.below z19_2 hb);(try clear hb);(try clear hb2);(try clear hk);(try clear hi);(try clear ho0);(try clear ho1);obtain ⟨j8,j9,E4⟩:=Kd.S_slice u5.out;subst E4;have P5:=b6.out;have P6:=b3.out;have P7:=b2.out;have P8:=a8.out;have b8:=cz20 a0.out;have b9:=cz21 a0.out;have d0:=blk_frozen a0.out 0;have d1:=blk_frozen a0.out 1;obtain ⟨n2,n3,E5⟩:=Kd.R_slice u7.out;subst E5))
      go_meet
      case rel=>exact ⟨_,(g0),(l9),(n1),(.slice j8 l9.length j9),(.slice n2 n1.length n3),H',⟨z19_7⟩,⟨(by (with_reducible repeat (first|apply Kd.S_alloc|apply Kd.S_drewN|apply Kd.S_drew));exact Kd.S_mono (Kd.S_far (p:=⟨a7,1,none⟩) (Kd.S_far (p:=⟨a7,0,none⟩) (Kd.S_types u5.out a0.out z19_9) (fun _ hk=>hk.2) (.slice j8 l9.length j9)) (fun _ hk=>hk.2) (.slice n2 n1.length n3)) (fun _ hk=>hk.1))⟩,⟨Kd.Q_of_R (by (with_reducible repeat (first|apply Kd.R_alloc|apply Kd.R_drewN|apply Kd.R_drew));exact Kd.R_mono (Kd.R_far (p:=⟨a7,1,none⟩) (Kd.R_far (p:=⟨a7,0,none⟩) (Kd.R_types u7.out a0.out z19_9) (fun _ hk=>hk.2) (.slice j8 l9.length j9)) (fun _ hk=>hk.2) (.slice n2 n1.length n3)) (fun _ hk=>trivial))⟩,⟨z19_3⟩,⟨(by (with_reducible repeat (first|refine blk_drewN ?_ _|refine blk_drew ?_|refine blk_alloc ?_ _));refine blk_put (cs:=#[.slice j8 l9.length j9,.slice none 0 0]) ?_ 1 _ rfl;(with_reducible repeat (first|refine blk_drewN ?_ _|refine blk_drew ?_|refine blk_alloc ?_ _));refine blk_put (cs:=#[.slice none 0 0,.slice none 0 0]) ?_ 0 _ rfl;(with_reducible repeat (first|refine blk_drewN ?_ _|refine blk_drew ?_|refine blk_alloc ?_ _));exact a0.out)⟩,⟨z19_2⟩,⟨z19_0⟩,⟨z19_1⟩⟩
 case rest =>
  clear G9
  try clear b8
  try clear b9
  try clear d0
  try clear d1
  obtain ⟨kq,f2,b5,e0,u426000,u426001,HA,D0,a3,a2,a4,a0,b4,HK,HB⟩:=hcut
  cases kq with
  | zero=>exact absurd HA.out (by simp [spec_l20Logic.j2])
  | succ P9 =>
   have H:=HA.out
   clear HA
   simp only [spec_l20Logic.j2] at H
   obtain ⟨y532,hy532⟩ : ∃ y_:List Int,y_=(([]:List Int)):=⟨_,rfl⟩
   replace H:(spec_l20Logic.l0 P9 a1 y532 0 s0_0 f2 b5 e0)=some (r1,r2,r3):=by first|(rw [hy532];with_reducible exact H)|(have H2_:=(Option.bind_some _ _).symm.trans H;rw [hy532];with_reducible exact H2_)|(have H2_:=(Option.bind_some _ _).symm.trans H;with_reducible exact H2_)|with_reducible exact H|(rw [hy532];exact H)|exact H
   have Ny532:=ak hy532
   clear hy532
   have H':=ak H
   clear H
   go_wp2_with (first|((with_reducible refine gate_dst (N:=46) rfl ?_);refine Kd.R_lit (Kd.int .i64) _ 3 ?hg (N:=46) ?hd (xs:=([]:List Int)) (inner:=[]) (ok:=fun _=>True) (okp:=fun _=>True) ?hr ?hp (fun _ hk=>hk) trivial (Below.refl _ _) (Nat.le_refl _) (by simp) ?_;(case hd=>rfl);(case hg=>rfl);(case hr=>first|(go_simp;done)|(go_simp;rfl));(case hp=>exact (Reps.none _ _));intro b0w b0x ho113 hb hg_ hnew_;clear hg_ hnew_;(first|rw [← Ny532.out] at ho113|(simp only [Int.reduceToNat] at ho113;rw [← Ny532.out] at ho113));replace a3:=ak (Kd.S_elder' (xS a3.out) (Kd.R_base ho113) hb);have E6:=ak (Kd.R_lower (Kd.R_new' ho113 (Kd.Q_lt (xQ a2.out))) (keep_size (w:=w) (g:=g) (row:=none) z19_0));replace a2:=ak (Kd.Q_elder' (xQ a2.out) (Kd.R_base ho113) hb);replace a4:=ak (blk_below (g:=b0) (o:=.cells #[.slice none 0 0,.slice none 0 0] 27 (0,0)) (xb a4.out) hb);replace a0:=ak (blk_below (g:=a7) (o:=.cells #[u426000,u426001] 27 (0,0)) (xb a0.out) hb);replace HK:=ak (KeepBut.trans z19_0 (KeepBut.of_below hb g none) (.inl rfl));replace HB:=ak (below_step z19_1 hb);replace b4:=ak (IsS80.below z19_2 hb);clear hb ho113))
   go_loopg [6,7] P9 (fun kq v6 v7 w'=>∃ (i9:List Int) (e1:Int) (d4:Int) (a9:List Int) (u426001:Value),v7 = .int .i64 e1∧Aside0 (spec_l20Logic.l0 kq a1 i9 e1 s0_0 d4 b5 a9=some (r1,r2,r3))∧Aside0 (kq≤P9)∧Aside0 (Kd.R (Kd.int .i64) 3 w' w.heap.size (fun k_=>some k_≠(u426001:Value).ownBlock) v6 i9)∧Aside0 (Kd.S (Kd.slice 3 (Kd.int .i64)) 25 w' w.heap.size (fun k_=>some k_≠(v6:Value).ownBlock∧some k_≠(u426001:Value).ownBlock) u426000 b5)∧Aside0 (Kd.Q (Kd.int .i64) 3 w' w.heap.size (fun k_=>some k_≠(v6:Value).ownBlock) u426001 a9)∧Aside0 (w'.heap[b0]?=some (.cells #[(.slice none 0 0),(.slice none 0 0)] 27 (0,0)))∧Aside0 (w'.heap[a7]?=some (.cells #[u426000,u426001] 27 (0,0)))∧Aside0 (IsS80 w0 w' g s0_0 d4)∧Aside0 (KeepBut w w' g none)∧Aside0 (Below w0.heap.size w0 w'))
   case atStart=>exact ⟨(y532),(0),(f2),(e0),(u426001),z19_12,H',⟨Nat.le_refl _⟩,⟨(by (with_reducible repeat (first|apply Kd.R_alloc|apply Kd.R_drewN|apply Kd.R_drew));exact Kd.R_mono E6.out (fun _ hk=>hk.2))⟩,⟨z19_4⟩,⟨z19_5⟩,⟨(xb a4.out)⟩,⟨(xb a0.out)⟩,⟨z19_2⟩,⟨z19_0⟩,⟨z19_1⟩⟩
   case round =>
    clear H'
    try clear b8
    try clear b9
    try clear d0
    try clear d1
    obtain ⟨i9,e1,d4,a9,u426001,rfl,HA,HK2,d2,a3,a2,a4,a0,b4,HK,HB⟩:=hrel
    cases gk with
    | zero=>exact absurd HA.out (by simp [spec_l20Logic.l0])
    | succ k2 =>
     have H:=HA.out
     clear HA
     simp only [spec_l20Logic.l0] at H
     replace H:=os_ H
     rcases H with ⟨j3,H⟩|⟨j3,H⟩
     ·
      obtain ⟨⟨f9,h9⟩,Q0,H⟩:=bd_ H
      try dsimp only at H
      replace H:=ok_ H
      obtain ⟨B1,H⟩:=H
      have LMc116:=ak B1
      clear B1
      obtain ⟨y537,hy537⟩ : ∃ y_:List Int,y_=(i9 ++ [e1]):=⟨_,rfl⟩
      replace H:(spec_l20Logic.l1 k2 a1 y537 e1 f9 e1 s0_0 h9 b5 a9)=some (r1,r2,r3):=by first|(rw [hy537];with_reducible exact H)|(have H2_:=(Option.bind_some _ _).symm.trans H;rw [hy537];with_reducible exact H2_)|(have H2_:=(Option.bind_some _ _).symm.trans H;with_reducible exact H2_)|with_reducible exact H|(rw [hy537];exact H)|exact H
      have Ny537:=ak hy537
      clear hy537
      have H':=ak H
      clear H
      have Q1:=b6.out
      have Q2:=b3.out
      have Q3:=b2.out
      have Q4:=a8.out
      have b8:=cz20 a0.out
      have b9:=cz21 a0.out
      have d0:=blk_frozen a0.out 0
      have d1:=blk_frozen a0.out 1
      obtain ⟨d8,d9,E7,_⟩:=Kd.Q_slice a2.out
      subst E7
      go_wp2_with (first|((with_reducible refine gate_callee (f:=62) rfl ?_);refine gl_ (some 57) Try.func62 #[.pointer (some ⟨g,0,none⟩),.int .i64 (wrap64 (e1+1))] ?_;(with_reducible refine (spec_l20Rd_pick.calls k2 g s0_0 d4 (wrap64 (e1+1)) f9 h9 w0 _ z19_2 z19_1 Q0.out).mono ?_);rintro e w' ⟨rfl,hi,hb,hk⟩;refine ⟨_,rfl,?_⟩;replace d2:=ak (Kd.R_mono (Kd.R_keep (IsS80.apart (show IsS80 w0 _ g s0_0 d4 from by repeat (first|(with_reducible first|exact b4.out|apply IsS80.alloc|apply IsS80.drewN|apply IsS80.drew|apply IsS80.set_1|refine IsS80.far ?_ b1.out _|refine IsS80.far ?_ a8.out _)|exact b4.out)) (xR d2.out) z19_9) hk (fun _ h=>h.2)) (fun _ h=>h.1));replace a3:=ak (Kd.S_mono (Kd.S_keep (IsS80.apartS (show IsS80 w0 _ g s0_0 d4 from by repeat (first|(with_reducible first|exact b4.out|apply IsS80.alloc|apply IsS80.drewN|apply IsS80.drew|apply IsS80.set_1|refine IsS80.far ?_ b1.out _|refine IsS80.far ?_ a8.out _)|exact b4.out)) (xS a3.out) z19_9) hk (fun _ h=>h.2)) (fun _ h=>h.1));replace a2:=ak (Kd.Q_mono (Kd.Q_keep (IsS80.apartQ (show IsS80 w0 _ g s0_0 d4 from by repeat (first|(with_reducible first|exact b4.out|apply IsS80.alloc|apply IsS80.drewN|apply IsS80.drew|apply IsS80.set_1|refine IsS80.far ?_ b1.out _|refine IsS80.far ?_ a8.out _)|exact b4.out)) (xQ a2.out) z19_9) hk (fun _ h=>h.2)) (fun _ h=>h.1));replace a4:=ak (KeepBut.blk hk (g':=b0) (o:=.cells #[.slice none 0 0,.slice none 0 0] 27 (0,0)) (xb a4.out) b7.out (by simp));replace a0:=ak (KeepBut.blk hk (g':=a7) (o:=.cells #[u426000,.slice d8 a9.length d9] 27 (0,0)) (xb a0.out) b2.out (by simp));replace HK:=ak (KeepBut.trans z19_0 hk (.inl rfl));replace HB:=ak (hb);replace b4:=ak (hi);(try clear hb);(try clear hb2);(try clear hk);(try clear hi))|((with_reducible refine gate_builtin (b:=.append) (xs:=#[.tmp 58,.tmp 60]) rfl ?_);at_builtin;refine Kd.R_append (Kd.int .i64) w.heap.size rfl (.tmp 58) (.tmp 60) 25 3 (.int .i64 0) 8 rfl Try.underlying25 info3 rfl z19_9 (by omega) u6 i9 e1 [.int .i64 e1] (fun k_=>some k_≠(.slice d8 a9.length d9:Value).ownBlock) (fun _=>False) rfl rfl ?aP (fun _ hk=>hk.elim) ?aF ?aO (Below.refl _ _) ?aS ?aL ?_;(case aP=>exact rfl);(case aF=>exact (fun k_ hk=>Kd.fresh' (Kd.Q_lt (xQ a2.out)) k_ hk));(case aO=>exact (xR d2.out));(case aS=>exact (keep_size (w:=w) (g:=g) (row:=none) z19_0));(case aL=>have:=LMc116.out;omega);intro B2 b0y ho hb hg hat;rw [← Ny537.out] at ho;replace a3:=ak (Kd.S_after (ok:=(fun k_=>some k_≠(.slice d8 a9.length d9:Value).ownBlock)) z19_4 hg hat);replace a2:=ak (Kd.Q_after (ok:=(fun _=>True)) z19_10 hg hat);replace a4:=ak (blk_grown (g:=b0) (o:=.cells #[.slice none 0 0,.slice none 0 0] 27 (0,0)) (xb a4.out) hg (Kd.R_ne d2.out a4.out z19_9));replace a0:=ak (blk_grown (g:=a7) (o:=.cells #[u426000,.slice d8 a9.length d9] 27 (0,0)) (xb a0.out) hg (Kd.R_ne d2.out a0.out z19_9));replace HB:=ak (below_weaken z19_1 HL.out hb);replace b4:=ak (IsS80.grown z19_2 hg (IsS80.own_ne b4.out d2.out z19_9));replace HK:=ak (KeepBut.trans z19_0 (KeepBut.of_grown hg g) (Kd.R_base2 d2.out));have E8:=ak (ho);clear d2;clear ho hb hg hat))
      go_loopg [9] k2 (fun kq v9 w'=>∃ (d5:List Int) (f0:Int),v9 = .int .i64 f0∧Aside0 (spec_l20Logic.l1 kq a1 d5 e1 f9 f0 s0_0 h9 b5 a9=some (r1,r2,r3))∧Aside0 (kq≤k2)∧Aside0 (Kd.R (Kd.int .i64) 3 w' w.heap.size (fun k_=>some k_≠((.slice d8 a9.length d9):Value).ownBlock) B2 d5)∧Aside0 (Kd.S (Kd.slice 3 (Kd.int .i64)) 25 w' w.heap.size (fun k_=>some k_≠(B2:Value).ownBlock∧some k_≠((.slice d8 a9.length d9):Value).ownBlock) u426000 b5)∧Aside0 (Kd.Q (Kd.int .i64) 3 w' w.heap.size (fun k_=>some k_≠(B2:Value).ownBlock) (.slice d8 a9.length d9) a9)∧Aside0 (w'.heap[b0]?=some (.cells #[(.slice none 0 0),(.slice none 0 0)] 27 (0,0)))∧Aside0 (w'.heap[a7]?=some (.cells #[u426000,(.slice d8 a9.length d9)] 27 (0,0)))∧Aside0 (IsS80 w0 w' g s0_0 h9)∧Aside0 (KeepBut w w' g none)∧Aside0 (Below w0.heap.size w0 w'))
      case atStart=>exact ⟨(y537),(e1),z19_12,H',⟨Nat.le_refl _⟩,⟨(xR E8.out)⟩,⟨z19_4⟩,⟨z19_5⟩,⟨(xb a4.out)⟩,⟨(xb a0.out)⟩,⟨z19_2⟩,⟨z19_0⟩,⟨z19_1⟩⟩
      case round =>
       clear H'
       try clear Q5
       try clear j3
       try clear B1
       try clear b8
       try clear b9
       try clear d0
       try clear d1
       obtain ⟨d5,f0,rfl,HA,HK3,d2,a3,a2,a4,a0,b4,HK,HB⟩:=hrel
       cases gk with
       | zero=>exact absurd HA.out (by simp [spec_l20Logic.l1])
       | succ k3 =>
        have H:=HA.out
        clear HA
        simp only [spec_l20Logic.l1] at H
        replace H:=op_ H
        rcases H with ⟨n4,H⟩|⟨n4,H⟩
        ·
         have B3:decide (f9<f0)=true:=dT_ n4
         clear n4
         obtain ⟨ji124,hji124⟩ : ∃ j_:Int,(wrap64 (f0-1))=j_:=⟨_,rfl⟩
         replace H:(if 0≤(ji124) then (if (ji124)<(d5.length:Int) then (if 0≤f0 then (if f0<(d5.length:Int) then (spec_l20Logic.l1 k3 a1 (d5.set (f0:Int).toNat (rd d5 (ji124))) e1 f9 ji124 s0_0 h9 b5 a9) else (none)) else (none)) else (none)) else (none))=some (r1,r2,r3):=by first|(rw [hji124] at H;exact H)|(simp only [hji124] at H ⊢;exact H)
         have hji124w:(IntKind.i64.wrap (f0-1))=ji124:=(i64_w _).trans hji124
         replace H:=od4 H
         obtain ⟨Q6,Q7,Q8,Q9,H⟩:=H
         obtain ⟨y541,hy541⟩ : ∃ y_:List Int,y_=(d5.set (f0:Int).toNat (rd d5 (ji124))):=⟨_,rfl⟩
         replace H:(spec_l20Logic.l1 k3 a1 y541 e1 f9 ji124 s0_0 h9 b5 a9)=some (r1,r2,r3):=by first|(rw [hy541];with_reducible exact H)|(have H2_:=(Option.bind_some _ _).symm.trans H;rw [hy541];with_reducible exact H2_)|(have H2_:=(Option.bind_some _ _).symm.trans H;with_reducible exact H2_)|with_reducible exact H|(rw [hy541];exact H)|exact H
         have Ny541:=ak hy541
         clear hy541
         have H':=ak H
         clear H
         obtain ⟨Y4,i0,E9⟩:=Kd.R_slice d2.out
         subst E9
         obtain ⟨ad540,e540,hx540_0,b0z,q540⟩:=ai_ (Kd.R_reads' d2.out).2.2 (ji124)
         cases e540
         have B4:0≤(f0:Int):=oa_
         have q129:(f0:Int)<((d5.length:Int):Int):=oa_
         obtain ⟨go129,Y5,u8,u9,gl129,cl129,HG129⟩:=Kd.R_form d2.out (by omega)
         (first|cases u8|(injection u8 with ea_ en_ ec_;(first|subst ea_|(injection ea_ with ea_;subst ea_));subst ec_;clear en_))
         have GB129:=ak u9
         have GG129:=ak HG129
         clear u9 gl129 HG129
         (first|simp only [add_plain] at hx540_0|skip)
         obtain ⟨hx129_0,hf129_0⟩:=Kd.R_celln 0 d2.out (f0:Int) B4 q129
         replace B4:=eq_true B4
         replace q129:=eq_true q129
         have HP131:=Kd.R_putg d2.out (f0:Int) (rd d5 (ji124))
         go_wp2_with (first|((with_reducible refine gate_store (t:=3) (p:=75) rfl ?_);refine store_event (t:=3) (p:=75) (v:=?vo_w132) (w1:=(wr.setCell ⟨go129,(f0:Int).toNat,none⟩ (.int .i64 (rd d5 (ji124))))) ?hg ?ho ?hn ?hr ?_;(case ho=>rfl);(case hg=>rfl);(case hn=>rfl);(case hr=>first|(go_simp;done)|(go_simp;rfl));intro B5 hw;have hg:wr.grownBy B5 (some go129):=(by rw [hw];exact HP131.2);have hp_:Kd.R (Kd.int .i64) 3 B5 w.heap.size (fun k_=>some k_≠(.slice d8 a9.length d9:Value).ownBlock) (.slice (some ⟨go129,0,none⟩) d5.length i0) y541:=(by rw [hw,Ny541.out];exact HP131.1);clear HP131;replace a3:=ak (Kd.S_after (v:=(.slice (some ⟨go129,0,none⟩) d5.length i0)) (v1:=(.slice (some ⟨go129,0,none⟩) d5.length i0)) (ok:=(fun k_=>some k_≠(.slice d8 a9.length d9:Value).ownBlock)) z19_4 hg (.inl rfl));replace a2:=ak (Kd.Q_after (v:=(.slice (some ⟨go129,0,none⟩) d5.length i0)) (v1:=(.slice (some ⟨go129,0,none⟩) d5.length i0)) (ok:=(fun _=>True)) z19_10 hg (.inl rfl));replace a4:=ak (blk_grown (g:=b0) (o:=.cells #[.slice none 0 0,.slice none 0 0] 27 (0,0)) (xb a4.out) hg (Kd.R_ne d2.out a4.out z19_9));replace a0:=ak (blk_grown (g:=a7) (o:=.cells #[u426000,.slice d8 a9.length d9] 27 (0,0)) (xb a0.out) hg (Kd.R_ne d2.out a0.out z19_9));replace b4:=ak (IsS80.grown z19_2 hg (IsS80.own_ne b4.out d2.out z19_9));replace HB:=ak ((by rw [hw];exact below_set (HB.out) (Nat.le_trans HL.out GB129.out):Below w0.heap.size w0 B5));replace HK:=ak (KeepBut.trans z19_0 (KeepBut.of_grown hg g) (Kd.R_base2 d2.out));replace d2:=ak (hp_);clear hg hw hp_))
         go_roundg k3
         case measure=>have:=D0.out;have:=HK2.out;have:=HK3.out;omega
         case rel=>exact ⟨(y541),(ji124),(by first|rfl|(simp;done)|(simp only [← hji124] <;> (first|rfl|simp))|(simp [*];done)),H',⟨(by have:=D0.out;have:=HK2.out;have:=HK3.out;omega)⟩,⟨(xR d2.out)⟩,⟨z19_4⟩,⟨z19_5⟩,⟨(xb a4.out)⟩,⟨(xb a0.out)⟩,⟨z19_2⟩,⟨z19_0⟩,⟨z19_1⟩⟩
        have B3:decide (f9<f0)=false:=dF_ n4
        clear n4
        replace H:=od2 H
        obtain ⟨R0,R1,H⟩:=H
        obtain ⟨y542,hy542⟩ : ∃ y_:List Int,y_=(d5.set (f9:Int).toNat e1):=⟨_,rfl⟩
        replace H:(spec_l20Logic.l0 k3 a1 y542 (wrap64 (e1+1)) s0_0 h9 b5 a9)=some (r1,r2,r3):=by first|(rw [hy542];with_reducible exact H)|(have H2_:=(Option.bind_some _ _).symm.trans H;rw [hy542];with_reducible exact H2_)|(have H2_:=(Option.bind_some _ _).symm.trans H;with_reducible exact H2_)|with_reducible exact H|(rw [hy542];exact H)|exact H
        have Ny542:=ak hy542
        clear hy542
        have H':=ak H
        clear H
        have B6:0≤(f9:Int):=oa_
        have q135:(f9:Int)<((d5.length:Int):Int):=oa_
        obtain ⟨go135,i1,v0,v2,gl135,cl135,HG135⟩:=Kd.R_form d2.out (by omega)
        (first|cases v0|(injection v0 with ea_ en_ ec_;(first|subst ea_|(injection ea_ with ea_;subst ea_));subst ec_;clear en_))
        have GB135:=ak v2
        have GG135:=ak HG135
        clear v2 gl135 HG135
        obtain ⟨hx135_0,hf135_0⟩:=Kd.R_celln 0 d2.out (f9:Int) B6 q135
        replace B6:=eq_true B6
        replace q135:=eq_true q135
        have HP136:=Kd.R_putg d2.out (f9:Int) e1
        go_wp2_with (first|((with_reducible refine gate_store (t:=3) (p:=79) rfl ?_);refine store_event (t:=3) (p:=79) (v:=?vo_w137) (w1:=(wr.setCell ⟨go135,(f9:Int).toNat,none⟩ (.int .i64 e1))) ?hg ?ho ?hn ?hr ?_;(case ho=>rfl);(case hg=>rfl);(case hn=>rfl);(case hr=>first|(go_simp;done)|(go_simp;rfl));intro B7 hw;have hg:wr.grownBy B7 (some go135):=(by rw [hw];exact HP136.2);have hp_:Kd.R (Kd.int .i64) 3 B7 w.heap.size (fun k_=>some k_≠(.slice d8 a9.length d9:Value).ownBlock) (.slice (some ⟨go135,0,none⟩) d5.length i1) y542:=(by rw [hw,Ny542.out];exact HP136.1);clear HP136;replace a3:=ak (Kd.S_after (v:=(.slice (some ⟨go135,0,none⟩) d5.length i1)) (v1:=(.slice (some ⟨go135,0,none⟩) d5.length i1)) (ok:=(fun k_=>some k_≠(.slice d8 a9.length d9:Value).ownBlock)) z19_4 hg (.inl rfl));replace a2:=ak (Kd.Q_after (v:=(.slice (some ⟨go135,0,none⟩) d5.length i1)) (v1:=(.slice (some ⟨go135,0,none⟩) d5.length i1)) (ok:=(fun _=>True)) z19_10 hg (.inl rfl));replace a4:=ak (blk_grown (g:=b0) (o:=.cells #[.slice none 0 0,.slice none 0 0] 27 (0,0)) (xb a4.out) hg (Kd.R_ne d2.out a4.out z19_9));replace a0:=ak (blk_grown (g:=a7) (o:=.cells #[u426000,.slice d8 a9.length d9] 27 (0,0)) (xb a0.out) hg (Kd.R_ne d2.out a0.out z19_9));replace b4:=ak (IsS80.grown z19_2 hg (IsS80.own_ne b4.out d2.out z19_9));replace HB:=ak ((by rw [hw];exact below_set (HB.out) (Nat.le_trans HL.out GB135.out):Below w0.heap.size w0 B7));replace HK:=ak (KeepBut.trans z19_0 (KeepBut.of_grown hg g) (Kd.R_base2 d2.out));replace d2:=ak (hp_);clear hg hw hp_))
        go_roundg k3
        case measure=>have:=D0.out;have:=HK2.out;have:=HK3.out;omega
        case rel=>exact ⟨(y542),(wrap64 (e1+1)),(h9),(a9),(.slice d8 a9.length d9),z19_12,H',⟨(by have:=D0.out;have:=HK2.out;have:=HK3.out;omega)⟩,⟨(xR d2.out)⟩,⟨z19_4⟩,⟨z19_5⟩,⟨(xb a4.out)⟩,⟨(xb a0.out)⟩,⟨z19_2⟩,⟨z19_0⟩,⟨z19_1⟩⟩
     obtain ⟨⟨R2,e3⟩,R3,H⟩:=bd_ H
     try dsimp only at H
     have n5:=ak H
     clear H
     have R4:=b6.out
     have R5:=b3.out
     have R6:=b2.out
     have R7:=a8.out
     have b8:=cz20 a0.out
     have b9:=cz21 a0.out
     have d0:=blk_frozen a0.out 0
     have d1:=blk_frozen a0.out 1
     obtain ⟨h3,h4,F0,_⟩:=Kd.Q_slice a2.out
     subst F0
     go_upto_if 82 with (first|((with_reducible refine gate_callee (f:=62) rfl ?_);refine gl_ (some 81) Try.func62 #[.pointer (some ⟨g,0,none⟩),.int .i64 2] ?_;(with_reducible refine (spec_l20Rd_pick.calls k2 g s0_0 d4 2 R2 e3 w0 _ z19_2 z19_1 R3.out).mono ?_);rintro e w' ⟨rfl,hi,hb,hk⟩;refine ⟨_,rfl,?_⟩;replace d2:=ak (Kd.R_mono (Kd.R_keep (IsS80.apart (show IsS80 w0 _ g s0_0 d4 from by repeat (first|(with_reducible first|exact b4.out|apply IsS80.alloc|apply IsS80.drewN|apply IsS80.drew|apply IsS80.set_1|refine IsS80.far ?_ b1.out _|refine IsS80.far ?_ a8.out _)|exact b4.out)) (xR d2.out) z19_9) hk (fun _ h=>h.2)) (fun _ h=>h.1));replace a3:=ak (Kd.S_mono (Kd.S_keep (IsS80.apartS (show IsS80 w0 _ g s0_0 d4 from by repeat (first|(with_reducible first|exact b4.out|apply IsS80.alloc|apply IsS80.drewN|apply IsS80.drew|apply IsS80.set_1|refine IsS80.far ?_ b1.out _|refine IsS80.far ?_ a8.out _)|exact b4.out)) (xS a3.out) z19_9) hk (fun _ h=>h.2)) (fun _ h=>h.1));replace a2:=ak (Kd.Q_mono (Kd.Q_keep (IsS80.apartQ (show IsS80 w0 _ g s0_0 d4 from by repeat (first|(with_reducible first|exact b4.out|apply IsS80.alloc|apply IsS80.drewN|apply IsS80.drew|apply IsS80.set_1|refine IsS80.far ?_ b1.out _|refine IsS80.far ?_ a8.out _)|exact b4.out)) (xQ a2.out) z19_9) hk (fun _ h=>h.2)) (fun _ h=>h.1));replace a4:=ak (KeepBut.blk hk (g':=b0) (o:=.cells #[.slice none 0 0,.slice none 0 0] 27 (0,0)) (xb a4.out) b7.out (by simp));replace a0:=ak (KeepBut.blk hk (g':=a7) (o:=.cells #[u426000,.slice h3 a9.length h4] 27 (0,0)) (xb a0.out) b2.out (by simp));replace HK:=ak (KeepBut.trans z19_0 hk (.inl rfl));replace HB:=ak (hb);replace b4:=ak (hi);(try clear hb);(try clear hb2);(try clear hk);(try clear hi)))
     (try simp only [Act.put,List.setIfInBounds_toArray,List.set_cons_zero,List.set_cons_succ])
     go_cut [] (fun wc=>∃ (kq:Nat) (a5:List (List Int)) (a6:List Int) (u426000:Value) (u426001:Value),Aside0 (spec_l20Logic.j5 kq a1 s0_0 e3 a5 a6=some (r1,r2,r3))∧Aside0 (kq≤k2)∧Aside0 (Kd.S (Kd.slice 3 (Kd.int .i64)) 25 wc w.heap.size (fun k_=>some k_≠(u426001:Value).ownBlock) u426000 a5)∧Aside0 (Kd.Q (Kd.int .i64) 3 wc w.heap.size (fun _=>True) u426001 a6)∧Aside0 (wc.heap[b0]?=some (.cells #[(.slice none 0 0),(.slice none 0 0)] 27 (0,0)))∧Aside0 (wc.heap[a7]?=some (.cells #[u426000,u426001] 27 (0,0)))∧Aside0 (IsS80 w0 wc g s0_0 e3)∧Aside0 (KeepBut w wc g none)∧Aside0 (Below w0.heap.size w0 wc))
     case first =>
      have H:=n5.out
      clear n5
      replace H:=oe2 H
      rcases H with ⟨⟨-,g7,B8⟩,H⟩|⟨⟨b10,g7,B8⟩,H⟩
      ·
       (first|rw [g7]|(simp only [i64_w,i32_w];rw [g7])|skip)
       obtain ⟨⟨m0,n6⟩,R8,H⟩:=bd_ H
       try dsimp only at H
       have H':=ak H
       clear H
       have R9:=b6.out
       have S0:=b3.out
       have S1:=b2.out
       have S2:=a8.out
       have b8:=cz20 a0.out
       have b9:=cz21 a0.out
       have d0:=blk_frozen a0.out 0
       have d1:=blk_frozen a0.out 1
       obtain ⟨n7,n8,F1⟩:=Kd.S_slice a3.out
       subst F1
       obtain ⟨F2,F3,F4⟩:=Kd.R_slice d2.out
       subst F4
       go_wp2_with (first|((with_reducible refine gate_callee (f:=111) rfl ?_);refine gl_ (some 85) Try.func111 #[.agg #[.slice n7 b5.length n8,.slice h3 a9.length h4],.slice F2 i9.length F3] ?_;(with_reducible refine (spec_l20Rename.calls k2 _ _ b5 _ _ a9 _ _ i9 m0 n6 _ (y1 a3.out) (y2 a3.out) (y1 a2.out) (y2 a2.out) (y1 d2.out) (y2 d2.out) R8.out).mono ?_);rintro e w' ⟨b11,b12,rfl,ho0,ho1,hb⟩;refine ⟨_,rfl,?_⟩;have v3:=ak (Kd.S_lower (Kd.S_new' (Kd.S_new' (Kd.S_new' ho0 (Kd.R_lt (xR d2.out))) (Kd.S_lt (xS a3.out))) (Kd.Q_lt (xQ a2.out))) (keep_size (w:=w) (g:=g) (row:=none) z19_0));replace a3:=ak (Kd.S_mono (Kd.S_told (Kd.S_told (Kd.S_old (xS a3.out) hb) (Kd.S_base ho0)) (Kd.R_base ho1)) (fun _ h_=>h_.1));have v4:=ak (Kd.R_lower (Kd.R_new' (Kd.R_new' ho1 (Kd.R_lt (xR d2.out))) (Kd.Q_lt (xQ a2.out))) (keep_size (w:=w) (g:=g) (row:=none) z19_0));replace d2:=ak (Kd.R_elder' (xR d2.out) (Kd.R_base ho1) hb);replace a2:=ak (Kd.Q_elder' (xQ a2.out) (Kd.R_base ho1) hb);replace a4:=ak (blk_below (g:=b0) (o:=.cells #[.slice none 0 0,.slice none 0 0] 27 (0,0)) (xb a4.out) hb);replace a0:=ak (blk_below (g:=a7) (o:=.cells #[.slice n7 b5.length n8,.slice h3 a9.length h4] 27 (0,0)) (xb a0.out) hb);replace HK:=ak (KeepBut.trans z19_0 (KeepBut.of_below hb g none) (.inl rfl));replace HB:=ak (below_step z19_1 hb);replace b4:=ak (IsS80.below z19_2 hb);(try clear hb);(try clear hb2);(try clear hk);(try clear hi);(try clear ho0);(try clear ho1);obtain ⟨k0,k1,F5⟩:=Kd.S_slice v3.out;subst F5;have b8:=cz20 a0.out;have b9:=cz21 a0.out;have d0:=blk_frozen a0.out 0;have d1:=blk_frozen a0.out 1;obtain ⟨n9,o0,F6⟩:=Kd.R_slice v4.out;subst F6))
       go_meet
       case rel=>exact ⟨_,(m0),(n6),(.slice k0 m0.length k1),(.slice n9 n6.length o0),H',⟨(by have:=D0.out;have:=HK2.out;first|omega|exact Nat.le_refl _)⟩,⟨(by (with_reducible repeat (first|apply Kd.S_alloc|apply Kd.S_drewN|apply Kd.S_drew));exact Kd.S_mono (Kd.S_far (p:=⟨a7,1,none⟩) (Kd.S_far (p:=⟨a7,0,none⟩) (Kd.S_types v3.out a0.out z19_9) (fun _ hk=>hk.2) (.slice k0 m0.length k1)) (fun _ hk=>hk.2) (.slice n9 n6.length o0)) (fun _ hk=>hk.1.1.1.1))⟩,⟨Kd.Q_of_R (by (with_reducible repeat (first|apply Kd.R_alloc|apply Kd.R_drewN|apply Kd.R_drew));exact Kd.R_mono (Kd.R_far (p:=⟨a7,1,none⟩) (Kd.R_far (p:=⟨a7,0,none⟩) (Kd.R_types v4.out a0.out z19_9) (fun _ hk=>hk.2) (.slice k0 m0.length k1)) (fun _ hk=>hk.2) (.slice n9 n6.length o0)) (fun _ hk=>trivial))⟩,⟨z19_3⟩,⟨(by (with_reducible repeat (first|refine blk_drewN ?_ _|refine blk_drew ?_|refine blk_alloc ?_ _));refine blk_put (cs:=#[.slice k0 m0.length k1,.slice h3 a9.length h4]) ?_ 1 _ rfl;(with_reducible repeat (first|refine blk_drewN ?_ _|refine blk_drew ?_|refine blk_alloc ?_ _));refine blk_put (cs:=#[.slice n7 b5.length n8,.slice h3 a9.length h4]) ?_ 0 _ rfl;(with_reducible repeat (first|refine blk_drewN ?_ _|refine blk_drew ?_|refine blk_alloc ?_ _));exact a0.out)⟩,⟨z19_2⟩,⟨z19_0⟩,⟨z19_1⟩⟩
      (first|rw [g7]|(simp only [i64_w,i32_w];rw [g7])|skip)
      have H':=ak H
      clear H
      go_wp2
      go_meet
      case rel=>exact ⟨_,(b5),(a9),(u426000),(.slice h3 a9.length h4),H',⟨(by have:=D0.out;have:=HK2.out;first|omega|exact Nat.le_refl _)⟩,⟨(by (with_reducible repeat (first|apply Kd.S_alloc|apply Kd.S_drewN|apply Kd.S_drew));exact Kd.S_mono a3.out (fun _ hk=>hk.2))⟩,⟨(by (with_reducible repeat (first|apply Kd.Q_alloc|apply Kd.Q_drewN|apply Kd.Q_drew));exact Kd.Q_mono a2.out (fun _ hk=>trivial))⟩,⟨(xb a4.out)⟩,⟨(xb a0.out)⟩,⟨z19_2⟩,⟨z19_0⟩,⟨z19_1⟩⟩
     case rest =>
      clear n5
      try clear Q5
      try clear j3
      try clear b8
      try clear b9
      try clear d0
      try clear d1
      obtain ⟨kq,a5,a6,u426000,u426001,HA,Y6,a3,a2,a4,a0,b4,HK,HB⟩:=hcut
      cases kq with
      | zero=>exact absurd HA.out (by simp [spec_l20Logic.j5])
      | succ e8 =>
       have H:=HA.out
       clear HA
       simp only [spec_l20Logic.j5] at H
       obtain ⟨⟨b13,e9⟩,m1,H⟩:=bd_ H
       try dsimp only at H
       replace H:=ox_ H
       rcases H with ⟨rfl,H⟩|⟨rfl,H⟩
       ·
        obtain ⟨⟨q8,g8⟩,o1,H⟩:=bd_ H
        try dsimp only at H
        replace H:=oe2 H
        rcases H with ⟨⟨-,B9,C0⟩,H⟩|⟨⟨b14,B9,C0⟩,H⟩
        ·
         simp only [Option.some.injEq,Prod.mk.injEq] at H
         obtain ⟨rfl,rfl,rfl⟩:=H
         go_wp2_with (first|((with_reducible refine gate_callee (f:=95) rfl ?_);refine gl_ (some 88) Try.func95 #[.pointer (some ⟨g,0,none⟩),.int .i64 a1] ?_;(with_reducible refine (spec_l20Rd_odd.calls e8 g s0_0 e3 a1 true e9 w0 _ z19_2 z19_1 m1.out).mono ?_);rintro e w' ⟨rfl,hi,hb,hk⟩;refine ⟨_,rfl,?_⟩;replace a3:=ak (Kd.S_mono (Kd.S_keep (IsS80.apartS (show IsS80 w0 _ g s0_0 e3 from by repeat (first|(with_reducible first|exact b4.out|apply IsS80.alloc|apply IsS80.drewN|apply IsS80.drew|apply IsS80.set_1|refine IsS80.far ?_ b1.out _|refine IsS80.far ?_ a8.out _)|exact b4.out)) (xS a3.out) z19_9) hk (fun _ h=>h.2)) (fun _ h=>h.1));replace a2:=ak (Kd.Q_mono (Kd.Q_keep (IsS80.apartQ (show IsS80 w0 _ g s0_0 e3 from by repeat (first|(with_reducible first|exact b4.out|apply IsS80.alloc|apply IsS80.drewN|apply IsS80.drew|apply IsS80.set_1|refine IsS80.far ?_ b1.out _|refine IsS80.far ?_ a8.out _)|exact b4.out)) (xQ a2.out) z19_9) hk (fun _ h=>h.2)) (fun _ h=>h.1));replace a4:=ak (KeepBut.blk hk (g':=b0) (o:=.cells #[.slice none 0 0,.slice none 0 0] 27 (0,0)) (xb a4.out) b7.out (by simp));replace a0:=ak (KeepBut.blk hk (g':=a7) (o:=.cells #[u426000,u426001] 27 (0,0)) (xb a0.out) b2.out (by simp));replace HK:=ak (KeepBut.trans z19_0 hk (.inl rfl));replace HB:=ak (hb);replace b4:=ak (hi);(try clear hb);(try clear hb2);(try clear hk);(try clear hi))|((with_reducible refine gate_callee (f:=62) rfl ?_);refine gl_ (some 90) Try.func62 #[.pointer (some ⟨g,0,none⟩),.int .i64 4] ?_;(with_reducible refine (spec_l20Rd_pick.calls e8 g s0_0 e9 4 q8 g8 w0 _ z19_2 z19_1 o1.out).mono ?_);rintro e w' ⟨rfl,hi,hb,hk⟩;refine ⟨_,rfl,?_⟩;replace a3:=ak (Kd.S_mono (Kd.S_keep (IsS80.apartS (show IsS80 w0 _ g s0_0 e9 from by repeat (first|(with_reducible first|exact b4.out|apply IsS80.alloc|apply IsS80.drewN|apply IsS80.drew|apply IsS80.set_1|refine IsS80.far ?_ b1.out _|refine IsS80.far ?_ a8.out _)|exact b4.out)) (xS a3.out) z19_9) hk (fun _ h=>h.2)) (fun _ h=>h.1));replace a2:=ak (Kd.Q_mono (Kd.Q_keep (IsS80.apartQ (show IsS80 w0 _ g s0_0 e9 from by repeat (first|(with_reducible first|exact b4.out|apply IsS80.alloc|apply IsS80.drewN|apply IsS80.drew|apply IsS80.set_1|refine IsS80.far ?_ b1.out _|refine IsS80.far ?_ a8.out _)|exact b4.out)) (xQ a2.out) z19_9) hk (fun _ h=>h.2)) (fun _ h=>h.1));replace a4:=ak (KeepBut.blk hk (g':=b0) (o:=.cells #[.slice none 0 0,.slice none 0 0] 27 (0,0)) (xb a4.out) b7.out (by simp));replace a0:=ak (KeepBut.blk hk (g':=a7) (o:=.cells #[u426000,u426001] 27 (0,0)) (xb a0.out) b2.out (by simp));replace HK:=ak (KeepBut.trans z19_0 hk (.inl rfl));replace HB:=ak (hb);replace b4:=ak (hi);(try clear hb);(try clear hb2);(try clear hk);(try clear hi);have S3:=b3.out;have S4:=b6.out;have S5:=b7.out;have S6:=b1.out;have b8:=cz20 a4.out;have b9:=cz21 a4.out;have d0:=blk_frozen a4.out 0;have d1:=blk_frozen a4.out 1))
         refine bodyPost_ret (results_cell_row rfl _ _ b0 27 #[.slice none 0 0,.slice none 0 0] (0,0) _ rfl (by (with_reducible repeat (first|refine blk_drewN ?_ _|refine blk_drew ?_|refine blk_alloc ?_ _));refine blk_put (cs:=#[.slice none 0 0,.slice none 0 0]) ?_ 1 _ rfl;(with_reducible repeat (first|refine blk_drewN ?_ _|refine blk_drew ?_|refine blk_alloc ?_ _));refine blk_put (cs:=#[.slice none 0 0,.slice none 0 0]) ?_ 0 _ rfl;(with_reducible repeat (first|refine blk_drewN ?_ _|refine blk_drew ?_|refine blk_alloc ?_ _));exact a4.out) Try.underlying27 rfl (by kernel_rfl)) rfl ?_
         exact ⟨_,_,z19_11,(by first|exact Kd.S_nil _ _ _ _ _|exact Kd.N_nil _ _ _ _ _|exact Kd.V_nil _ _ _ _ _|exact Kd.Q_nil _ _ _ _ _|exact Kd.R_nil _ _ _ _ _),Kd.Q_of_R (by first|exact Kd.R_nil _ _ _ _ _|exact Kd.N_nil _ _ _ _ _|exact Kd.V_nil _ _ _ _ _|exact Kd.Q_nil _ _ _ _ _|exact Kd.S_nil _ _ _ _ _),z19_2,z19_1,z19_0⟩
        replace H:=oe2 H
        rcases H with ⟨⟨-,C1,C2⟩,H⟩|⟨⟨b15,C1,C2⟩,H⟩
        ·
         replace H:=ok_ H
         obtain ⟨C3,H⟩:=H
         have S7:=eq_true C3
         have S8:decide (1≤(a6.length:Int))=true:=dT_ C3
         clear C3
         obtain ⟨y555,hy555⟩ : ∃ y_:List Int,y_=(a6.drop (1:Int).toNat):=⟨_,rfl⟩
         replace H:(some (a5,y555,g8))=some (r1,r2,r3):=by first|(rw [hy555];with_reducible exact H)|(have H2_:=(Option.bind_some _ _).symm.trans H;rw [hy555];with_reducible exact H2_)|(have H2_:=(Option.bind_some _ _).symm.trans H;with_reducible exact H2_)|with_reducible exact H|(rw [hy555];exact H)|exact H
         have Ny555:=ak hy555
         clear hy555
         simp only [Option.some.injEq,Prod.mk.injEq] at H
         obtain ⟨rfl,rfl,rfl⟩:=H
         go_wp2_with (first|((with_reducible refine gate_callee (f:=95) rfl ?_);refine gl_ (some 88) Try.func95 #[.pointer (some ⟨g,0,none⟩),.int .i64 a1] ?_;(with_reducible refine (spec_l20Rd_odd.calls e8 g s0_0 e3 a1 true e9 w0 _ z19_2 z19_1 m1.out).mono ?_);rintro e w' ⟨rfl,hi,hb,hk⟩;refine ⟨_,rfl,?_⟩;replace a3:=ak (Kd.S_mono (Kd.S_keep (IsS80.apartS (show IsS80 w0 _ g s0_0 e3 from by repeat (first|(with_reducible first|exact b4.out|apply IsS80.alloc|apply IsS80.drewN|apply IsS80.drew|apply IsS80.set_1|refine IsS80.far ?_ b1.out _|refine IsS80.far ?_ a8.out _)|exact b4.out)) (xS a3.out) z19_9) hk (fun _ h=>h.2)) (fun _ h=>h.1));replace a2:=ak (Kd.Q_mono (Kd.Q_keep (IsS80.apartQ (show IsS80 w0 _ g s0_0 e3 from by repeat (first|(with_reducible first|exact b4.out|apply IsS80.alloc|apply IsS80.drewN|apply IsS80.drew|apply IsS80.set_1|refine IsS80.far ?_ b1.out _|refine IsS80.far ?_ a8.out _)|exact b4.out)) (xQ a2.out) z19_9) hk (fun _ h=>h.2)) (fun _ h=>h.1));replace a4:=ak (KeepBut.blk hk (g':=b0) (o:=.cells #[.slice none 0 0,.slice none 0 0] 27 (0,0)) (xb a4.out) b7.out (by simp));replace a0:=ak (KeepBut.blk hk (g':=a7) (o:=.cells #[u426000,u426001] 27 (0,0)) (xb a0.out) b2.out (by simp));replace HK:=ak (KeepBut.trans z19_0 hk (.inl rfl));replace HB:=ak (hb);replace b4:=ak (hi);(try clear hb);(try clear hb2);(try clear hk);(try clear hi))|((with_reducible refine gate_callee (f:=62) rfl ?_);refine gl_ (some 90) Try.func62 #[.pointer (some ⟨g,0,none⟩),.int .i64 4] ?_;(with_reducible refine (spec_l20Rd_pick.calls e8 g s0_0 e9 4 q8 g8 w0 _ z19_2 z19_1 o1.out).mono ?_);rintro e S9 ⟨rfl,hi,hb,hk⟩;refine ⟨_,rfl,?_⟩;replace a3:=ak (Kd.S_mono (Kd.S_keep (IsS80.apartS (show IsS80 w0 _ g s0_0 e9 from by repeat (first|(with_reducible first|exact b4.out|apply IsS80.alloc|apply IsS80.drewN|apply IsS80.drew|apply IsS80.set_1|refine IsS80.far ?_ b1.out _|refine IsS80.far ?_ a8.out _)|exact b4.out)) (xS a3.out) z19_9) hk (fun _ h=>h.2)) (fun _ h=>h.1));replace a2:=ak (Kd.Q_mono (Kd.Q_keep (IsS80.apartQ (show IsS80 w0 _ g s0_0 e9 from by repeat (first|(with_reducible first|exact b4.out|apply IsS80.alloc|apply IsS80.drewN|apply IsS80.drew|apply IsS80.set_1|refine IsS80.far ?_ b1.out _|refine IsS80.far ?_ a8.out _)|exact b4.out)) (xQ a2.out) z19_9) hk (fun _ h=>h.2)) (fun _ h=>h.1));replace a4:=ak (KeepBut.blk hk (g':=b0) (o:=.cells #[.slice none 0 0,.slice none 0 0] 27 (0,0)) (xb a4.out) b7.out (by simp));replace a0:=ak (KeepBut.blk hk (g':=a7) (o:=.cells #[u426000,u426001] 27 (0,0)) (xb a0.out) b2.out (by simp));replace HK:=ak (KeepBut.trans z19_0 hk (.inl rfl));replace HB:=ak (hb);replace b4:=ak (hi);(try clear hb);(try clear hb2);(try clear hk);(try clear hi);have T0:=b6.out;have T1:=b3.out;have T2:=b2.out;have T3:=a8.out;have b8:=cz20 a0.out;have b9:=cz21 a0.out;have d0:=blk_frozen a0.out 0;have d1:=blk_frozen a0.out 1;obtain ⟨i2,k4,F7,_⟩:=Kd.Q_slice a2.out;subst F7;have q173:(1:Int)≤((a6.length:Int):Int):=oa_;obtain ⟨i0173,hi0173,_,hsz173,_⟩:=info_parts info3;have hcut173:=cut_from (P:=Try.prog) 25 3 .i64 Try.underlying25 hi0173 1 hsz173 i2 a6.length k4 1 (by omega) q173;have hr173:=Kd.Q_drop (k:=(1:Int).toNat) a2.out (by omega);obtain ⟨i3,hA173⟩ : ∃ A1,A1=(if k4=(1:Int).toNat then i2 else (i2:Option Addr).map (·.add ((1:Int).toNat*1))):=⟨_,rfl⟩;obtain ⟨i4,hc173⟩ : ∃ c1,c1=k4-(1:Int).toNat:=⟨_,rfl⟩;have hy173:y555.length=a6.length-(1:Int).toNat:=(by rw [Ny555.out,List.length_drop]);rw [← Ny555.out] at hr173;rw [← hy173,← hA173,← hc173] at hcut173;replace hr173:Kd.Q (Kd.int .i64) 3 S9 w.heap.size (fun _=>True) (.slice i3 y555.length i4) y555:=(by rw [hA173,hc173,hy173];exact hr173);have HE173:Aside0 ((Value.slice i3 y555.length i4).ownBlock=(.slice i2 a6.length k4:Value).ownBlock):=⟨(by rw [hA173];split <;> (cases (i2:Option Addr) <;> rfl))⟩;clear hy173 hi0173 hsz173 a2 hA173 hc173;have F8:=ak hr173;clear hr173;replace q173:=eq_true q173;have n_:=ak (Kd.S_mono (ok':=fun k_=>some k_≠(.slice i3 y555.length i4:Value).ownBlock) a3.out (fun k_ hk=>(by rw [HE173.out];exact hk)));clear a3;have a3:=n_;clear n_;obtain ⟨k5,k6,F9⟩:=Kd.S_slice a3.out;subst F9;have T4:=b7.out;have T5:=b1.out;have b8:=cz20 a4.out;have b9:=cz21 a4.out;have d0:=blk_frozen a4.out 0;have d1:=blk_frozen a4.out 1))
         refine bodyPost_ret (results_cell_row rfl _ _ b0 27 #[.slice k5 a5.length k6,.slice i3 y555.length i4] (0,0) _ rfl (by (with_reducible repeat (first|refine blk_drewN ?_ _|refine blk_drew ?_|refine blk_alloc ?_ _));refine blk_put (cs:=#[.slice k5 a5.length k6,.slice none 0 0]) ?_ 1 _ rfl;(with_reducible repeat (first|refine blk_drewN ?_ _|refine blk_drew ?_|refine blk_alloc ?_ _));refine blk_put (cs:=#[.slice none 0 0,.slice none 0 0]) ?_ 0 _ rfl;(with_reducible repeat (first|refine blk_drewN ?_ _|refine blk_drew ?_|refine blk_alloc ?_ _));refine blk_far ?_ b3.out _;(with_reducible repeat (first|refine blk_drewN ?_ _|refine blk_drew ?_|refine blk_alloc ?_ _));exact a4.out) Try.underlying27 rfl (by kernel_rfl)) rfl ?_
         exact ⟨_,_,z19_11,(by (with_reducible repeat (first|apply Kd.S_alloc|apply Kd.S_drewN|apply Kd.S_drew));exact Kd.S_mono (Kd.S_far (p:=⟨b0,1,none⟩) (Kd.S_far (p:=⟨b0,0,none⟩) (Kd.S_far (p:=⟨a7,1,none⟩) (Kd.S_types (Kd.S_types a3.out a0.out z19_9) a4.out z19_9) (fun _ hk=>hk.1.2) (.slice i3 y555.length i4)) (fun _ hk=>hk.2) (.slice k5 a5.length k6)) (fun _ hk=>hk.2) (.slice i3 y555.length i4)) (fun _ hk=>hk.1.1)),(by (with_reducible repeat (first|apply Kd.Q_alloc|apply Kd.Q_drewN|apply Kd.Q_drew));exact Kd.Q_mono (Kd.Q_far (p:=⟨b0,1,none⟩) (Kd.Q_far (p:=⟨b0,0,none⟩) (Kd.Q_far (p:=⟨a7,1,none⟩) (Kd.Q_types (Kd.Q_types F8.out a0.out z19_9) a4.out z19_9) (fun _ hk=>hk.1.2) (.slice i3 y555.length i4)) (fun _ hk=>hk.2) (.slice k5 a5.length k6)) (fun _ hk=>hk.2) (.slice i3 y555.length i4)) (fun _ hk=>trivial)),z19_2,z19_1,z19_0⟩
        replace H:=oe2 H
        rcases H with ⟨⟨-,C4,C5⟩,H⟩|⟨⟨b16,C4,C5⟩,H⟩
        ·
         obtain ⟨⟨f1,q9⟩,T6,H⟩:=bd_ H
         try dsimp only at H
         obtain ⟨⟨g1,C6⟩,T7,H⟩:=bd_ H
         try dsimp only at H
         replace H:=od2 H
         obtain ⟨T8,T9,H⟩:=H
         obtain ⟨y562,hy562⟩ : ∃ y_:List Int,y_=(a6.set (f1:Int).toNat g1):=⟨_,rfl⟩
         replace H:(some (a5,y562,C6))=some (r1,r2,r3):=by first|(rw [hy562];with_reducible exact H)|(have H2_:=(Option.bind_some _ _).symm.trans H;rw [hy562];with_reducible exact H2_)|(have H2_:=(Option.bind_some _ _).symm.trans H;with_reducible exact H2_)|with_reducible exact H|(rw [hy562];exact H)|exact H
         have Ny562:=ak hy562
         clear hy562
         simp only [Option.some.injEq,Prod.mk.injEq] at H
         obtain ⟨rfl,rfl,rfl⟩:=H
         try go_wp2_with (first|((with_reducible refine gate_callee (f:=95) rfl ?_);refine gl_ (some 88) Try.func95 #[.pointer (some ⟨g,0,none⟩),.int .i64 a1] ?_;(with_reducible refine (spec_l20Rd_odd.calls e8 g s0_0 e3 a1 true e9 w0 _ z19_2 z19_1 m1.out).mono ?_);rintro e w' ⟨rfl,hi,hb,hk⟩;refine ⟨_,rfl,?_⟩;replace a3:=ak (Kd.S_mono (Kd.S_keep (IsS80.apartS (show IsS80 w0 _ g s0_0 e3 from by repeat (first|(with_reducible first|exact b4.out|apply IsS80.alloc|apply IsS80.drewN|apply IsS80.drew|apply IsS80.set_1|refine IsS80.far ?_ b1.out _|refine IsS80.far ?_ a8.out _)|exact b4.out)) (xS a3.out) z19_9) hk (fun _ h=>h.2)) (fun _ h=>h.1));replace a2:=ak (Kd.Q_mono (Kd.Q_keep (IsS80.apartQ (show IsS80 w0 _ g s0_0 e3 from by repeat (first|(with_reducible first|exact b4.out|apply IsS80.alloc|apply IsS80.drewN|apply IsS80.drew|apply IsS80.set_1|refine IsS80.far ?_ b1.out _|refine IsS80.far ?_ a8.out _)|exact b4.out)) (xQ a2.out) z19_9) hk (fun _ h=>h.2)) (fun _ h=>h.1));replace a4:=ak (KeepBut.blk hk (g':=b0) (o:=.cells #[.slice none 0 0,.slice none 0 0] 27 (0,0)) (xb a4.out) b7.out (by simp));replace a0:=ak (KeepBut.blk hk (g':=a7) (o:=.cells #[u426000,u426001] 27 (0,0)) (xb a0.out) b2.out (by simp));replace HK:=ak (KeepBut.trans z19_0 hk (.inl rfl));replace HB:=ak (hb);replace b4:=ak (hi);(try clear hb);(try clear hb2);(try clear hk);(try clear hi))|((with_reducible refine gate_callee (f:=62) rfl ?_);refine gl_ (some 90) Try.func62 #[.pointer (some ⟨g,0,none⟩),.int .i64 4] ?_;(with_reducible refine (spec_l20Rd_pick.calls e8 g s0_0 e9 4 q8 g8 w0 _ z19_2 z19_1 o1.out).mono ?_);rintro e U0 ⟨rfl,hi,hb,hk⟩;refine ⟨_,rfl,?_⟩;replace a3:=ak (Kd.S_mono (Kd.S_keep (IsS80.apartS (show IsS80 w0 _ g s0_0 e9 from by repeat (first|(with_reducible first|exact b4.out|apply IsS80.alloc|apply IsS80.drewN|apply IsS80.drew|apply IsS80.set_1|refine IsS80.far ?_ b1.out _|refine IsS80.far ?_ a8.out _)|exact b4.out)) (xS a3.out) z19_9) hk (fun _ h=>h.2)) (fun _ h=>h.1));replace a2:=ak (Kd.Q_mono (Kd.Q_keep (IsS80.apartQ (show IsS80 w0 _ g s0_0 e9 from by repeat (first|(with_reducible first|exact b4.out|apply IsS80.alloc|apply IsS80.drewN|apply IsS80.drew|apply IsS80.set_1|refine IsS80.far ?_ b1.out _|refine IsS80.far ?_ a8.out _)|exact b4.out)) (xQ a2.out) z19_9) hk (fun _ h=>h.2)) (fun _ h=>h.1));replace a4:=ak (KeepBut.blk hk (g':=b0) (o:=.cells #[.slice none 0 0,.slice none 0 0] 27 (0,0)) (xb a4.out) b7.out (by simp));replace a0:=ak (KeepBut.blk hk (g':=a7) (o:=.cells #[u426000,u426001] 27 (0,0)) (xb a0.out) b2.out (by simp));replace HK:=ak (KeepBut.trans z19_0 hk (.inl rfl));replace HB:=ak (hb);replace b4:=ak (hi);(try clear hb);(try clear hb2);(try clear hk);(try clear hi)))
         replace a3:=ak (Kd.S_drew a3.out)
         replace a2:=ak (Kd.Q_drew a2.out)
         replace a4:=ak (blk_drew a4.out)
         replace a0:=ak (blk_drew a0.out)
         replace b4:=ak (IsS80.drew b4.out)
         replace HK:=ak (keep_drew HK.out)
         replace HB:=ak (below_drew1 HB.out)
         obtain ⟨o2,f8,v5,_⟩:=Kd.Q_slice a2.out
         (first|subst v5|(injection v5 with f1_ f2_ f3_;have f4_:=f1_.symm;have f5_:=f3_.symm;clear f1_ f2_ f3_;subst f4_;subst f5_))
         refine start_ (n:=15) (S:=fun w'=>w'.cell? ⟨a7,0,none⟩=some (u426000)∧w'.cell? ⟨a7,1,none⟩=some (.slice o2 a6.length f8)) (ds:=[14]) (bA 15 0) (by kernel_rfl) rfl rfl ⟨(blk_cell a0.out 0).trans rfl,(blk_cell a0.out 1).trans rfl⟩ (fun hHeld=>?_);refine with_tabW spec_l20Logic.tab39 spec_l20Logic.bits39 (fun HT_ HW_=>?_)
         generalize U0.drew=b17 at a3 a2 a4 a0 b4 HK HB hHeld ⊢
         refine pu_ (i:=0) (N:=some 111) (bA 15 1) ?_
         refine pu_ (i:=2) (N:=some 113) (bA 15 5) ?_
         refine pu_ (i:=3) (N:=some 114) (bA 15 13) ?_
         refine pu_ (i:=7) (N:=some 118) (bA 15 141) ?_
         refine pu_ (i:=8) (N:=some 119) (bA 15 397) ?_
         refine tk_ (i:=1) (N:=some 112) (bA 15 399) ?_
         refine tk_ (i:=4) (N:=some 115) (bA 15 415) ?_
         refine pu_ (i:=5) (N:=some 116) (bA 15 447) ?_
         refine tk_ (i:=9) (N:=some 120) (bA 15 959) ?_
         refine pu_ (i:=10) (N:=some 121) (bA 15 1983) ?_
         refine pu_ (i:=11) (N:=some 122) (bA 15 4031) ?_
         refine one_ (i:=6) (N:=some 117) (bA 15 4095) rfl rfl (one_of HT_.out (by kernel_rfl)) z19_9 (fun K hK=>?_)
         refine ge_ Try.func62 #[.pointer (some ⟨g,0,none⟩),.int .i64 (a6.length:Int)] ?_
         with_reducible refine (spec_l20Rd_pick.calls e8 g s0_0 g8 (a6.length:Int) f1 q9 w0 _ ?side1 ?side2 T6.out).mono ?_
         (case side1=>repeat (first|(with_reducible first|exact b4.out|apply IsS80.alloc|apply IsS80.drewN|apply IsS80.drew|apply IsS80.set_1|refine IsS80.far ?_ b1.out _|refine IsS80.far ?_ a8.out _)|exact b4.out))
         (case side2=>repeat (first|(with_reducible first|exact HB.out|apply below_alloc|apply pw_below_drewN|apply below_drew1|refine below_set ?_ (IsS80.ge b4.out)|refine below_set ?_ h6.out|refine below_set ?_ j4.out)|exact HB.out))
         rintro e w' ⟨rfl,hi,hb,hk⟩
         refine ⟨_,rfl,?_⟩
         replace a3:=ak (Kd.S_mono (Kd.S_keep (IsS80.apartS (show IsS80 w0 _ g s0_0 g8 from by repeat (first|(with_reducible first|exact b4.out|apply IsS80.alloc|apply IsS80.drewN|apply IsS80.drew|apply IsS80.set_1|refine IsS80.far ?_ b1.out _|refine IsS80.far ?_ a8.out _)|exact b4.out)) (xS a3.out) z19_9) hk (fun _ h=>h.2)) (fun _ h=>h.1))
         replace a2:=ak (Kd.Q_mono (Kd.Q_keep (IsS80.apartQ (show IsS80 w0 _ g s0_0 g8 from by repeat (first|(with_reducible first|exact b4.out|apply IsS80.alloc|apply IsS80.drewN|apply IsS80.drew|apply IsS80.set_1|refine IsS80.far ?_ b1.out _|refine IsS80.far ?_ a8.out _)|exact b4.out)) (xQ a2.out) z19_9) hk (fun _ h=>h.2)) (fun _ h=>h.1))
         replace a4:=ak (KeepBut.blk hk (g':=b0) (o:=.cells #[.slice none 0 0,.slice none 0 0] 27 (0,0)) (xb a4.out) b7.out (by simp))
         replace a0:=ak (KeepBut.blk hk (g':=a7) (o:=.cells #[u426000,.slice o2 a6.length f8] 27 (0,0)) (xb a0.out) b2.out (by simp))
         replace HK:=ak (KeepBut.trans z19_0 hk (.inl rfl))
         replace HB:=ak (hb)
         replace b4:=ak (hi)
         (try clear hb)
         (try clear hb2)
         (try clear hk)
         (try clear hi)
         refine hK.out _ _ ⟨(blk_cell a0.out 0).trans rfl,(blk_cell a0.out 1).trans rfl⟩ (fun hHeld=>?_)
         clear hK K
         refine no_ (N:=some 117) ?_
         refine one_ (i:=12) (N:=some 123) (bA 15 8191) rfl rfl (one_of HT_.out (by kernel_rfl)) z19_9 (fun K hK=>?_)
         refine ge_ Try.func62 #[.pointer (some ⟨g,0,none⟩),.int .i64 (wrap64 ((a6.length:Int)+1))] ?_
         with_reducible refine (spec_l20Rd_pick.calls e8 g s0_0 q9 (wrap64 ((a6.length:Int)+1)) g1 C6 w0 _ ?side1 ?side2 T7.out).mono ?_
         (case side1=>repeat (first|(with_reducible first|exact b4.out|apply IsS80.alloc|apply IsS80.drewN|apply IsS80.drew|apply IsS80.set_1|refine IsS80.far ?_ b1.out _|refine IsS80.far ?_ a8.out _)|exact b4.out))
         (case side2=>repeat (first|(with_reducible first|exact HB.out|apply below_alloc|apply pw_below_drewN|apply below_drew1|refine below_set ?_ (IsS80.ge b4.out)|refine below_set ?_ h6.out|refine below_set ?_ j4.out)|exact HB.out))
         rintro e i5 ⟨rfl,hi,hb,hk⟩
         refine ⟨_,rfl,?_⟩
         replace a3:=ak (Kd.S_mono (Kd.S_keep (IsS80.apartS (show IsS80 w0 _ g s0_0 q9 from by repeat (first|(with_reducible first|exact b4.out|apply IsS80.alloc|apply IsS80.drewN|apply IsS80.drew|apply IsS80.set_1|refine IsS80.far ?_ b1.out _|refine IsS80.far ?_ a8.out _)|exact b4.out)) (xS a3.out) z19_9) hk (fun _ h=>h.2)) (fun _ h=>h.1))
         replace a2:=ak (Kd.Q_mono (Kd.Q_keep (IsS80.apartQ (show IsS80 w0 _ g s0_0 q9 from by repeat (first|(with_reducible first|exact b4.out|apply IsS80.alloc|apply IsS80.drewN|apply IsS80.drew|apply IsS80.set_1|refine IsS80.far ?_ b1.out _|refine IsS80.far ?_ a8.out _)|exact b4.out)) (xQ a2.out) z19_9) hk (fun _ h=>h.2)) (fun _ h=>h.1))
         replace a4:=ak (KeepBut.blk hk (g':=b0) (o:=.cells #[.slice none 0 0,.slice none 0 0] 27 (0,0)) (xb a4.out) b7.out (by simp))
         replace a0:=ak (KeepBut.blk hk (g':=a7) (o:=.cells #[u426000,.slice o2 a6.length f8] 27 (0,0)) (xb a0.out) b2.out (by simp))
         replace HK:=ak (KeepBut.trans z19_0 hk (.inl rfl))
         replace HB:=ak (hb)
         replace b4:=ak (hi)
         (try clear hb)
         (try clear hb2)
         (try clear hk)
         (try clear hi)
         have C7:0≤(f1:Int):=oa_
         have q182:(f1:Int)<((a6.length:Int):Int):=oa_
         obtain ⟨go182,oo182,Y7,v8,x0,gl182,cl182,HG182⟩:=Kd.Q_form a2.out (by omega)
         (first|cases v8|(injection v8 with ea_ en_ ec_;(first|subst ea_|(injection ea_ with ea_;subst ea_));subst ec_;clear en_))
         have GB182:=ak x0
         have GG182:=ak HG182
         clear x0 gl182 HG182
         obtain ⟨hx182_0,hf182_0⟩:=Kd.Q_cell 0 a2.out (f1:Int) C7 q182
         replace C7:=eq_true C7
         replace q182:=eq_true q182
         have HN0_go182:=ak (show g≠go182 from by have h_:=IsS80.own_neQ b4.out a2.out z19_9;intro e_;exact h_ (by rw [e_];rfl))
         have HP189:=(Kd.Q_putg a2.out (f1:Int) (oa_) (by have h_:(f1:Int)<((a6.length:Int):Int):=oa_;first|exact h_|(have e_:=(Kd.Q_reads' a2.out).1;omega)|simpa using h_) g1).1
         rw [← Ny562.out] at HP189
         have HQ189:=ak HP189
         clear HP189
         refine hK.out _ _ ⟨(blk_cell a0.out 0).trans rfl,(blk_cell a0.out 1).trans rfl⟩ (fun hHeld=>?_)
         clear hK K
         refine no_ (N:=some 123) ?_
         refine pu_ (i:=13) (N:=some 124) (bA 15 16383) ?_
         refine last_ (i:=14) (N:=none) (bA 15 32767) rfl rfl (one_of HT_.out (by kernel_rfl)) z19_9 (fun K hK=>?_)
         refine skip_ (w1:=?_) (by rfl) rfl ?_ ?_
         rotate_left
         ·
          go_simp
          rfl
         refine hK.out _ _ ?_
         clear hK K
         refine done_ (done_of HT_.out (by kernel_rfl)) ?_
         have n0_:Aside0 (Kd.S (Kd.slice 3 (Kd.int .i64)) 25 (i5.setCell ⟨go182,oo182+(f1:Int).toNat,none⟩ (.int .i64 g1)) w.heap.size (fun k_=>some k_≠(.slice (some ⟨go182,oo182,none⟩) a6.length f8:Value).ownBlock) u426000 a5):=⟨(by (with_reducible repeat (first|apply Kd.S_alloc|apply Kd.S_drewN|apply Kd.S_drew));exact Kd.S_mono (Kd.S_far (p:=⟨go182,oo182+(f1:Int).toNat,none⟩) (Kd.S_mono a3.out (fun k_ hk=>(⟨hk,fun e_=>hk (by rw [e_];rfl)⟩:_∧k_≠go182))) (fun _ hk=>hk.2) (.int .i64 g1)) (fun _ hk=>hk.1))⟩
         have n1_:Aside0 (Kd.Q (Kd.int .i64) 3 (i5.setCell ⟨go182,oo182+(f1:Int).toNat,none⟩ (.int .i64 g1)) w.heap.size (fun _=>True) (.slice (some ⟨go182,oo182,none⟩) a6.length f8) y562):=⟨(xQ HQ189.out)⟩
         have n2_:Aside0 ((i5.setCell ⟨go182,oo182+(f1:Int).toNat,none⟩ (.int .i64 g1)).heap[b0]?=some (.cells #[.slice none 0 0,.slice none 0 0] 27 (0,0))):=⟨(by (with_reducible repeat (first|refine blk_drewN ?_ _|refine blk_drew ?_|refine blk_alloc ?_ _));refine blk_far ?_ (by have h_:=Kd.Q_ne a2.out a4.out z19_9;intro e_;exact h_ (by rw [e_];rfl)) _;(with_reducible repeat (first|refine blk_drewN ?_ _|refine blk_drew ?_|refine blk_alloc ?_ _));exact a4.out)⟩
         have n3_:Aside0 ((i5.setCell ⟨go182,oo182+(f1:Int).toNat,none⟩ (.int .i64 g1)).heap[a7]?=some (.cells #[u426000,.slice (some ⟨go182,oo182,none⟩) a6.length f8] 27 (0,0))):=⟨(by (with_reducible repeat (first|refine blk_drewN ?_ _|refine blk_drew ?_|refine blk_alloc ?_ _));refine blk_far ?_ (by have h_:=Kd.Q_ne a2.out a0.out z19_9;intro e_;exact h_ (by rw [e_];rfl)) _;(with_reducible repeat (first|refine blk_drewN ?_ _|refine blk_drew ?_|refine blk_alloc ?_ _));exact a0.out)⟩
         have n4_:Aside0 (IsS80 w0 (i5.setCell ⟨go182,oo182+(f1:Int).toNat,none⟩ (.int .i64 g1)) g s0_0 C6):=⟨(by repeat (first|(with_reducible first|exact b4.out|apply IsS80.alloc|apply IsS80.drewN|apply IsS80.drew|apply IsS80.set_1|refine IsS80.far ?_ HN0_go182.out _|refine IsS80.far ?_ b1.out _|refine IsS80.far ?_ a8.out _)|exact b4.out))⟩
         have n5_:Aside0 (KeepBut w (i5.setCell ⟨go182,oo182+(f1:Int).toNat,none⟩ (.int .i64 g1)) g none):=⟨(by repeat (first|(with_reducible first|exact HK.out|apply KeepBut.set_|apply keep_drewN|apply keep_drew|apply keep_alloc|refine keep_far ?_ GB182.out _|refine keep_far ?_ m2.out _|refine keep_far ?_ s2.out _)|exact HK.out))⟩
         have n6_:Aside0 (Below w0.heap.size w0 (i5.setCell ⟨go182,oo182+(f1:Int).toNat,none⟩ (.int .i64 g1))):=⟨(by repeat (first|(with_reducible first|exact HB.out|apply below_alloc|apply pw_below_drewN|apply below_drew1|refine below_set ?_ (Nat.le_trans HL.out GB182.out)|refine below_set ?_ (IsS80.ge b4.out)|refine below_set ?_ h6.out|refine below_set ?_ j4.out)|exact HB.out))⟩
         (try clear a3)
         (try clear a2)
         (try clear a4)
         (try clear a0)
         (try clear b4)
         (try clear HK)
         (try clear HB)
         generalize (i5.setCell ⟨go182,oo182+(f1:Int).toNat,none⟩ (.int .i64 g1))=b18 at n0_ n1_ n2_ n3_ n4_ n5_ n6_ ⊢
         have a3:=n0_
         have a2:=n1_
         have a4:=n2_
         have a0:=n3_
         have b4:=n4_
         have HK:=n5_
         have HB:=n6_
         clear n0_ n1_ n2_ n3_ n4_ n5_ n6_
         have U1:=b6.out
         have U2:=b3.out
         have U3:=b2.out
         have U4:=a8.out
         have b8:=cz20 a0.out
         have b9:=cz21 a0.out
         have d0:=blk_frozen a0.out 0
         have d1:=blk_frozen a0.out 1
         obtain ⟨k7,k8,G0⟩:=Kd.S_slice a3.out
         subst G0
         have U5:=b7.out
         have U6:=b1.out
         have b8:=cz20 a4.out
         have b9:=cz21 a4.out
         have d0:=blk_frozen a4.out 0
         have d1:=blk_frozen a4.out 1
         try go_wp2
         refine bodyPost_ret (results_cell_row rfl _ _ b0 27 #[.slice k7 a5.length k8,.slice (some ⟨go182,oo182,none⟩) a6.length f8] (0,0) _ rfl (by (with_reducible repeat (first|refine blk_drewN ?_ _|refine blk_drew ?_|refine blk_alloc ?_ _));refine blk_put (cs:=#[.slice k7 a5.length k8,.slice none 0 0]) ?_ 1 _ rfl;(with_reducible repeat (first|refine blk_drewN ?_ _|refine blk_drew ?_|refine blk_alloc ?_ _));refine blk_put (cs:=#[.slice none 0 0,.slice none 0 0]) ?_ 0 _ rfl;(with_reducible repeat (first|refine blk_drewN ?_ _|refine blk_drew ?_|refine blk_alloc ?_ _));exact a4.out) Try.underlying27 rfl (by kernel_rfl)) rfl ?_
         exact ⟨_,_,z19_11,(by (with_reducible repeat (first|apply Kd.S_alloc|apply Kd.S_drewN|apply Kd.S_drew));exact Kd.S_mono (Kd.S_far (p:=⟨b0,1,none⟩) (Kd.S_far (p:=⟨b0,0,none⟩) (Kd.S_types a3.out a4.out z19_9) (fun _ hk=>hk.2) (.slice k7 a5.length k8)) (fun _ hk=>hk.2) (.slice (some ⟨go182,oo182,none⟩) a6.length f8)) (fun _ hk=>hk.1)),(by (with_reducible repeat (first|apply Kd.Q_alloc|apply Kd.Q_drewN|apply Kd.Q_drew));exact Kd.Q_mono (Kd.Q_far (p:=⟨b0,1,none⟩) (Kd.Q_far (p:=⟨b0,0,none⟩) (Kd.Q_types a2.out a4.out z19_9) (fun _ hk=>hk.2) (.slice k7 a5.length k8)) (fun _ hk=>hk.2) (.slice (some ⟨go182,oo182,none⟩) a6.length f8)) (fun _ hk=>trivial)),z19_2,z19_1,z19_0⟩
        obtain ⟨ji197,hji197⟩ : ∃ j_:Int,(wrap64 ((a5.length:Int)-1))=j_:=⟨_,rfl⟩
        replace H:(if 0≤(ji197) then (if (ji197)<(a5.length:Int) then (if 0<((rd_L1 a5 (ji197)).length:Int) then (some ((a5.set ((ji197):Int).toNat ((rd_L1 a5 (ji197)).set (0:Int).toNat 1)),a6,g8)) else (none)) else (none)) else (none))=some (r1,r2,r3):=by first|(rw [hji197] at H;exact H)|(simp only [hji197] at H ⊢;exact H)
        (try rw [hji197] at m1)
        (try rw [hji197] at o1)
        have hji197w:(IntKind.i64.wrap ((a5.length:Int)-1))=ji197:=(i64_w _).trans hji197
        replace H:=od2 H
        obtain ⟨U7,U8,H⟩:=H
        replace H:=ok_ H
        obtain ⟨G1,H⟩:=H
        have U9:decide (0<((rd_L1 a5 (ji197)).length:Int))=true:=dT_ G1
        have V0:decide (0<(rd_L1 a5 (ji197)).length)=true:=dT_ (by omega)
        clear G1
        obtain ⟨y564,hy564⟩ : ∃ y_:List Int,y_=((rd_L1 a5 (ji197)).set (0:Int).toNat 1):=⟨_,rfl⟩
        replace H:(some ((a5.set ((ji197):Int).toNat y564),a6,g8))=some (r1,r2,r3):=by first|(rw [hy564];with_reducible exact H)|(have H2_:=(Option.bind_some _ _).symm.trans H;rw [hy564];with_reducible exact H2_)|(have H2_:=(Option.bind_some _ _).symm.trans H;with_reducible exact H2_)|with_reducible exact H|(rw [hy564];exact H)|exact H
        have Ny564:=ak hy564
        clear hy564
        obtain ⟨y566,hy566⟩ : ∃ y_:List (List Int),y_=(a5.set ((ji197):Int).toNat y564):=⟨_,rfl⟩
        replace H:(some (y566,a6,g8))=some (r1,r2,r3):=by first|(rw [hy566];with_reducible exact H)|(have H2_:=(Option.bind_some _ _).symm.trans H;rw [hy566];with_reducible exact H2_)|(have H2_:=(Option.bind_some _ _).symm.trans H;with_reducible exact H2_)|with_reducible exact H|(rw [hy566];exact H)|exact H
        have Ny566:=ak hy566
        clear hy566
        simp only [Option.some.injEq,Prod.mk.injEq] at H
        obtain ⟨rfl,rfl,rfl⟩:=H
        go_wp2_with (first|((with_reducible refine gate_callee (f:=95) rfl ?_);refine gl_ (some 88) Try.func95 #[.pointer (some ⟨g,0,none⟩),.int .i64 a1] ?_;(with_reducible refine (spec_l20Rd_odd.calls e8 g s0_0 e3 a1 true e9 w0 _ z19_2 z19_1 m1.out).mono ?_);rintro e w' ⟨rfl,hi,hb,hk⟩;refine ⟨_,rfl,?_⟩;replace a3:=ak (Kd.S_mono (Kd.S_keep (IsS80.apartS (show IsS80 w0 _ g s0_0 e3 from by repeat (first|(with_reducible first|exact b4.out|apply IsS80.alloc|apply IsS80.drewN|apply IsS80.drew|apply IsS80.set_1|refine IsS80.far ?_ b1.out _|refine IsS80.far ?_ a8.out _)|exact b4.out)) (xS a3.out) z19_9) hk (fun _ h=>h.2)) (fun _ h=>h.1));replace a2:=ak (Kd.Q_mono (Kd.Q_keep (IsS80.apartQ (show IsS80 w0 _ g s0_0 e3 from by repeat (first|(with_reducible first|exact b4.out|apply IsS80.alloc|apply IsS80.drewN|apply IsS80.drew|apply IsS80.set_1|refine IsS80.far ?_ b1.out _|refine IsS80.far ?_ a8.out _)|exact b4.out)) (xQ a2.out) z19_9) hk (fun _ h=>h.2)) (fun _ h=>h.1));replace a4:=ak (KeepBut.blk hk (g':=b0) (o:=.cells #[.slice none 0 0,.slice none 0 0] 27 (0,0)) (xb a4.out) b7.out (by simp));replace a0:=ak (KeepBut.blk hk (g':=a7) (o:=.cells #[u426000,u426001] 27 (0,0)) (xb a0.out) b2.out (by simp));replace HK:=ak (KeepBut.trans z19_0 hk (.inl rfl));replace HB:=ak (hb);replace b4:=ak (hi);(try clear hb);(try clear hb2);(try clear hk);(try clear hi))|((with_reducible refine gate_callee (f:=62) rfl ?_);refine gl_ (some 90) Try.func62 #[.pointer (some ⟨g,0,none⟩),.int .i64 4] ?_;(with_reducible refine (spec_l20Rd_pick.calls e8 g s0_0 e9 4 q8 g8 w0 _ z19_2 z19_1 o1.out).mono ?_);rintro e G2 ⟨rfl,hi,hb,hk⟩;refine ⟨_,rfl,?_⟩;replace a3:=ak (Kd.S_mono (Kd.S_keep (IsS80.apartS (show IsS80 w0 _ g s0_0 e9 from by repeat (first|(with_reducible first|exact b4.out|apply IsS80.alloc|apply IsS80.drewN|apply IsS80.drew|apply IsS80.set_1|refine IsS80.far ?_ b1.out _|refine IsS80.far ?_ a8.out _)|exact b4.out)) (xS a3.out) z19_9) hk (fun _ h=>h.2)) (fun _ h=>h.1));replace a2:=ak (Kd.Q_mono (Kd.Q_keep (IsS80.apartQ (show IsS80 w0 _ g s0_0 e9 from by repeat (first|(with_reducible first|exact b4.out|apply IsS80.alloc|apply IsS80.drewN|apply IsS80.drew|apply IsS80.set_1|refine IsS80.far ?_ b1.out _|refine IsS80.far ?_ a8.out _)|exact b4.out)) (xQ a2.out) z19_9) hk (fun _ h=>h.2)) (fun _ h=>h.1));replace a4:=ak (KeepBut.blk hk (g':=b0) (o:=.cells #[.slice none 0 0,.slice none 0 0] 27 (0,0)) (xb a4.out) b7.out (by simp));replace a0:=ak (KeepBut.blk hk (g':=a7) (o:=.cells #[u426000,u426001] 27 (0,0)) (xb a0.out) b2.out (by simp));replace HK:=ak (KeepBut.trans z19_0 hk (.inl rfl));replace HB:=ak (hb);replace b4:=ak (hi);(try clear hb);(try clear hb2);(try clear hk);(try clear hi);have V1:=b6.out;have V2:=b3.out;have V3:=b2.out;have V4:=a8.out;have b8:=cz20 a0.out;have b9:=cz21 a0.out;have d0:=blk_frozen a0.out 0;have d1:=blk_frozen a0.out 1;obtain ⟨Y8,h5,G3⟩:=Kd.S_slice a3.out;subst G3;have s0:0≤((ji197):Int):=oa_;have q563:(ji197)<(a5.length:Int):=oa_;obtain ⟨ad563,V5,C8,e563,hx563_0,hl563_0,hi563_0⟩:=at_L1 (Kd.S_reads' a3.out).2.2 (ji197) s0 q563;cases e563;obtain ⟨ce563,hce563,hMe563,hcc563⟩:=Kd.S_get a3.out [] (ji197) s0 (by first|exact q563|exact oa_|(have e_:=(Kd.S_reads' a3.out).1;omega));obtain ⟨ve563_0,rfl,ge563_0⟩:=hMe563;have hv563_0:=hcc563 0 _ rfl;rw [Nat.add_zero,show ((Kd.slice 3 (Kd.int .i64))).sz=1 from rfl,Nat.mul_one] at hv563_0;replace hv563_0:=Option.some.inj (hv563_0.symm.trans hx563_0);rw [hv563_0] at ge563_0;have HL563_0:=ak (show Kd.R (Kd.int .i64) 3 _ _ _ _ (rd_L1 a5 (ji197)) from ge563_0);clear hv563_0 ge563_0;have HX563_0:=ak hx563_0;clear hcc563 hce563;have HR563_0:=ak hi563_0;have G7:=ak hl563_0;clear hi563_0 hl563_0;replace s0:=eq_true s0;replace q563:=eq_true q563;have C9:0≤(0:Int):=(by omega);have q201:(0:Int)<(((rd_L1 a5 (ji197)).length:Int):Int):=oa_;have qi201:(0<(rd_L1 a5 (ji197)).length)=True:=eq_true (by omega);obtain ⟨go201,Y9,x1,x2,gl201,cl201,HG201⟩:=Kd.R_form HL563_0.out (by omega);(first|cases x1|(injection x1 with ea_ en_ ec_;(first|subst ea_|(injection ea_ with ea_;subst ea_));subst ec_;clear en_));have GB201:=ak x2;have GG201:=ak HG201;clear x2 gl201 HG201;obtain ⟨hx201_0,hf201_0⟩:=Kd.R_celln 0 HL563_0.out (0:Int) C9 q201;(try rw [show ((0:Int)).toNat=0 from rfl] at hx201_0);(try simp only [Nat.reduceMul,Nat.zero_mul,Nat.zero_add,Nat.reduceAdd] at hx201_0);(try rw [show ((0:Int)).toNat=0 from rfl] at hf201_0);(try simp only [Nat.reduceMul,Nat.zero_mul,Nat.zero_add,Nat.reduceAdd] at hf201_0);replace C9:=eq_true C9;replace q201:=eq_true q201;have hq208:((ji197):Int)<(a5.length:Int):=(by have h_:((ji197):Int)<((a5.length:Int):Int):=oa_;first|exact h_|(have e_:=(Kd.S_reads' a3.out).1;omega)|simpa only [List.length_set,List.length_set] using h_);obtain ⟨oki208,ce208,hcl208,hM208,hcc208,hok208,hbk208⟩:=Kd.S_borrow a3.out [] ((ji197):Int) (oa_) hq208;obtain ⟨ve208_0,rfl,ge208_0⟩:=hM208;have hv208:=hcc208 0 _ rfl;rw [Nat.add_zero,show ((Kd.slice 3 (Kd.int .i64))).sz=1 from rfl,Nat.mul_one] at hv208;replace hv208:=Option.some.inj (hv208.symm.trans HX563_0.out);subst hv208;clear hcc208 hcl208;replace ge208_0:=(show Kd.R (Kd.int .i64) 3 _ _ _ _ (rd_L1 a5 (ji197)) from ge208_0);have HP208:=Kd.R_putg ge208_0 (0:Int) 1)|((with_reducible refine gate_store (t:=3) (p:=99) rfl ?_);refine store_event (t:=3) (p:=99) (v:=?vo_w209) (w1:=(G2.setCell ⟨go201,0,none⟩ (.int .i64 1))) ?hg ?ho ?hn ?hr ?_;(case ho=>rfl);(case hg=>rfl);(case hn=>rfl);(case hr=>first|(go_simp;done)|(go_simp;rfl));intro s1 hw;have hg:G2.grownBy s1 (some go201):=(by rw [hw];exact HP208.2);have hz_:Kd.R (Kd.int .i64) 3 s1 w.heap.size oki208 (.slice (some ⟨go201,0,none⟩) (rd_L1 a5 (ji197)).length C8) y564:=(by rw [hw,Ny564.out];exact HP208.1);have hp_:Kd.S (Kd.slice 3 (Kd.int .i64)) 25 s1 w.heap.size (fun k_=>some k_≠(u426001:Value).ownBlock) (.slice (some ad563) a5.length h5) y566:=(by rw [Ny566.out];exact hbk208 hg (fun k_ e_=>by injection e_ with e_;subst e_;exact ge208_0.1 _ rfl) (Kd.M_row hz_));have hm_:=Kd.R_mono hz_ hok208;clear HP208 hbk208;replace a3:=ak (hp_);replace a2:=ak (Kd.Q_grown1 (xQ a2.out) rfl hg ((HL563_0.out.1 _ rfl).1));replace a4:=ak (blk_grown (g:=b0) (o:=.cells #[.slice none 0 0,.slice none 0 0] 27 (0,0)) (xb a4.out) hg (Kd.R_ne HL563_0.out a4.out z19_9));replace a0:=ak (blk_grown (g:=a7) (o:=.cells #[.slice (some ad563) a5.length h5,u426001] 27 (0,0)) (xb a0.out) hg (Kd.R_ne HL563_0.out a0.out z19_9));replace b4:=ak (IsS80.grown z19_2 hg (IsS80.own_ne b4.out HL563_0.out z19_9));replace HB:=ak ((by rw [hw];exact below_set (HB.out) (Nat.le_trans HL.out GB201.out):Below w0.heap.size w0 s1));replace HK:=ak (KeepBut.trans z19_0 (KeepBut.of_grown hg g) (Kd.R_base2 HL563_0.out));have HL567:=ak (hm_);have Z0:=ak ((Kd.R_reads' hm_).2.1);clear HL563_0;clear hg hw hp_ hz_ hm_ hok208;have b8:=cz20 a0.out;have b9:=cz21 a0.out;have d0:=blk_frozen a0.out 0;have d1:=blk_frozen a0.out 1;have V6:=b7.out;have V7:=b1.out;have b8:=cz20 a4.out;have b9:=cz21 a4.out;have d0:=blk_frozen a4.out 0;have d1:=blk_frozen a4.out 1;obtain ⟨o3,o4,G4,_⟩:=Kd.Q_slice a2.out;subst G4))
        refine bodyPost_ret (results_cell_row rfl _ _ b0 27 #[.slice (some ad563) a5.length h5,.slice o3 a6.length o4] (0,0) _ rfl (by (with_reducible repeat (first|refine blk_drewN ?_ _|refine blk_drew ?_|refine blk_alloc ?_ _));refine blk_put (cs:=#[.slice (some ad563) a5.length h5,.slice none 0 0]) ?_ 1 _ rfl;(with_reducible repeat (first|refine blk_drewN ?_ _|refine blk_drew ?_|refine blk_alloc ?_ _));refine blk_put (cs:=#[.slice none 0 0,.slice none 0 0]) ?_ 0 _ rfl;(with_reducible repeat (first|refine blk_drewN ?_ _|refine blk_drew ?_|refine blk_alloc ?_ _));exact a4.out) Try.underlying27 rfl (by kernel_rfl)) rfl ?_
        exact ⟨_,_,(by first|rfl|(simp [errW_none,errW_some] <;> rfl)|(simp only [← hji197];first|rfl|(simp [errW_none,errW_some] <;> rfl))|(simp [*,errW_none,errW_some] <;> rfl)),(by (with_reducible repeat (first|apply Kd.S_alloc|apply Kd.S_drewN|apply Kd.S_drew));exact Kd.S_mono (Kd.S_far (p:=⟨b0,1,none⟩) (Kd.S_far (p:=⟨b0,0,none⟩) (Kd.S_types a3.out a4.out z19_9) (fun _ hk=>hk.2) (.slice (some ad563) a5.length h5)) (fun _ hk=>hk.2) (.slice o3 a6.length o4)) (fun _ hk=>hk.1)),(by (with_reducible repeat (first|apply Kd.Q_alloc|apply Kd.Q_drewN|apply Kd.Q_drew));exact Kd.Q_mono (Kd.Q_far (p:=⟨b0,1,none⟩) (Kd.Q_far (p:=⟨b0,0,none⟩) (Kd.Q_types a2.out a4.out z19_9) (fun _ hk=>hk.2) (.slice (some ad563) a5.length h5)) (fun _ hk=>hk.2) (.slice o3 a6.length o4)) (fun _ hk=>trivial)),z19_2,z19_1,z19_0⟩
       simp only [Option.some.injEq,Prod.mk.injEq] at H
       obtain ⟨rfl,rfl,rfl⟩:=H
       go_wp2_with (first|((with_reducible refine gate_callee (f:=95) rfl ?_);refine gl_ (some 88) Try.func95 #[.pointer (some ⟨g,0,none⟩),.int .i64 a1] ?_;(with_reducible refine (spec_l20Rd_odd.calls e8 g s0_0 e3 a1 false e9 w0 _ z19_2 z19_1 m1.out).mono ?_);rintro e w' ⟨rfl,hi,hb,hk⟩;refine ⟨_,rfl,?_⟩;replace a3:=ak (Kd.S_mono (Kd.S_keep (IsS80.apartS (show IsS80 w0 _ g s0_0 e3 from by repeat (first|(with_reducible first|exact b4.out|apply IsS80.alloc|apply IsS80.drewN|apply IsS80.drew|apply IsS80.set_1|refine IsS80.far ?_ b1.out _|refine IsS80.far ?_ a8.out _)|exact b4.out)) (xS a3.out) z19_9) hk (fun _ h=>h.2)) (fun _ h=>h.1));replace a2:=ak (Kd.Q_mono (Kd.Q_keep (IsS80.apartQ (show IsS80 w0 _ g s0_0 e3 from by repeat (first|(with_reducible first|exact b4.out|apply IsS80.alloc|apply IsS80.drewN|apply IsS80.drew|apply IsS80.set_1|refine IsS80.far ?_ b1.out _|refine IsS80.far ?_ a8.out _)|exact b4.out)) (xQ a2.out) z19_9) hk (fun _ h=>h.2)) (fun _ h=>h.1));replace a4:=ak (KeepBut.blk hk (g':=b0) (o:=.cells #[.slice none 0 0,.slice none 0 0] 27 (0,0)) (xb a4.out) b7.out (by simp));replace a0:=ak (KeepBut.blk hk (g':=a7) (o:=.cells #[u426000,u426001] 27 (0,0)) (xb a0.out) b2.out (by simp));replace HK:=ak (KeepBut.trans z19_0 hk (.inl rfl));replace HB:=ak (hb);replace b4:=ak (hi);(try clear hb);(try clear hb2);(try clear hk);(try clear hi);have V8:=b6.out;have V9:=b3.out;have W0:=b2.out;have W1:=a8.out;have b8:=cz20 a0.out;have b9:=cz21 a0.out;have d0:=blk_frozen a0.out 0;have d1:=blk_frozen a0.out 1;obtain ⟨k9,l2,G5⟩:=Kd.S_slice a3.out;subst G5;have W2:=b7.out;have W3:=b1.out;have b8:=cz20 a4.out;have b9:=cz21 a4.out;have d0:=blk_frozen a4.out 0;have d1:=blk_frozen a4.out 1;obtain ⟨o5,o6,G6,_⟩:=Kd.Q_slice a2.out;subst G6))
       refine bodyPost_ret (results_cell_row rfl _ _ b0 27 #[.slice k9 a5.length l2,.slice o5 a6.length o6] (0,0) _ rfl (by (with_reducible repeat (first|refine blk_drewN ?_ _|refine blk_drew ?_|refine blk_alloc ?_ _));refine blk_put (cs:=#[.slice k9 a5.length l2,.slice none 0 0]) ?_ 1 _ rfl;(with_reducible repeat (first|refine blk_drewN ?_ _|refine blk_drew ?_|refine blk_alloc ?_ _));refine blk_put (cs:=#[.slice none 0 0,.slice none 0 0]) ?_ 0 _ rfl;(with_reducible repeat (first|refine blk_drewN ?_ _|refine blk_drew ?_|refine blk_alloc ?_ _));exact a4.out) Try.underlying27 rfl (by kernel_rfl)) rfl ?_
       exact ⟨_,_,z19_11,(by (with_reducible repeat (first|apply Kd.S_alloc|apply Kd.S_drewN|apply Kd.S_drew));exact Kd.S_mono (Kd.S_far (p:=⟨b0,1,none⟩) (Kd.S_far (p:=⟨b0,0,none⟩) (Kd.S_types a3.out a4.out z19_9) (fun _ hk=>hk.2) (.slice k9 a5.length l2)) (fun _ hk=>hk.2) (.slice o5 a6.length o6)) (fun _ hk=>hk.1)),(by (with_reducible repeat (first|apply Kd.Q_alloc|apply Kd.Q_drewN|apply Kd.Q_drew));exact Kd.Q_mono (Kd.Q_far (p:=⟨b0,1,none⟩) (Kd.Q_far (p:=⟨b0,0,none⟩) (Kd.Q_types a2.out a4.out z19_9) (fun _ hk=>hk.2) (.slice k9 a5.length l2)) (fun _ hk=>hk.2) (.slice o5 a6.length o6)) (fun _ hk=>trivial)),z19_2,z19_1,z19_0⟩

end Go.Proofs.Ytacifhahfamipaa.P

namespace Go.Proofs.Ytacifhahfamipaa.P
open Go.RowKit Go.Proofs.YtacifhahfamipaaW.PrintWords Go.Proofs.YtacifhahfamipaaW.PrintLast Go.Proofs.YtacifhahfamipaaW.PrintMore
attribute [local go_sem] max2_int min2_int max_two min_two max_three min_three max_four min_four
set_option linter.unusedVariables false
set_option linter.unusedSimpArgs false
theorem zu_3 {p:Prop} (h:p:=by repeat (first|(with_reducible first|exact a6.out|apply IsS80.alloc|apply IsS80.drewN|apply IsS80.drew|apply IsS80.set_1|refine IsS80.far ?_ a4.out _|refine IsS80.far ?_ a5.out _)|exact a6.out)):p:=h
theorem zu_2 {p:Prop} (h:p:=by repeat (first|(with_reducible first|exact HB.out|apply below_alloc|apply pw_below_drewN|apply below_drew1)|exact HB.out)):p:=h
theorem zu_1 {p:Prop} (h:p:=by repeat (first|(with_reducible first|exact HB.out|apply below_alloc|apply pw_below_drewN|apply below_drew1|refine below_set ?_ b8.out)|exact HB.out)):p:=h
theorem zu_0 {p:Prop} (h:p:=by repeat (first|(with_reducible first|exact HB.out|apply below_alloc|apply pw_below_drewN|apply below_drew1|refine below_set ?_ (IsS80.ge a6.out)|refine below_set ?_ b8.out|refine below_set ?_ d6.out)|exact HB.out)):p:=h
set_option maxHeartbeats 8000000 in
set_option maxRecDepth 100000 in
theorem spec_DrawGluedOf.calls (k:Nat) (A0:Option Addr) (c0:Nat) (l0:List Int) (r1:List (List Int)) (r2:List Int) (r3:List (List Int)) (r4:List Int) (w:World) (hr0:Kd.C (Kd.int .u8) w A0 l0.length l0) (hc0:l0.length≤c0) (h:spec_DrawGluedOf.f k l0=some (r1,r2,r3,r4)) :
 Calls Try.prog 52 #[.slice A0 l0.length c0] w fun e w'=>∃ v0_ v1_ v2_ v3_:Value,e = .returned (.tuple #[.agg #[v0_,v1_],.agg #[v2_,v3_]])∧Kd.S (Kd.slice 3 (Kd.int .i64)) 25 w' w.heap.size (fun k_=>some k_≠(v1_:Value).ownBlock∧some k_≠(v2_:Value).ownBlock∧some k_≠(v3_:Value).ownBlock) v0_ r1∧Kd.Q (Kd.int .i64) 3 w' w.heap.size (fun k_=>some k_≠(v3_:Value).ownBlock) v1_ r2∧Kd.S (Kd.slice 3 (Kd.int .i64)) 25 w' w.heap.size (fun k_=>some k_≠(v0_:Value).ownBlock∧some k_≠(v1_:Value).ownBlock∧some k_≠(v3_:Value).ownBlock) v2_ r3∧Kd.Q (Kd.int .i64) 3 w' w.heap.size (fun k_=>some k_≠(v1_:Value).ownBlock) v3_ r4∧Below w.heap.size w w':=by
 have hu27:=Try.underlying27
 have HR0:=ak hr0
 have g6:=ak hc0
 clear hr0 hc0
 have HB:=ak (Below.refl w.heap.size w)
 have H:((spec_l20Open.f l0).bind fun b9=>((spec_l20Logic.f k b9.1 b9.2 14).bind fun d0=>((spec_l20Logic.f k b9.1 d0.2.2 14).bind fun d7=>(some (d0.1,d0.2.1,d7.1,d7.2.1)))))=some (r1,r2,r3,r4):=h
 clear h
 obtain ⟨⟨b7,e4⟩,A2,H⟩:=bd_ H
 try dsimp only at H
 obtain ⟨⟨b2,b5,d1⟩,A3,H⟩:=bd_ H
 try dsimp only at H
 obtain ⟨⟨b3,b6,e5⟩,A4,H⟩:=bd_ H
 try dsimp only at H
 simp only [Option.some.injEq,Prod.mk.injEq] at H
 obtain ⟨rfl,rfl,rfl,rfl⟩:=H
 go_enter Try.func52,Try.ntmps52
 go_wp2_with (first|((with_reducible refine gate_dst (N:=2) rfl ?_);refine bx_ (N:=2) (cs:=#[.slice none 0 0,.slice none 0 0]) (t:=27) ?_;intro a0 hg w5 hbox hb;have a1:=ak (hbox);have f0:=ak ((by rw [hg];exact (below_size zu_2):w.heap.size≤a0));have b8:=ak ((by rw [hg];exact (below_size zu_2):w.heap.size≤a0));replace HB:=ak (below_step zu_2 hb);clear hb hbox hg)|((with_reducible refine gate_dst (N:=3) rfl ?_);refine bx_ (N:=3) (cs:=#[.slice none 0 0,.slice none 0 0]) (t:=27) ?_;intro a2 hg w6 hbox hb;have a3:=ak (hbox);have f1:=ak ((by rw [hg];exact (below_size zu_1):w.heap.size≤a2));have d6:=ak ((by rw [hg];exact (below_size zu_1):w.heap.size≤a2));replace HB:=ak (below_step zu_1 hb);have a7:=ak ((by rw [hg];exact Nat.ne_of_lt (blk_lt (g:=a0) (o:=.cells #[.slice none 0 0,.slice none 0 0] 27 (0,0)) (xb a1.out)):a0≠a2));have a8:=ak ((by rw [hg];exact Nat.ne_of_gt (blk_lt (g:=a0) (o:=.cells #[.slice none 0 0,.slice none 0 0] 27 (0,0)) (xb a1.out)):a2≠a0));replace a1:=ak (blk_below (g:=a0) (o:=.cells #[.slice none 0 0,.slice none 0 0] 27 (0,0)) (xb a1.out) hb);clear hb hbox hg)|((with_reducible refine gate_callee (f:=61) rfl ?_);refine gl_ (some 6) Try.func61 #[.slice A0 l0.length c0] ?_;(with_reducible refine (spec_l20Open.calls _ _ l0 b7 e4 w _ (by repeat (first|(with_reducible first|exact HB.out|apply below_alloc|apply pw_below_drewN|apply below_drew1|refine below_set ?_ b8.out|refine below_set ?_ d6.out)|exact HB.out)) HR0.out g6.out A2.out).mono ?_);rintro e w' ⟨g1135,rfl,hi,hb,hb2⟩;refine ⟨_,rfl,?_⟩;replace HB:=ak (hb);have a6:=ak (hi);have a4:=ak (IsS80.ne_blk hi (blk_below (g:=a0) (o:=.cells #[.slice none 0 0,.slice none 0 0] 27 (0,0)) (xb a1.out) hb2) (by decide));have a9:=ak (Ne.symm (IsS80.ne_blk hi (blk_below (g:=a0) (o:=.cells #[.slice none 0 0,.slice none 0 0] 27 (0,0)) (xb a1.out) hb2) (by decide)));replace a1:=ak (blk_below (g:=a0) (o:=.cells #[.slice none 0 0,.slice none 0 0] 27 (0,0)) (xb a1.out) hb2);have a5:=ak (IsS80.ne_blk hi (blk_below (g:=a2) (o:=.cells #[.slice none 0 0,.slice none 0 0] 27 (0,0)) (xb a3.out) hb2) (by decide));have b0:=ak (Ne.symm (IsS80.ne_blk hi (blk_below (g:=a2) (o:=.cells #[.slice none 0 0,.slice none 0 0] 27 (0,0)) (xb a3.out) hb2) (by decide)));replace a3:=ak (blk_below (g:=a2) (o:=.cells #[.slice none 0 0,.slice none 0 0] 27 (0,0)) (xb a3.out) hb2);(try clear hb);(try clear hb2);(try clear hk);(try clear hi))|((with_reducible refine gate_callee (f:=73) rfl ?_);refine gl_ (some 8) Try.func73 #[.pointer (some ⟨g1135,0,none⟩),.int .i64 14] ?_;(with_reducible refine (spec_l20Logic.calls k g1135 b7 e4 14 b2 b5 d1 w _ zu_3 zu_0 A3.out).mono ?_);rintro e w' ⟨f6,f7,rfl,ho0,ho1,hi,hb,hk⟩;refine ⟨_,rfl,?_⟩;replace a1:=ak (KeepBut.blk hk (g':=a0) (o:=.cells #[.slice none 0 0,.slice none 0 0] 27 (0,0)) (xb a1.out) a9.out (by simp));replace a3:=ak (KeepBut.blk hk (g':=a2) (o:=.cells #[.slice none 0 0,.slice none 0 0] 27 (0,0)) (xb a3.out) b0.out (by simp));have b4:=ak (Kd.S_lower ho0 (below_size zu_0));have b1:=ak (Kd.Q_lower ho1 (below_size zu_0));replace HB:=ak (hb);replace a6:=ak (hi);(try clear hb);(try clear hb2);(try clear hk);(try clear hi);(try clear ho0);(try clear ho1))|((with_reducible refine gate_callee (f:=73) rfl ?_);refine gl_ (some 10) Try.func73 #[.pointer (some ⟨g1135,0,none⟩),.int .i64 14] ?_;(with_reducible refine (spec_l20Logic.calls k g1135 b7 d1 14 b3 b6 e5 w _ zu_3 zu_0 A4.out).mono ?_);rintro e w' ⟨f8,f9,rfl,ho0,ho1,hi,hb,hk⟩;refine ⟨_,rfl,?_⟩;replace a1:=ak (KeepBut.blk hk (g':=a0) (o:=.cells #[.slice none 0 0,.slice none 0 0] 27 (0,0)) (xb a1.out) a9.out (by simp));replace a3:=ak (KeepBut.blk hk (g':=a2) (o:=.cells #[.slice none 0 0,.slice none 0 0] 27 (0,0)) (xb a3.out) b0.out (by simp));have d8:=ak (Kd.S_lower (Kd.S_new' (Kd.S_new' ho0 (Kd.S_lt (xS b4.out))) (Kd.Q_lt (xQ b1.out))) (below_size zu_0));replace b4:=ak (Kd.S_mono (Kd.S_told (Kd.S_told (Kd.S_oldK (IsS80.apartS (show IsS80 w _ g1135 b7 d1 from by repeat (first|(with_reducible first|exact a6.out|apply IsS80.alloc|apply IsS80.drewN|apply IsS80.drew|apply IsS80.set_1|refine IsS80.far ?_ a4.out _|refine IsS80.far ?_ a5.out _)|exact a6.out)) (xS b4.out) (by decide)) hk) (Kd.S_base ho0)) (Kd.Q_base ho1)) (fun _ h_=>h_.1));have d9:=ak (Kd.Q_lower (Kd.Q_new' ho1 (Kd.Q_lt (xQ b1.out))) (below_size zu_0));replace b1:=ak (Kd.Q_mono (Kd.Q_told (Kd.Q_oldK (IsS80.apartQ (show IsS80 w _ g1135 b7 d1 from by repeat (first|(with_reducible first|exact a6.out|apply IsS80.alloc|apply IsS80.drewN|apply IsS80.drew|apply IsS80.set_1|refine IsS80.far ?_ a4.out _|refine IsS80.far ?_ a5.out _)|exact a6.out)) (xQ b1.out) (by decide)) hk) (Kd.Q_base ho1)) (fun _ h_=>h_.1));replace HB:=ak (hb);replace a6:=ak (hi);(try clear hb);(try clear hb2);(try clear hk);(try clear hi);(try clear ho0);(try clear ho1);obtain ⟨d2,d3,f2⟩:=Kd.S_slice b4.out;subst f2;have g0:=a7.out;have g1:=a8.out;have g2:=a9.out;have g3:=a4.out;have e6:=cz20 a1.out;have e7:=cz21 a1.out;have e8:=blk_frozen a1.out 0;have e9:=blk_frozen a1.out 1;obtain ⟨e0,e1,f3,_⟩:=Kd.Q_slice b1.out;subst f3;obtain ⟨d4,d5,f4⟩:=Kd.S_slice d8.out;subst f4;have g4:=b0.out;have g5:=a5.out;have e6:=cz20 a3.out;have e7:=cz21 a3.out;have e8:=blk_frozen a3.out 0;have e9:=blk_frozen a3.out 1;obtain ⟨e2,e3,f5,_⟩:=Kd.Q_slice d9.out;subst f5))
 refine bodyPost_ret (results_cc rfl _ _ a0 a2 27 27 #[.slice d2 b2.length d3,.slice e0 b5.length e1] #[.slice d4 b3.length d5,.slice e2 b6.length e3] (0,0) (0,0) _ _ rfl (by (with_reducible repeat (first|refine blk_drewN ?_ _|refine blk_drew ?_|refine blk_alloc ?_ _));refine blk_far ?_ a7.out _;(with_reducible repeat (first|refine blk_drewN ?_ _|refine blk_drew ?_|refine blk_alloc ?_ _));refine blk_far ?_ a7.out _;(with_reducible repeat (first|refine blk_drewN ?_ _|refine blk_drew ?_|refine blk_alloc ?_ _));refine blk_put (cs:=#[.slice d2 b2.length d3,.slice none 0 0]) ?_ 1 _ rfl;(with_reducible repeat (first|refine blk_drewN ?_ _|refine blk_drew ?_|refine blk_alloc ?_ _));refine blk_put (cs:=#[.slice none 0 0,.slice none 0 0]) ?_ 0 _ rfl;(with_reducible repeat (first|refine blk_drewN ?_ _|refine blk_drew ?_|refine blk_alloc ?_ _));exact a1.out) Try.underlying27 rfl (by kernel_rfl) rfl (by (with_reducible repeat (first|refine blk_drewN ?_ _|refine blk_drew ?_|refine blk_alloc ?_ _));refine blk_put (cs:=#[.slice d4 b3.length d5,.slice none 0 0]) ?_ 1 _ rfl;(with_reducible repeat (first|refine blk_drewN ?_ _|refine blk_drew ?_|refine blk_alloc ?_ _));refine blk_put (cs:=#[.slice none 0 0,.slice none 0 0]) ?_ 0 _ rfl;(with_reducible repeat (first|refine blk_drewN ?_ _|refine blk_drew ?_|refine blk_alloc ?_ _));refine blk_far ?_ a8.out _;(with_reducible repeat (first|refine blk_drewN ?_ _|refine blk_drew ?_|refine blk_alloc ?_ _));refine blk_far ?_ a8.out _;(with_reducible repeat (first|refine blk_drewN ?_ _|refine blk_drew ?_|refine blk_alloc ?_ _));exact a3.out) Try.underlying27 rfl (by kernel_rfl)) rfl ?_
 exact ⟨_,_,_,_,(by first|rfl|(simp [errW_none,errW_some] <;> rfl)|(simp [*,errW_none,errW_some] <;> rfl)),(by (with_reducible repeat (first|apply Kd.S_alloc|apply Kd.S_drewN|apply Kd.S_drew));exact Kd.S_mono (Kd.S_far (p:=⟨a2,1,none⟩) (Kd.S_far (p:=⟨a2,0,none⟩) (Kd.S_far (p:=⟨a0,1,none⟩) (Kd.S_far (p:=⟨a0,0,none⟩) (Kd.S_types (Kd.S_types b4.out a1.out (by decide)) a3.out (by decide)) (fun _ hk=>hk.1.2) (.slice d2 b2.length d3)) (fun _ hk=>hk.1.2) (.slice e0 b5.length e1)) (fun _ hk=>hk.2) (.slice d4 b3.length d5)) (fun _ hk=>hk.2) (.slice e2 b6.length e3)) (fun _ hk=>⟨hk.1.1.1.1,⟨hk.1.1.1.2,hk.1.1.2⟩⟩)),(by (with_reducible repeat (first|apply Kd.Q_alloc|apply Kd.Q_drewN|apply Kd.Q_drew));exact Kd.Q_mono (Kd.Q_far (p:=⟨a2,1,none⟩) (Kd.Q_far (p:=⟨a2,0,none⟩) (Kd.Q_far (p:=⟨a0,1,none⟩) (Kd.Q_far (p:=⟨a0,0,none⟩) (Kd.Q_types (Kd.Q_types b1.out a1.out (by decide)) a3.out (by decide)) (fun _ hk=>hk.1.2) (.slice d2 b2.length d3)) (fun _ hk=>hk.1.2) (.slice e0 b5.length e1)) (fun _ hk=>hk.2) (.slice d4 b3.length d5)) (fun _ hk=>hk.2) (.slice e2 b6.length e3)) (fun _ hk=>hk.1.1.2)),(by (with_reducible repeat (first|apply Kd.S_alloc|apply Kd.S_drewN|apply Kd.S_drew));exact Kd.S_mono (Kd.S_far (p:=⟨a2,1,none⟩) (Kd.S_far (p:=⟨a2,0,none⟩) (Kd.S_far (p:=⟨a0,1,none⟩) (Kd.S_far (p:=⟨a0,0,none⟩) (Kd.S_types (Kd.S_types d8.out a1.out (by decide)) a3.out (by decide)) (fun _ hk=>hk.1.2) (.slice d2 b2.length d3)) (fun _ hk=>hk.1.2) (.slice e0 b5.length e1)) (fun _ hk=>hk.2) (.slice d4 b3.length d5)) (fun _ hk=>hk.2) (.slice e2 b6.length e3)) (fun _ hk=>⟨hk.1.1.1.2,⟨hk.1.1.2,hk.1.1.1.1⟩⟩)),(by (with_reducible repeat (first|apply Kd.Q_alloc|apply Kd.Q_drewN|apply Kd.Q_drew));exact Kd.Q_mono (Kd.Q_far (p:=⟨a2,1,none⟩) (Kd.Q_far (p:=⟨a2,0,none⟩) (Kd.Q_far (p:=⟨a0,1,none⟩) (Kd.Q_far (p:=⟨a0,0,none⟩) (Kd.Q_types (Kd.Q_types d9.out a1.out (by decide)) a3.out (by decide)) (fun _ hk=>hk.1.2) (.slice d2 b2.length d3)) (fun _ hk=>hk.1.2) (.slice e0 b5.length e1)) (fun _ hk=>hk.2) (.slice d4 b3.length d5)) (fun _ hk=>hk.2) (.slice e2 b6.length e3)) (fun _ hk=>hk.1.1.2)),zu_0⟩

end Go.Proofs.Ytacifhahfamipaa.P
