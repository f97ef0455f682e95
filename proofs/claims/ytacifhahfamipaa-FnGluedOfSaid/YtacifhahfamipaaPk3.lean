/- 10 texts of this seat joined: walks, and the laws of what they compute. -/
import Derived.Test.YtacifhahfamipaaPk2
namespace Go.Proofs.Ytacifhahfamipaa.P
open Go.RowKit Go.Proofs.YtacifhahfamipaaW.PrintWords Go.Proofs.YtacifhahfamipaaW.PrintLast Go.Proofs.YtacifhahfamipaaW.PrintMore
attribute [local go_sem] max2_int min2_int max_two min_two max_three min_three max_four min_four
set_option linter.unusedVariables false
set_option linter.unusedSimpArgs false
def spec_l20Glued.T22:Bool × List (List Nat × List Nat):=(true,[([],[]),([0],[0]),([],[]),([2],[2]),([],[]),([],[]),([4,5],[4,5]),([6],[6]),([3,7],[3,7]),([8],[8]),([],[]),([9,10],[9,10]),([11],[11]),([12],[12]),([1,13],[1,13]),([0,1,2,3,4,5,6,7,8,9,10,11,12,13,14],[]),([15,14,14,0,1,2,3,4,5,6,7,8,9,10,11,12,13,14],[14,15])])
def spec_l20Glued.B22:List Nat:=[0,1,0,4,0,0,48,112,252,508,0,2044,4092,8188,16383,32767,65535]
theorem spec_l20Glued.tab22:rtab .any (opsOf Try.f108 22)=spec_l20Glued.T22:=by kernel_rfl
theorem spec_l20Glued.bits22:waitsOk spec_l20Glued.T22.2 spec_l20Glued.B22=true:=by kernel_rfl
def spec_l20Glued.T28:Bool × List (List Nat × List Nat):=(true,[([],[]),([0],[0]),([],[]),([2],[2]),([],[]),([3,4],[3,4]),([5],[5]),([6],[6]),([1,7],[1,7]),([0,1,2,3,4,5,6,7,8],[]),([9,8,8,0,1,2,3,4,5,6,7,8],[8,9])])
def spec_l20Glued.B28:List Nat:=[0,1,0,4,0,28,60,124,255,511,1023]
theorem spec_l20Glued.tab28:rtab .any (opsOf Try.f108 28)=spec_l20Glued.T28:=by kernel_rfl
theorem spec_l20Glued.bits28:waitsOk spec_l20Glued.T28.2 spec_l20Glued.B28=true:=by kernel_rfl
theorem z18_17 {p:Prop} (h:p:=by (with_reducible repeat (first|apply Kd.S_alloc|apply Kd.S_drewN|apply Kd.S_drew));exact Kd.S_mono b5.out (fun _ hk=>⟨trivial,hk⟩)):p:=h
theorem z18_16 {p:Prop} (h:p:=by have:=HK1.out;have:=HK2.out;have:=e7.out;have:=f4.out;have:=h3.out;omega):p:=h
theorem z18_15 {p:Prop} (h:p:=by have:=HK1.out;have:=HK2.out;have:=e7.out;have:=f4.out;first|omega|exact Nat.le_refl _):p:=h
theorem z18_14 {p:Prop} (h:p:=by repeat (first|(with_reducible first|exact HB.out|apply below_alloc|apply pw_below_drewN|apply below_drew1)|exact HB.out)):p:=h
theorem z18_13 {p:Prop} (h:p:=by repeat (first|(with_reducible first|exact HB.out|apply below_alloc|apply pw_below_drewN|apply below_drew1|refine below_set ?_ f8.out)|exact HB.out)):p:=h
theorem z18_12 {p:Prop} (h:p:=by repeat (first|(with_reducible first|exact HB.out|apply below_alloc|apply pw_below_drewN|apply below_drew1|refine below_set ?_ f8.out|refine below_set ?_ g2.out)|exact HB.out)):p:=h
theorem z18_11 {p:Prop} (h:p:=by decide):p:=h
theorem z18_10 {p:Prop} (h:p:=by repeat (first|(with_reducible first|exact HB.out|apply below_alloc|apply pw_below_drewN|apply below_drew1|refine below_set ?_ f8.out|refine below_set ?_ g2.out|refine below_set ?_ h4.out)|exact HB.out)):p:=h
theorem z18_9 {p:Prop} (h:p:=by (with_reducible repeat (first|apply Kd.S_alloc|apply Kd.S_drewN|apply Kd.S_drew));exact Kd.S_mono a2.out (fun k_ hk=>⟨hk.2,fun e_=>hk.1 e_⟩)):p:=h
theorem z18_8 {p:Prop} (h:p:=by (with_reducible repeat (first|apply Kd.R_alloc|apply Kd.R_drewN|apply Kd.R_drew));exact Kd.R_mono a0.out (fun _ hk=>⟨trivial,hk⟩)):p:=h
theorem z18_7 {p:Prop} (h:p:=by (with_reducible repeat (first|apply Kd.R_alloc|apply Kd.R_drewN|apply Kd.R_drew));exact Kd.R_mono a0.out (fun _ hk=>hk.2)):p:=h
theorem z18_6 {p:Prop} (h:p:=by first|rfl|(simp;done)|(simp [*];done)):p:=h
theorem z18_5 {p:Prop} (h:p:=by (with_reducible repeat (first|refine blk_drewN ?_ _|refine blk_drew ?_|refine blk_alloc ?_ _));refine blk_put (cs:=#[u318000,u318001]) ?_ 0 _ rfl;(with_reducible repeat (first|refine blk_drewN ?_ _|refine blk_drew ?_|refine blk_alloc ?_ _));exact a1.out):p:=h
theorem z18_4 {p:Prop} (h:p:=by (with_reducible repeat (first|apply Kd.S_alloc|apply Kd.S_drewN|apply Kd.S_drew));exact Kd.S_mono a2.out (fun _ hk=>⟨hk.2,hk.1⟩)):p:=h
theorem z18_3 {p:Prop} (h:p:=by (with_reducible repeat (first|refine blk_drewN ?_ _|refine blk_drew ?_|refine blk_alloc ?_ _));refine blk_far ?_ b6.out _;(with_reducible repeat (first|refine blk_drewN ?_ _|refine blk_drew ?_|refine blk_alloc ?_ _));exact a4.out):p:=h
theorem z18_2 {p:Prop} (h:p:=by (with_reducible repeat (first|refine blk_drewN ?_ _|refine blk_drew ?_|refine blk_alloc ?_ _));refine blk_far ?_ b7.out _;(with_reducible repeat (first|refine blk_drewN ?_ _|refine blk_drew ?_|refine blk_alloc ?_ _));exact a5.out):p:=h
theorem z18_1 {p:Prop} (h:p:=by (with_reducible repeat (first|refine blk_drewN ?_ _|refine blk_drew ?_|refine blk_alloc ?_ _));refine blk_far ?_ b8.out _;(with_reducible repeat (first|refine blk_drewN ?_ _|refine blk_drew ?_|refine blk_alloc ?_ _));exact a6.out):p:=h
theorem z18_0 {p:Prop} (h:p:=by repeat (first|(with_reducible first|exact HB.out|apply below_alloc|apply pw_below_drewN|apply below_drew1|refine below_set ?_ f8.out|refine below_set ?_ g2.out|refine below_set ?_ h4.out|refine below_set ?_ k5.out)|exact HB.out)):p:=h
set_option maxHeartbeats 8000000 in
set_option maxRecDepth 100000 in
theorem spec_l20Glued.calls (k:Nat) (A0_0:Option Addr) (c0_0:Nat) (l0_0:List (List Int)) (A0_1:Option Addr) (c0_1:Nat) (l0_1:List Int) (A1_0:Option Addr) (c1_0:Nat) (l1_0:List (List Int)) (A1_1:Option Addr) (c1_1:Nat) (l1_1:List Int) (r1:List (List Int)) (r2:List Int) (w:World) (hr0_0:Kd.C (Kd.slice 3 (Kd.int .i64)) w A0_0 l0_0.length l0_0) (hc0_0:l0_0.length≤c0_0) (hr0_1:Kd.C (Kd.int .i64) w A0_1 l0_1.length l0_1) (hc0_1:l0_1.length≤c0_1) (hr1_0:Kd.C (Kd.slice 3 (Kd.int .i64)) w A1_0 l1_0.length l1_0) (hc1_0:l1_0.length≤c1_0) (hr1_1:Kd.C (Kd.int .i64) w A1_1 l1_1.length l1_1) (hc1_1:l1_1.length≤c1_1) (h:spec_l20Glued.f k l0_0 l0_1 l1_0 l1_1=some (r1,r2)) :
 Calls Try.prog 108 #[.agg #[.slice A0_0 l0_0.length c0_0,.slice A0_1 l0_1.length c0_1],.agg #[.slice A1_0 l1_0.length c1_0,.slice A1_1 l1_1.length c1_1]] w fun e w'=>∃ v0_ v1_:Value,e = .returned (.agg #[v0_,v1_])∧Kd.S (Kd.slice 3 (Kd.int .i64)) 25 w' w.heap.size (fun k_=>some k_≠(v1_:Value).ownBlock) v0_ r1∧Kd.R (Kd.int .i64) 3 w' w.heap.size (fun _=>True) v1_ r2∧Below w.heap.size w w':=by
 have hu27:=Try.underlying27
 have HR0_0:=ak hr0_0
 have u0:=ak hc0_0
 clear hr0_0 hc0_0
 have HR0_1:=ak hr0_1
 have u1:=ak hc0_1
 clear hr0_1 hc0_1
 have HR1_0:=ak hr1_0
 have u2:=ak hc1_0
 clear hr1_0 hc1_0
 have HR1_1:=ak hr1_1
 have u3:=ak hc1_1
 clear hr1_1 hc1_1
 have HB:=ak (Below.refl w.heap.size w)
 have H:(spec_l20Glued.l0 k (l0_1.length:Int) (l1_1.length:Int) 0 l0_0 l0_1 l1_0 l1_1 ([]:List (List Int)) ([]:List Int))=some (r1,r2):=h
 clear h
 have H':=ak H
 clear H
 go_enter Try.func108,Try.ntmps108
 go_wp2_with (first|((with_reducible refine gate_dst (N:=2) rfl ?_);refine bx_ (N:=2) (cs:=#[.slice A0_0 l0_0.length c0_0,.slice A0_1 l0_1.length c0_1]) (t:=27) ?_;intro a9 hg w3 hbox hb;have a4:=ak (hbox);have u4:=ak ((by rw [hg];exact (below_size z18_14):w.heap.size≤a9));have f8:=ak ((by rw [hg];exact (below_size z18_14):w.heap.size≤a9));replace HB:=ak (below_step z18_14 hb);clear hb hbox hg)|((with_reducible refine gate_dst (N:=3) rfl ?_);refine bx_ (N:=3) (cs:=#[.slice A1_0 l1_0.length c1_0,.slice A1_1 l1_1.length c1_1]) (t:=27) ?_;intro b1 hg w4 hbox hb;have a5:=ak (hbox);have u5:=ak ((by rw [hg];exact (below_size z18_13):w.heap.size≤b1));have g2:=ak ((by rw [hg];exact (below_size z18_13):w.heap.size≤b1));replace HB:=ak (below_step z18_13 hb);have e1:=ak ((by rw [hg];exact Nat.ne_of_lt (blk_lt (g:=a9) (o:=.cells #[.slice A0_0 l0_0.length c0_0,.slice A0_1 l0_1.length c0_1] 27 (0,0)) (xb a4.out)):a9≠b1));have e2:=ak ((by rw [hg];exact Nat.ne_of_gt (blk_lt (g:=a9) (o:=.cells #[.slice A0_0 l0_0.length c0_0,.slice A0_1 l0_1.length c0_1] 27 (0,0)) (xb a4.out)):b1≠a9));replace a4:=ak (blk_below (g:=a9) (o:=.cells #[.slice A0_0 l0_0.length c0_0,.slice A0_1 l0_1.length c0_1] 27 (0,0)) (xb a4.out) hb);clear hb hbox hg)|((with_reducible refine gate_dst (N:=4) rfl ?_);refine bx_ (N:=4) (cs:=#[.slice none 0 0,.slice none 0 0]) (t:=27) ?_;intro b2 hg w5 hbox hb;have a6:=ak (hbox);have u6:=ak ((by rw [hg];exact (below_size z18_12):w.heap.size≤b2));have h4:=ak ((by rw [hg];exact (below_size z18_12):w.heap.size≤b2));replace HB:=ak (below_step z18_12 hb);have e3:=ak ((by rw [hg];exact Nat.ne_of_lt (blk_lt (g:=a9) (o:=.cells #[.slice A0_0 l0_0.length c0_0,.slice A0_1 l0_1.length c0_1] 27 (0,0)) (xb a4.out)):a9≠b2));have e4:=ak ((by rw [hg];exact Nat.ne_of_gt (blk_lt (g:=a9) (o:=.cells #[.slice A0_0 l0_0.length c0_0,.slice A0_1 l0_1.length c0_1] 27 (0,0)) (xb a4.out)):b2≠a9));replace a4:=ak (blk_below (g:=a9) (o:=.cells #[.slice A0_0 l0_0.length c0_0,.slice A0_1 l0_1.length c0_1] 27 (0,0)) (xb a4.out) hb);have e5:=ak ((by rw [hg];exact Nat.ne_of_lt (blk_lt (g:=b1) (o:=.cells #[.slice A1_0 l1_0.length c1_0,.slice A1_1 l1_1.length c1_1] 27 (0,0)) (xb a5.out)):b1≠b2));have e6:=ak ((by rw [hg];exact Nat.ne_of_gt (blk_lt (g:=b1) (o:=.cells #[.slice A1_0 l1_0.length c1_0,.slice A1_1 l1_1.length c1_1] 27 (0,0)) (xb a5.out)):b2≠b1));replace a5:=ak (blk_below (g:=b1) (o:=.cells #[.slice A1_0 l1_0.length c1_0,.slice A1_1 l1_1.length c1_1] 27 (0,0)) (xb a5.out) hb);clear hb hbox hg;have B7:=e1.out;have B8:=e2.out;have B9:=e3.out;have C0:=e4.out;have d2:=cz20 a4.out;have d3:=cz21 a4.out;have d4:=blk_frozen a4.out 0;have d5:=blk_frozen a4.out 1;have C1:=e5.out;have C2:=e6.out;have d2:=cz20 a5.out;have d3:=cz21 a5.out;have d4:=blk_frozen a5.out 0;have d5:=blk_frozen a5.out 1)|((with_reducible refine gate_dst (N:=7) rfl ?_);refine bx_ (N:=7) (cs:=#[.slice none 0 0,.slice none 0 0]) (t:=27) ?_;intro a8 hg E2 hbox hb;have a1:=ak (hbox);have u7:=ak ((by rw [hg];exact (below_size z18_10):w.heap.size≤a8));have k5:=ak ((by rw [hg];exact (below_size z18_10):w.heap.size≤a8));replace HB:=ak (below_step z18_10 hb);have b6:=ak ((by rw [hg];exact Nat.ne_of_lt (blk_lt (g:=a9) (o:=.cells #[.slice A0_0 l0_0.length c0_0,.slice A0_1 l0_1.length c0_1] 27 (0,0)) (xb a4.out)):a9≠a8));have d0:=ak ((by rw [hg];exact Nat.ne_of_gt (blk_lt (g:=a9) (o:=.cells #[.slice A0_0 l0_0.length c0_0,.slice A0_1 l0_1.length c0_1] 27 (0,0)) (xb a4.out)):a8≠a9));replace a4:=ak (blk_below (g:=a9) (o:=.cells #[.slice A0_0 l0_0.length c0_0,.slice A0_1 l0_1.length c0_1] 27 (0,0)) (xb a4.out) hb);have b7:=ak ((by rw [hg];exact Nat.ne_of_lt (blk_lt (g:=b1) (o:=.cells #[.slice A1_0 l1_0.length c1_0,.slice A1_1 l1_1.length c1_1] 27 (0,0)) (xb a5.out)):b1≠a8));have d1:=ak ((by rw [hg];exact Nat.ne_of_gt (blk_lt (g:=b1) (o:=.cells #[.slice A1_0 l1_0.length c1_0,.slice A1_1 l1_1.length c1_1] 27 (0,0)) (xb a5.out)):a8≠b1));replace a5:=ak (blk_below (g:=b1) (o:=.cells #[.slice A1_0 l1_0.length c1_0,.slice A1_1 l1_1.length c1_1] 27 (0,0)) (xb a5.out) hb);have b8:=ak ((by rw [hg];exact Nat.ne_of_lt (blk_lt (g:=b2) (o:=.cells #[.slice none 0 0,.slice none 0 0] 27 (0,0)) (xb a6.out)):b2≠a8));have d6:=ak ((by rw [hg];exact Nat.ne_of_gt (blk_lt (g:=b2) (o:=.cells #[.slice none 0 0,.slice none 0 0] 27 (0,0)) (xb a6.out)):a8≠b2));replace a6:=ak (blk_below (g:=b2) (o:=.cells #[.slice none 0 0,.slice none 0 0] 27 (0,0)) (xb a6.out) hb);clear hb hbox hg;have u8:=d0.out;have v0:=b6.out;have v1:=d1.out;have v2:=b7.out;have v3:=d6.out;have v4:=b8.out;have d2:=cz20 a1.out;have d3:=cz21 a1.out;have d4:=blk_frozen a1.out 0;have d5:=blk_frozen a1.out 1))
 go_loopg [8] k (fun kq v8 w'=>∃ (b0:Int) (a7:List (List Int)) (a3:List Int) (u318000:Value) (u318001:Value),v8 = .int .i64 b0∧Aside0 (spec_l20Glued.l0 kq (l0_1.length:Int) (l1_1.length:Int) b0 l0_0 l0_1 l1_0 l1_1 a7 a3=some (r1,r2))∧Aside0 (kq≤k)∧Aside0 (Kd.S (Kd.slice 3 (Kd.int .i64)) 25 w' w.heap.size (fun k_=>some k_≠(u318001:Value).ownBlock) u318000 a7)∧Aside0 (Kd.R (Kd.int .i64) 3 w' w.heap.size (fun _=>True) u318001 a3)∧Aside0 (w'.heap[a9]?=some (.cells #[(.slice A0_0 l0_0.length c0_0),(.slice A0_1 l0_1.length c0_1)] 27 (0,0)))∧Aside0 (w'.heap[b1]?=some (.cells #[(.slice A1_0 l1_0.length c1_0),(.slice A1_1 l1_1.length c1_1)] 27 (0,0)))∧Aside0 (w'.heap[b2]?=some (.cells #[(.slice none 0 0),(.slice none 0 0)] 27 (0,0)))∧Aside0 (w'.heap[a8]?=some (.cells #[u318000,u318001] 27 (0,0)))∧Aside0 (Below w.heap.size w w'))
 case atStart=>exact ⟨(0),(([]:List (List Int))),(([]:List Int)),(.slice none 0 0),(.slice none 0 0),z18_6,H',⟨Nat.le_refl _⟩,⟨(by first|exact Kd.S_nil _ _ _ _ _|exact Kd.N_nil _ _ _ _ _|exact Kd.V_nil _ _ _ _ _|exact Kd.Q_nil _ _ _ _ _|exact Kd.R_nil _ _ _ _ _)⟩,⟨(by first|exact Kd.R_nil _ _ _ _ _|exact Kd.N_nil _ _ _ _ _|exact Kd.V_nil _ _ _ _ _|exact Kd.Q_nil _ _ _ _ _|exact Kd.S_nil _ _ _ _ _)⟩,⟨(by (with_reducible repeat (first|refine blk_drewN ?_ _|refine blk_drew ?_|refine blk_alloc ?_ _));refine blk_far ?_ b6.out _;(with_reducible repeat (first|refine blk_drewN ?_ _|refine blk_drew ?_|refine blk_alloc ?_ _));refine blk_far ?_ b6.out _;(with_reducible repeat (first|refine blk_drewN ?_ _|refine blk_drew ?_|refine blk_alloc ?_ _));exact a4.out)⟩,⟨(by (with_reducible repeat (first|refine blk_drewN ?_ _|refine blk_drew ?_|refine blk_alloc ?_ _));refine blk_far ?_ b7.out _;(with_reducible repeat (first|refine blk_drewN ?_ _|refine blk_drew ?_|refine blk_alloc ?_ _));refine blk_far ?_ b7.out _;(with_reducible repeat (first|refine blk_drewN ?_ _|refine blk_drew ?_|refine blk_alloc ?_ _));exact a5.out)⟩,⟨(by (with_reducible repeat (first|refine blk_drewN ?_ _|refine blk_drew ?_|refine blk_alloc ?_ _));refine blk_far ?_ b8.out _;(with_reducible repeat (first|refine blk_drewN ?_ _|refine blk_drew ?_|refine blk_alloc ?_ _));refine blk_far ?_ b8.out _;(with_reducible repeat (first|refine blk_drewN ?_ _|refine blk_drew ?_|refine blk_alloc ?_ _));exact a6.out)⟩,⟨(by (with_reducible repeat (first|refine blk_drewN ?_ _|refine blk_drew ?_|refine blk_alloc ?_ _));refine blk_put (cs:=#[.slice none 0 0,.slice none 0 0]) ?_ 1 _ rfl;(with_reducible repeat (first|refine blk_drewN ?_ _|refine blk_drew ?_|refine blk_alloc ?_ _));refine blk_put (cs:=#[.slice none 0 0,.slice none 0 0]) ?_ 0 _ rfl;(with_reducible repeat (first|refine blk_drewN ?_ _|refine blk_drew ?_|refine blk_alloc ?_ _));exact a1.out)⟩,⟨z18_0⟩⟩
 case round =>
  clear H'
  try clear d2
  try clear d3
  try clear d4
  try clear d5
  obtain ⟨b0,a7,a3,u318000,u318001,rfl,HA,HK1,a2,a0,a4,a5,a6,a1,HB⟩:=hrel
  cases gk with
  | zero=>exact absurd HA.out (by simp [spec_l20Glued.l0])
  | succ k1 =>
   have H:=HA.out
   clear HA
   simp only [spec_l20Glued.l0] at H
   replace H:=os_ H
   rcases H with ⟨e8,H⟩|⟨e8,H⟩
   ·
    obtain ⟨y318,hy318⟩ : ∃ y_:List Int,y_=(([]:List Int)):=⟨_,rfl⟩
    replace H:(spec_l20Glued.l1 k1 (l0_1.length:Int) (l1_1.length:Int) b0 y318 0 l0_0 l0_1 l1_0 l1_1 a7 a3)=some (r1,r2):=by first|(rw [hy318];with_reducible exact H)|(have H2_:=(Option.bind_some _ _).symm.trans H;rw [hy318];with_reducible exact H2_)|(have H2_:=(Option.bind_some _ _).symm.trans H;with_reducible exact H2_)|with_reducible exact H|(rw [hy318];exact H)|exact H
    have Ny318:=ak hy318
    clear hy318
    have H':=ak H
    clear H
    go_wp2_with (first|((with_reducible refine gate_dst (N:=27) rfl ?_);refine Kd.R_lit (Kd.int .i64) _ 3 ?hg (N:=27) ?hd (xs:=([]:List Int)) (inner:=[]) (ok:=fun _=>True) (okp:=fun _=>True) ?hr ?hp (fun _ hk=>hk) trivial (Below.refl _ _) (Nat.le_refl _) (by simp) ?_;(case hd=>rfl);(case hg=>rfl);(case hr=>first|(go_simp;done)|(go_simp;rfl));(case hp=>exact (Reps.none _ _));intro C3 E3 ho18 hb hg_ hnew_;clear hg_ hnew_;(first|rw [← Ny318.out] at ho18|(simp only [Int.reduceToNat] at ho18;rw [← Ny318.out] at ho18));replace a2:=ak (Kd.S_elder' (xS a2.out) (Kd.R_base ho18) hb);have k6:=ak (Kd.R_lower (Kd.R_new' ho18 (Kd.R_lt (xR a0.out))) (below_size z18_0));replace a0:=ak (Kd.R_elder' (xR a0.out) (Kd.R_base ho18) hb);replace a4:=ak (blk_below (g:=a9) (o:=.cells #[.slice A0_0 l0_0.length c0_0,.slice A0_1 l0_1.length c0_1] 27 (0,0)) (xb a4.out) hb);replace a5:=ak (blk_below (g:=b1) (o:=.cells #[.slice A1_0 l1_0.length c1_0,.slice A1_1 l1_1.length c1_1] 27 (0,0)) (xb a5.out) hb);replace a6:=ak (blk_below (g:=b2) (o:=.cells #[.slice none 0 0,.slice none 0 0] 27 (0,0)) (xb a6.out) hb);replace a1:=ak (blk_below (g:=a8) (o:=.cells #[u318000,u318001] 27 (0,0)) (xb a1.out) hb);replace HB:=ak (below_step z18_0 hb);clear hb ho18))
    go_loopg [9,10] k1 (fun kq v9 C4 w'=>∃ (b9:List Int) (b4:Int),C4 = .int .i64 b4∧Aside0 (spec_l20Glued.l1 kq (l0_1.length:Int) (l1_1.length:Int) b0 b9 b4 l0_0 l0_1 l1_0 l1_1 a7 a3=some (r1,r2))∧Aside0 (kq≤k1)∧Aside0 (Kd.R (Kd.int .i64) 3 w' w.heap.size (fun k_=>some k_≠(u318001:Value).ownBlock) v9 b9)∧Aside0 (Kd.S (Kd.slice 3 (Kd.int .i64)) 25 w' w.heap.size (fun k_=>some k_≠(v9:Value).ownBlock∧some k_≠(u318001:Value).ownBlock) u318000 a7)∧Aside0 (Kd.R (Kd.int .i64) 3 w' w.heap.size (fun k_=>some k_≠(v9:Value).ownBlock) u318001 a3)∧Aside0 (w'.heap[a9]?=some (.cells #[(.slice A0_0 l0_0.length c0_0),(.slice A0_1 l0_1.length c0_1)] 27 (0,0)))∧Aside0 (w'.heap[b1]?=some (.cells #[(.slice A1_0 l1_0.length c1_0),(.slice A1_1 l1_1.length c1_1)] 27 (0,0)))∧Aside0 (w'.heap[b2]?=some (.cells #[(.slice none 0 0),(.slice none 0 0)] 27 (0,0)))∧Aside0 (w'.heap[a8]?=some (.cells #[u318000,u318001] 27 (0,0)))∧Aside0 (Below w.heap.size w w'))
    case atStart=>exact ⟨(y318),(0),z18_6,H',⟨Nat.le_refl _⟩,⟨(by (with_reducible repeat (first|apply Kd.R_alloc|apply Kd.R_drewN|apply Kd.R_drew));exact Kd.R_mono k6.out (fun _ hk=>hk.2))⟩,⟨z18_4⟩,⟨z18_7⟩,⟨(xb a4.out)⟩,⟨(xb a5.out)⟩,⟨(xb a6.out)⟩,⟨(xb a1.out)⟩,⟨z18_0⟩⟩
    case round =>
     clear H'
     try clear n8
     try clear e8
     try clear d2
     try clear d3
     try clear d4
     try clear d5
     obtain ⟨b9,b4,rfl,HA,HK2,b3,a2,a0,a4,a5,a6,a1,HB⟩:=hrel
     cases gk with
     | zero=>exact absurd HA.out (by simp [spec_l20Glued.l1])
     | succ k2 =>
      have H:=HA.out
      clear HA
      simp only [spec_l20Glued.l1] at H
      replace H:=os_ H
      rcases H with ⟨f9,H⟩|⟨f9,H⟩
      ·
       have i4:=ak H
       clear H
       go_upto_region 12 with (fail)
       go_cut [36] (fun C5 wc=>∃ (kq:Nat) (f5:Bool),C5 = .bool f5∧Aside0 (spec_l20Glued.j2 kq (l0_1.length:Int) (l1_1.length:Int) b0 b9 b4 0 f5 l0_0 l0_1 l1_0 l1_1 a7 a3=some (r1,r2))∧Aside0 (kq≤k2)∧Aside0 (Kd.R (Kd.int .i64) 3 wc w.heap.size (fun k_=>some k_≠(u318001:Value).ownBlock) u9 b9)∧Aside0 (Kd.S (Kd.slice 3 (Kd.int .i64)) 25 wc w.heap.size (fun k_=>some k_≠(u9:Value).ownBlock∧some k_≠(u318001:Value).ownBlock) u318000 a7)∧Aside0 (Kd.R (Kd.int .i64) 3 wc w.heap.size (fun k_=>some k_≠(u9:Value).ownBlock) u318001 a3)∧Aside0 (wc.heap[a9]?=some (.cells #[(.slice A0_0 l0_0.length c0_0),(.slice A0_1 l0_1.length c0_1)] 27 (0,0)))∧Aside0 (wc.heap[b1]?=some (.cells #[(.slice A1_0 l1_0.length c1_0),(.slice A1_1 l1_1.length c1_1)] 27 (0,0)))∧Aside0 (wc.heap[b2]?=some (.cells #[(.slice none 0 0),(.slice none 0 0)] 27 (0,0)))∧Aside0 (wc.heap[a8]?=some (.cells #[u318000,u318001] 27 (0,0)))∧Aside0 (Below w.heap.size w wc))
       case first =>
        have H:=i4.out
        clear i4
        replace H:=oe2 H
        rcases H with ⟨⟨-,e9,k7⟩,H⟩|⟨⟨E4,e9,k7⟩,H⟩
        ·
         (first|rw [e9]|(simp only [i64_w,i32_w];rw [e9])|skip)
         have H':=ak H
         clear H
         go_wp2
         go_meet
         case rel=>exact ⟨_,(true),z18_6,H',⟨(by have:=HK1.out;have:=HK2.out;first|omega|exact Nat.le_refl _)⟩,⟨(xR b3.out)⟩,⟨(xS a2.out)⟩,⟨(xR a0.out)⟩,⟨(xb a4.out)⟩,⟨(xb a5.out)⟩,⟨(xb a6.out)⟩,⟨(xb a1.out)⟩,⟨z18_0⟩⟩
        (first|rw [e9]|(simp only [i64_w,i32_w];rw [e9])|skip)
        have H':=ak H
        clear H
        go_wp2
        go_meet
        case rel=>exact ⟨_,((b4==(wrap64 ((wrap64 ((l0_1.length:Int)+(l1_1.length:Int)))-3)))),z18_6,H',⟨(by have:=HK1.out;have:=HK2.out;first|omega|exact Nat.le_refl _)⟩,⟨(xR b3.out)⟩,⟨(xS a2.out)⟩,⟨(xR a0.out)⟩,⟨(xb a4.out)⟩,⟨(xb a5.out)⟩,⟨(xb a6.out)⟩,⟨(xb a1.out)⟩,⟨z18_0⟩⟩
       case rest =>
        clear i4
        try clear n8
        try clear e8
        try clear v5
        try clear f9
        try clear d2
        try clear d3
        try clear d4
        try clear d5
        obtain ⟨kq,f5,rfl,HA,e7,b3,a2,a0,a4,a5,a6,a1,HB⟩:=hcut
        cases kq with
        | zero=>exact absurd HA.out (by simp [spec_l20Glued.j2])
        | succ i5 =>
         have H:=HA.out
         clear HA
         simp only [spec_l20Glued.j2] at H
         replace H:=ox_ H
         rcases H with ⟨rfl,H⟩|⟨rfl,H⟩
         ·
          replace H:=ok_ H
          obtain ⟨v6,H⟩:=H
          have LMc23:=ak v6
          clear v6
          obtain ⟨y321,hy321⟩ : ∃ y_:List Int,y_=(b9 ++ [1]):=⟨_,rfl⟩
          replace H:(spec_l20Glued.l1 i5 (l0_1.length:Int) (l1_1.length:Int) b0 y321 (wrap64 (b4+1)) l0_0 l0_1 l1_0 l1_1 a7 a3)=some (r1,r2):=by first|(rw [hy321];with_reducible exact H)|(have H2_:=(Option.bind_some _ _).symm.trans H;rw [hy321];with_reducible exact H2_)|(have H2_:=(Option.bind_some _ _).symm.trans H;with_reducible exact H2_)|with_reducible exact H|(rw [hy321];exact H)|exact H
          have Ny321:=ak hy321
          clear hy321
          have H':=ak H
          clear H
          go_wp2_with (first|((with_reducible refine gate_builtin (b:=.append) (xs:=#[.tmp 103,.tmp 105]) rfl ?_);at_builtin;refine Kd.R_append (Kd.int .i64) (w0:=w) w.heap.size rfl (.tmp 103) (.tmp 105) 25 3 (.int .i64 0) 8 rfl Try.underlying25 info3 rfl z18_11 (by omega) u9 b9 1 [.int .i64 1] (fun k_=>some k_≠(u318001:Value).ownBlock) (fun _=>False) rfl rfl ?aP (fun _ hk=>hk.elim) ?aF ?aO ?aB ?aS ?aL ?_;(case aP=>exact rfl);(case aB=>exact z18_0);(case aF=>exact (fun k_ hk=>Kd.fresh' (Kd.R_lt (xR a0.out)) k_ hk));(case aO=>exact (xR b3.out));(case aS=>exact (below_size z18_0));(case aL=>have:=LMc23.out;omega);intro C6 E5 ho hb hg hat;rw [← Ny321.out] at ho;replace a2:=ak (Kd.S_after (ok:=(fun k_=>some k_≠(u318001:Value).ownBlock)) z18_4 hg hat);replace a0:=ak (Kd.R_after (ok:=(fun _=>True)) z18_8 hg hat);replace a4:=ak (blk_grown (g:=a9) (o:=.cells #[.slice A0_0 l0_0.length c0_0,.slice A0_1 l0_1.length c0_1] 27 (0,0)) (xb a4.out) hg (Kd.R_ne b3.out a4.out z18_11));replace a5:=ak (blk_grown (g:=b1) (o:=.cells #[.slice A1_0 l1_0.length c1_0,.slice A1_1 l1_1.length c1_1] 27 (0,0)) (xb a5.out) hg (Kd.R_ne b3.out a5.out z18_11));replace a6:=ak (blk_grown (g:=b2) (o:=.cells #[.slice none 0 0,.slice none 0 0] 27 (0,0)) (xb a6.out) hg (Kd.R_ne b3.out a6.out z18_11));replace a1:=ak (blk_grown (g:=a8) (o:=.cells #[u318000,u318001] 27 (0,0)) (xb a1.out) hg (Kd.R_ne b3.out a1.out z18_11));replace HB:=ak (hb);have k8:=ak (ho);clear b3;clear ho hb hg hat))
          go_roundg i5
          case measure=>have:=HK1.out;have:=HK2.out;have:=e7.out;omega
          case rel=>exact ⟨(y321),(wrap64 (b4+1)),z18_6,H',⟨(by have:=HK1.out;have:=HK2.out;have:=e7.out;omega)⟩,⟨(xR k8.out)⟩,⟨z18_4⟩,⟨z18_7⟩,⟨(xb a4.out)⟩,⟨(xb a5.out)⟩,⟨(xb a6.out)⟩,⟨(xb a1.out)⟩,⟨z18_0⟩⟩
         have i6:=ak H
         clear H
         go_upto_region 14 with (fail)
         go_cut [47] (fun C7 wc=>∃ (kq:Nat) (f6:Bool),C7 = .bool f6∧Aside0 (spec_l20Glued.j3 kq (l0_1.length:Int) (l1_1.length:Int) b0 b9 b4 0 f6 l0_0 l0_1 l1_0 l1_1 a7 a3=some (r1,r2))∧Aside0 (kq≤i5)∧Aside0 (Kd.R (Kd.int .i64) 3 wc w.heap.size (fun k_=>some k_≠(u318001:Value).ownBlock) u9 b9)∧Aside0 (Kd.S (Kd.slice 3 (Kd.int .i64)) 25 wc w.heap.size (fun k_=>some k_≠(u9:Value).ownBlock∧some k_≠(u318001:Value).ownBlock) u318000 a7)∧Aside0 (Kd.R (Kd.int .i64) 3 wc w.heap.size (fun k_=>some k_≠(u9:Value).ownBlock) u318001 a3)∧Aside0 (wc.heap[a9]?=some (.cells #[(.slice A0_0 l0_0.length c0_0),(.slice A0_1 l0_1.length c0_1)] 27 (0,0)))∧Aside0 (wc.heap[b1]?=some (.cells #[(.slice A1_0 l1_0.length c1_0),(.slice A1_1 l1_1.length c1_1)] 27 (0,0)))∧Aside0 (wc.heap[b2]?=some (.cells #[(.slice none 0 0),(.slice none 0 0)] 27 (0,0)))∧Aside0 (wc.heap[a8]?=some (.cells #[u318000,u318001] 27 (0,0)))∧Aside0 (Below w.heap.size w wc))
         case first =>
          have H:=i6.out
          clear i6
          replace H:=os_ H
          rcases H with ⟨f0,H⟩|⟨f0,H⟩
          ·
           (first|rw [f0]|(simp only [i64_w,i32_w];rw [f0])|skip)
           have H':=ak H
           clear H
           go_wp2
           go_meet
           case rel=>exact ⟨_,(decide (b4<(wrap64 ((l0_1.length:Int)-1)))),z18_6,H',⟨(by have:=HK1.out;have:=HK2.out;have:=e7.out;first|omega|exact Nat.le_refl _)⟩,⟨(xR b3.out)⟩,⟨(xS a2.out)⟩,⟨(xR a0.out)⟩,⟨(xb a4.out)⟩,⟨(xb a5.out)⟩,⟨(xb a6.out)⟩,⟨(xb a1.out)⟩,⟨z18_0⟩⟩
          (first|rw [f0]|(simp only [i64_w,i32_w];rw [f0])|skip)
          have H':=ak H
          clear H
          go_wp2
          go_meet
          case rel=>exact ⟨_,(false),z18_6,H',⟨(by have:=HK1.out;have:=HK2.out;have:=e7.out;first|omega|exact Nat.le_refl _)⟩,⟨(xR b3.out)⟩,⟨(xS a2.out)⟩,⟨(xR a0.out)⟩,⟨(xb a4.out)⟩,⟨(xb a5.out)⟩,⟨(xb a6.out)⟩,⟨(xb a1.out)⟩,⟨z18_0⟩⟩
         case rest =>
          clear i6
          try clear n8
          try clear e8
          try clear v5
          try clear f9
          try clear C8
          try clear d2
          try clear d3
          try clear d4
          try clear d5
          obtain ⟨kq,f6,rfl,HA,f4,b3,a2,a0,a4,a5,a6,a1,HB⟩:=hcut
          cases kq with
          | zero=>exact absurd HA.out (by simp [spec_l20Glued.j3])
          | succ i7 =>
           have H:=HA.out
           clear HA
           simp only [spec_l20Glued.j3] at H
           replace H:=ox_ H
           rcases H with ⟨rfl,H⟩|⟨rfl,H⟩
           ·
            replace H:=od4 H
            obtain ⟨v7,x0,x1,x2,H⟩:=H
            replace H:=ok_ H
            obtain ⟨x3,H⟩:=H
            have LMc32:=ak x3
            clear x3
            obtain ⟨y326,hy326⟩ : ∃ y_:List Int,y_=(b9 ++ [rd (rd_L1 l0_0 b0) b4]):=⟨_,rfl⟩
            replace H:(spec_l20Glued.l1 i7 (l0_1.length:Int) (l1_1.length:Int) b0 y326 (wrap64 (b4+1)) l0_0 l0_1 l1_0 l1_1 a7 a3)=some (r1,r2):=by first|(rw [hy326];with_reducible exact H)|(have H2_:=(Option.bind_some _ _).symm.trans H;rw [hy326];with_reducible exact H2_)|(have H2_:=(Option.bind_some _ _).symm.trans H;with_reducible exact H2_)|with_reducible exact H|(rw [hy326];exact H)|exact H
            have Ny326:=ak hy326
            clear hy326
            have H':=ak H
            clear H
            have x4:=e1.out
            have x5:=e2.out
            have x6:=e3.out
            have x7:=e4.out
            have x8:=b6.out
            have x9:=d0.out
            have d2:=cz20 a4.out
            have d3:=cz21 a4.out
            have d4:=blk_frozen a4.out 0
            have d5:=blk_frozen a4.out 1
            have i8:0≤(b0:Int):=oa_
            have q324:b0<(l0_0.length:Int):=oa_
            obtain ⟨ad324,n9,o0,e324,hx324_0,hl324_0,hi324_0⟩:=at_L1 HR0_0.out b0 i8 q324
            cases e324
            replace hx324_0:=(HB.out.cell (World.block_lt_of_cell? w _ hx324_0)).trans hx324_0
            have HR324_0:=ak hi324_0
            have n6:=ak hl324_0
            clear hi324_0 hl324_0
            replace i8:=eq_true i8
            replace q324:=eq_true q324
            have i9:0≤(b4:Int):=oa_
            have q325:b4<((rd_L1 l0_0 b0).length:Int):=oa_
            obtain ⟨ad325,e325,hx325_0⟩:=Kd.at_int HR324_0.out b4 i9 q325
            cases e325
            replace hx325_0:=(HB.out.cell (World.block_lt_of_cell? w _ hx325_0)).trans hx325_0
            replace i9:=eq_true i9
            replace q325:=eq_true q325
            go_wp2_with (first|((with_reducible refine gate_builtin (b:=.append) (xs:=#[.tmp 103,.tmp 105]) rfl ?_);at_builtin;refine Kd.R_append (Kd.int .i64) (w0:=w) w.heap.size rfl (.tmp 103) (.tmp 105) 25 3 (.int .i64 0) 8 rfl Try.underlying25 info3 rfl z18_11 (by omega) u9 b9 (rd (rd_L1 l0_0 b0) b4) [.int .i64 (rd (rd_L1 l0_0 b0) b4)] (fun k_=>some k_≠(u318001:Value).ownBlock) (fun _=>False) rfl rfl ?aP (fun _ hk=>hk.elim) ?aF ?aO ?aB ?aS ?aL ?_;(case aP=>exact rfl);(case aB=>exact z18_0);(case aF=>exact (fun k_ hk=>Kd.fresh' (Kd.R_lt (xR a0.out)) k_ hk));(case aO=>exact (xR b3.out));(case aS=>exact (below_size z18_0));(case aL=>have:=LMc32.out;omega);intro C9 E6 ho hb hg hat;rw [← Ny326.out] at ho;replace a2:=ak (Kd.S_after (ok:=(fun k_=>some k_≠(u318001:Value).ownBlock)) z18_4 hg hat);replace a0:=ak (Kd.R_after (ok:=(fun _=>True)) z18_8 hg hat);replace a4:=ak (blk_grown (g:=a9) (o:=.cells #[.slice (some ad324) l0_0.length c0_0,.slice A0_1 l0_1.length c0_1] 27 (0,0)) (xb a4.out) hg (Kd.R_ne b3.out a4.out z18_11));replace a5:=ak (blk_grown (g:=b1) (o:=.cells #[.slice A1_0 l1_0.length c1_0,.slice A1_1 l1_1.length c1_1] 27 (0,0)) (xb a5.out) hg (Kd.R_ne b3.out a5.out z18_11));replace a6:=ak (blk_grown (g:=b2) (o:=.cells #[.slice none 0 0,.slice none 0 0] 27 (0,0)) (xb a6.out) hg (Kd.R_ne b3.out a6.out z18_11));replace a1:=ak (blk_grown (g:=a8) (o:=.cells #[u318000,u318001] 27 (0,0)) (xb a1.out) hg (Kd.R_ne b3.out a1.out z18_11));replace HB:=ak (hb);have k9:=ak (ho);clear b3;clear ho hb hg hat))
            go_roundg i7
            case measure=>have:=HK1.out;have:=HK2.out;have:=e7.out;have:=f4.out;omega
            case rel=>exact ⟨(y326),(wrap64 (b4+1)),z18_6,H',⟨(by have:=HK1.out;have:=HK2.out;have:=e7.out;have:=f4.out;omega)⟩,⟨(xR k9.out)⟩,⟨z18_4⟩,⟨z18_7⟩,⟨(xb a4.out)⟩,⟨(xb a5.out)⟩,⟨(xb a6.out)⟩,⟨(xb a1.out)⟩,⟨z18_0⟩⟩
           have j0:=ak H
           clear H
           go_upto_region 16 with (fail)
           go_cut [66] (fun D0 wc=>∃ (kq:Nat) (f7:Bool),D0 = .bool f7∧Aside0 (spec_l20Glued.j4 kq (l0_1.length:Int) (l1_1.length:Int) b0 b9 b4 0 f7 l0_0 l0_1 l1_0 l1_1 a7 a3=some (r1,r2))∧Aside0 (kq≤i7)∧Aside0 (Kd.R (Kd.int .i64) 3 wc w.heap.size (fun k_=>some k_≠(u318001:Value).ownBlock) u9 b9)∧Aside0 (Kd.S (Kd.slice 3 (Kd.int .i64)) 25 wc w.heap.size (fun k_=>some k_≠(u9:Value).ownBlock∧some k_≠(u318001:Value).ownBlock) u318000 a7)∧Aside0 (Kd.R (Kd.int .i64) 3 wc w.heap.size (fun k_=>some k_≠(u9:Value).ownBlock) u318001 a3)∧Aside0 (wc.heap[a9]?=some (.cells #[(.slice A0_0 l0_0.length c0_0),(.slice A0_1 l0_1.length c0_1)] 27 (0,0)))∧Aside0 (wc.heap[b1]?=some (.cells #[(.slice A1_0 l1_0.length c1_0),(.slice A1_1 l1_1.length c1_1)] 27 (0,0)))∧Aside0 (wc.heap[b2]?=some (.cells #[(.slice none 0 0),(.slice none 0 0)] 27 (0,0)))∧Aside0 (wc.heap[a8]?=some (.cells #[u318000,u318001] 27 (0,0)))∧Aside0 (Below w.heap.size w wc))
           case first =>
            have H:=j0.out
            clear j0
            replace H:=op_ H
            rcases H with ⟨l2,H⟩|⟨l2,H⟩
            ·
             have f1:decide ((wrap64 ((l0_1.length:Int)-1))≤b0)=true:=dT_ l2
             clear l2
             (first|rw [f1]|(simp only [i64_w,i32_w];rw [f1])|skip)
             replace H:=op_ H
             rcases H with ⟨l3,H⟩|⟨l3,H⟩
             ·
              have l4:decide ((wrap64 ((l0_1.length:Int)-1))≤b4)=true:=dT_ l3
              clear l3
              have H':=ak H
              clear H
              go_wp2
              go_meet
              case rel=>exact ⟨_,(decide (b0<(wrap64 ((wrap64 ((l0_1.length:Int)+(l1_1.length:Int)))-3)))),z18_6,H',⟨z18_15⟩,⟨(xR b3.out)⟩,⟨(xS a2.out)⟩,⟨(xR a0.out)⟩,⟨(xb a4.out)⟩,⟨(xb a5.out)⟩,⟨(xb a6.out)⟩,⟨(xb a1.out)⟩,⟨z18_0⟩⟩
             have l4:decide ((wrap64 ((l0_1.length:Int)-1))≤b4)=false:=dF_ l3
             clear l3
             have H':=ak H
             clear H
             go_wp2
             go_meet
             case rel=>exact ⟨_,(false),z18_6,H',⟨z18_15⟩,⟨(xR b3.out)⟩,⟨(xS a2.out)⟩,⟨(xR a0.out)⟩,⟨(xb a4.out)⟩,⟨(xb a5.out)⟩,⟨(xb a6.out)⟩,⟨(xb a1.out)⟩,⟨z18_0⟩⟩
            have f1:decide ((wrap64 ((l0_1.length:Int)-1))≤b0)=false:=dF_ l2
            clear l2
            (first|rw [f1]|(simp only [i64_w,i32_w];rw [f1])|skip)
            have H':=ak H
            clear H
            go_wp2
            go_meet
            case rel=>exact ⟨_,(false),z18_6,H',⟨z18_15⟩,⟨(xR b3.out)⟩,⟨(xS a2.out)⟩,⟨(xR a0.out)⟩,⟨(xb a4.out)⟩,⟨(xb a5.out)⟩,⟨(xb a6.out)⟩,⟨(xb a1.out)⟩,⟨z18_0⟩⟩
           case rest =>
            clear j0
            try clear n8
            try clear e8
            try clear v5
            try clear f9
            try clear C8
            try clear E7
            try clear d2
            try clear d3
            try clear d4
            try clear d5
            obtain ⟨kq,f7,rfl,HA,h3,b3,a2,a0,a4,a5,a6,a1,HB⟩:=hcut
            cases kq with
            | zero=>exact absurd HA.out (by simp [spec_l20Glued.j4])
            | succ f2 =>
             have H:=HA.out
             clear HA
             simp only [spec_l20Glued.j4] at H
             replace H:=ox_ H
             rcases H with ⟨rfl,H⟩|⟨rfl,H⟩
             ·
              obtain ⟨ji42,hji42⟩ : ∃ j_:Int,(wrap64 ((wrap64 (b0-(l0_1.length:Int)))+2))=j_:=⟨_,rfl⟩
              replace H:(if 0≤(ji42) then (if (ji42)<(l1_0.length:Int) then (if 0≤(wrap64 ((wrap64 (b4-(l0_1.length:Int)))+2)) then (if (wrap64 ((wrap64 (b4-(l0_1.length:Int)))+2))<((rd_L1 l1_0 (ji42)).length:Int) then (if b9.length<17592186044416 then (spec_l20Glued.l1 f2 (l0_1.length:Int) (l1_1.length:Int) b0 (b9 ++ [rd (rd_L1 l1_0 (ji42)) (wrap64 ((wrap64 (b4-(l0_1.length:Int)))+2))]) (wrap64 (b4+1)) l0_0 l0_1 l1_0 l1_1 a7 a3) else (none)) else (none)) else (none)) else (none)) else (none))=some (r1,r2):=by first|(rw [hji42] at H;exact H)|(simp only [hji42] at H ⊢;exact H)
              have hji42w:(IntKind.i64.wrap ((wrap64 (b0-(l0_1.length:Int)))+2))=ji42:=(i64_w _).trans hji42
              replace H:=od2 H
              obtain ⟨y0,y1,H⟩:=H
              obtain ⟨ji45,hji45⟩ : ∃ j_:Int,(wrap64 ((wrap64 (b4-(l0_1.length:Int)))+2))=j_:=⟨_,rfl⟩
              replace H:(if 0≤(ji45) then (if (ji45)<((rd_L1 l1_0 (ji42)).length:Int) then (if b9.length<17592186044416 then (spec_l20Glued.l1 f2 (l0_1.length:Int) (l1_1.length:Int) b0 (b9 ++ [rd (rd_L1 l1_0 (ji42)) (ji45)]) (wrap64 (b4+1)) l0_0 l0_1 l1_0 l1_1 a7 a3) else (none)) else (none)) else (none))=some (r1,r2):=by first|(rw [hji45] at H;exact H)|(simp only [hji45] at H ⊢;exact H)
              have hji45w:(IntKind.i64.wrap ((wrap64 (b4-(l0_1.length:Int)))+2))=ji45:=(i64_w _).trans hji45
              replace H:=od2 H
              obtain ⟨y2,y3,H⟩:=H
              replace H:=ok_ H
              obtain ⟨y4,H⟩:=H
              have LMc48:=ak y4
              clear y4
              obtain ⟨y331,hy331⟩ : ∃ y_:List Int,y_=(b9 ++ [rd (rd_L1 l1_0 (ji42)) (ji45)]):=⟨_,rfl⟩
              replace H:(spec_l20Glued.l1 f2 (l0_1.length:Int) (l1_1.length:Int) b0 y331 (wrap64 (b4+1)) l0_0 l0_1 l1_0 l1_1 a7 a3)=some (r1,r2):=by first|(rw [hy331];with_reducible exact H)|(have H2_:=(Option.bind_some _ _).symm.trans H;rw [hy331];with_reducible exact H2_)|(have H2_:=(Option.bind_some _ _).symm.trans H;with_reducible exact H2_)|with_reducible exact H|(rw [hy331];exact H)|exact H
              have Ny331:=ak hy331
              clear hy331
              have H':=ak H
              clear H
              have y5:=e2.out
              have y6:=e1.out
              have y7:=e5.out
              have y8:=e6.out
              have y9:=b7.out
              have z0:=d1.out
              have d2:=cz20 a5.out
              have d3:=cz21 a5.out
              have d4:=blk_frozen a5.out 0
              have d5:=blk_frozen a5.out 1
              have j1:0≤((ji42):Int):=oa_
              have q329:(ji42)<(l1_0.length:Int):=oa_
              obtain ⟨ad329,o1,o2,e329,hx329_0,hl329_0,hi329_0⟩:=at_L1 HR1_0.out (ji42) j1 q329
              cases e329
              replace hx329_0:=(HB.out.cell (World.block_lt_of_cell? w _ hx329_0)).trans hx329_0
              have HR329_0:=ak hi329_0
              have n7:=ak hl329_0
              clear hi329_0 hl329_0
              replace j1:=eq_true j1
              replace q329:=eq_true q329
              have j5:0≤((ji45):Int):=oa_
              have q330:(ji45)<((rd_L1 l1_0 (ji42)).length:Int):=oa_
              obtain ⟨ad330,e330,hx330_0⟩:=Kd.at_int HR329_0.out (ji45) j5 q330
              cases e330
              replace hx330_0:=(HB.out.cell (World.block_lt_of_cell? w _ hx330_0)).trans hx330_0
              replace j5:=eq_true j5
              replace q330:=eq_true q330
              go_wp2_with (first|((with_reducible refine gate_builtin (b:=.append) (xs:=#[.tmp 103,.tmp 105]) rfl ?_);at_builtin;refine Kd.R_append (Kd.int .i64) (w0:=w) w.heap.size rfl (.tmp 103) (.tmp 105) 25 3 (.int .i64 0) 8 rfl Try.underlying25 info3 rfl z18_11 (by omega) u9 b9 (rd (rd_L1 l1_0 (ji42)) (ji45)) [.int .i64 (rd (rd_L1 l1_0 (ji42)) (ji45))] (fun k_=>some k_≠(u318001:Value).ownBlock) (fun _=>False) rfl rfl ?aP (fun _ hk=>hk.elim) ?aF ?aO ?aB ?aS ?aL ?_;(case aP=>exact rfl);(case aB=>exact z18_0);(case aF=>exact (fun k_ hk=>Kd.fresh' (Kd.R_lt (xR a0.out)) k_ hk));(case aO=>exact (xR b3.out));(case aS=>exact (below_size z18_0));(case aL=>have:=LMc48.out;omega);intro D1 E8 ho hb hg hat;rw [← Ny331.out] at ho;replace a2:=ak (Kd.S_after (ok:=(fun k_=>some k_≠(u318001:Value).ownBlock)) z18_4 hg hat);replace a0:=ak (Kd.R_after (ok:=(fun _=>True)) z18_8 hg hat);replace a4:=ak (blk_grown (g:=a9) (o:=.cells #[.slice A0_0 l0_0.length c0_0,.slice A0_1 l0_1.length c0_1] 27 (0,0)) (xb a4.out) hg (Kd.R_ne b3.out a4.out z18_11));replace a5:=ak (blk_grown (g:=b1) (o:=.cells #[.slice (some ad329) l1_0.length c1_0,.slice A1_1 l1_1.length c1_1] 27 (0,0)) (xb a5.out) hg (Kd.R_ne b3.out a5.out z18_11));replace a6:=ak (blk_grown (g:=b2) (o:=.cells #[.slice none 0 0,.slice none 0 0] 27 (0,0)) (xb a6.out) hg (Kd.R_ne b3.out a6.out z18_11));replace a1:=ak (blk_grown (g:=a8) (o:=.cells #[u318000,u318001] 27 (0,0)) (xb a1.out) hg (Kd.R_ne b3.out a1.out z18_11));replace HB:=ak (hb);have l5:=ak (ho);clear b3;clear ho hb hg hat))
              go_roundg f2
              case measure=>have:=HK1.out;have:=HK2.out;have:=e7.out;have:=f4.out;have:=h3.out;omega
              case rel=>exact ⟨(y331),(wrap64 (b4+1)),z18_6,H',⟨z18_16⟩,⟨(xR l5.out)⟩,⟨z18_4⟩,⟨z18_7⟩,⟨(xb a4.out)⟩,⟨(xb a5.out)⟩,⟨(xb a6.out)⟩,⟨(xb a1.out)⟩,⟨z18_0⟩⟩
             replace H:=oe2 H
             rcases H with ⟨⟨-,l6,l7⟩,H⟩|⟨⟨E9,l6,l7⟩,H⟩
             ·
              replace H:=ok_ H
              obtain ⟨z1,H⟩:=H
              have LMc55:=ak z1
              clear z1
              obtain ⟨y334,hy334⟩ : ∃ y_:List Int,y_=(b9 ++ [1]):=⟨_,rfl⟩
              replace H:(spec_l20Glued.l1 f2 (l0_1.length:Int) (l1_1.length:Int) b0 y334 (wrap64 (b4+1)) l0_0 l0_1 l1_0 l1_1 a7 a3)=some (r1,r2):=by first|(rw [hy334];with_reducible exact H)|(have H2_:=(Option.bind_some _ _).symm.trans H;rw [hy334];with_reducible exact H2_)|(have H2_:=(Option.bind_some _ _).symm.trans H;with_reducible exact H2_)|with_reducible exact H|(rw [hy334];exact H)|exact H
              have Ny334:=ak hy334
              clear hy334
              have H':=ak H
              clear H
              go_wp2_with (first|((with_reducible refine gate_builtin (b:=.append) (xs:=#[.tmp 103,.tmp 105]) rfl ?_);at_builtin;refine Kd.R_append (Kd.int .i64) (w0:=w) w.heap.size rfl (.tmp 103) (.tmp 105) 25 3 (.int .i64 0) 8 rfl Try.underlying25 info3 rfl z18_11 (by omega) u9 b9 1 [.int .i64 1] (fun k_=>some k_≠(u318001:Value).ownBlock) (fun _=>False) rfl rfl ?aP (fun _ hk=>hk.elim) ?aF ?aO ?aB ?aS ?aL ?_;(case aP=>exact rfl);(case aB=>exact z18_0);(case aF=>exact (fun k_ hk=>Kd.fresh' (Kd.R_lt (xR a0.out)) k_ hk));(case aO=>exact (xR b3.out));(case aS=>exact (below_size z18_0));(case aL=>have:=LMc55.out;omega);intro D2 F0 ho hb hg hat;rw [← Ny334.out] at ho;replace a2:=ak (Kd.S_after (ok:=(fun k_=>some k_≠(u318001:Value).ownBlock)) z18_4 hg hat);replace a0:=ak (Kd.R_after (ok:=(fun _=>True)) z18_8 hg hat);replace a4:=ak (blk_grown (g:=a9) (o:=.cells #[.slice A0_0 l0_0.length c0_0,.slice A0_1 l0_1.length c0_1] 27 (0,0)) (xb a4.out) hg (Kd.R_ne b3.out a4.out z18_11));replace a5:=ak (blk_grown (g:=b1) (o:=.cells #[.slice A1_0 l1_0.length c1_0,.slice A1_1 l1_1.length c1_1] 27 (0,0)) (xb a5.out) hg (Kd.R_ne b3.out a5.out z18_11));replace a6:=ak (blk_grown (g:=b2) (o:=.cells #[.slice none 0 0,.slice none 0 0] 27 (0,0)) (xb a6.out) hg (Kd.R_ne b3.out a6.out z18_11));replace a1:=ak (blk_grown (g:=a8) (o:=.cells #[u318000,u318001] 27 (0,0)) (xb a1.out) hg (Kd.R_ne b3.out a1.out z18_11));replace HB:=ak (hb);have l8:=ak (ho);clear b3;clear ho hb hg hat))
              go_roundg f2
              case measure=>have:=HK1.out;have:=HK2.out;have:=e7.out;have:=f4.out;have:=h3.out;omega
              case rel=>exact ⟨(y334),(wrap64 (b4+1)),z18_6,H',⟨z18_16⟩,⟨(xR l8.out)⟩,⟨z18_4⟩,⟨z18_7⟩,⟨(xb a4.out)⟩,⟨(xb a5.out)⟩,⟨(xb a6.out)⟩,⟨(xb a1.out)⟩,⟨z18_0⟩⟩
             replace H:=ok_ H
             obtain ⟨z2,H⟩:=H
             have LMc57:=ak z2
             clear z2
             obtain ⟨y337,hy337⟩ : ∃ y_:List Int,y_=(b9 ++ [0]):=⟨_,rfl⟩
             replace H:(spec_l20Glued.l1 f2 (l0_1.length:Int) (l1_1.length:Int) b0 y337 (wrap64 (b4+1)) l0_0 l0_1 l1_0 l1_1 a7 a3)=some (r1,r2):=by first|(rw [hy337];with_reducible exact H)|(have H2_:=(Option.bind_some _ _).symm.trans H;rw [hy337];with_reducible exact H2_)|(have H2_:=(Option.bind_some _ _).symm.trans H;with_reducible exact H2_)|with_reducible exact H|(rw [hy337];exact H)|exact H
             have Ny337:=ak hy337
             clear hy337
             have H':=ak H
             clear H
             go_wp2_with (first|((with_reducible refine gate_builtin (b:=.append) (xs:=#[.tmp 103,.tmp 105]) rfl ?_);at_builtin;refine Kd.R_append (Kd.int .i64) (w0:=w) w.heap.size rfl (.tmp 103) (.tmp 105) 25 3 (.int .i64 0) 8 rfl Try.underlying25 info3 rfl z18_11 (by omega) u9 b9 0 [.int .i64 0] (fun k_=>some k_≠(u318001:Value).ownBlock) (fun _=>False) rfl rfl ?aP (fun _ hk=>hk.elim) ?aF ?aO ?aB ?aS ?aL ?_;(case aP=>exact rfl);(case aB=>exact z18_0);(case aF=>exact (fun k_ hk=>Kd.fresh' (Kd.R_lt (xR a0.out)) k_ hk));(case aO=>exact (xR b3.out));(case aS=>exact (below_size z18_0));(case aL=>have:=LMc57.out;omega);intro D3 F1 ho hb hg hat;rw [← Ny337.out] at ho;replace a2:=ak (Kd.S_after (ok:=(fun k_=>some k_≠(u318001:Value).ownBlock)) z18_4 hg hat);replace a0:=ak (Kd.R_after (ok:=(fun _=>True)) z18_8 hg hat);replace a4:=ak (blk_grown (g:=a9) (o:=.cells #[.slice A0_0 l0_0.length c0_0,.slice A0_1 l0_1.length c0_1] 27 (0,0)) (xb a4.out) hg (Kd.R_ne b3.out a4.out z18_11));replace a5:=ak (blk_grown (g:=b1) (o:=.cells #[.slice A1_0 l1_0.length c1_0,.slice A1_1 l1_1.length c1_1] 27 (0,0)) (xb a5.out) hg (Kd.R_ne b3.out a5.out z18_11));replace a6:=ak (blk_grown (g:=b2) (o:=.cells #[.slice none 0 0,.slice none 0 0] 27 (0,0)) (xb a6.out) hg (Kd.R_ne b3.out a6.out z18_11));replace a1:=ak (blk_grown (g:=a8) (o:=.cells #[u318000,u318001] 27 (0,0)) (xb a1.out) hg (Kd.R_ne b3.out a1.out z18_11));replace HB:=ak (hb);have l9:=ak (ho);clear b3;clear ho hb hg hat))
             go_roundg f2
             case measure=>have:=HK1.out;have:=HK2.out;have:=e7.out;have:=f4.out;have:=h3.out;omega
             case rel=>exact ⟨(y337),(wrap64 (b4+1)),z18_6,H',⟨z18_16⟩,⟨(xR l9.out)⟩,⟨z18_4⟩,⟨z18_7⟩,⟨(xb a4.out)⟩,⟨(xb a5.out)⟩,⟨(xb a6.out)⟩,⟨(xb a1.out)⟩,⟨z18_0⟩⟩
      replace H:=ok_ H
      obtain ⟨z3,H⟩:=H
      have LMc59:=ak z3
      clear z3
      obtain ⟨y340,hy340⟩ : ∃ y_:List (List Int),y_=(a7 ++ [b9]):=⟨_,rfl⟩
      replace H:(if b0=0 then (if a3.length<17592186044416 then (spec_l20Glued.l0 k2 (l0_1.length:Int) (l1_1.length:Int) (wrap64 (b0+1)) l0_0 l0_1 l1_0 l1_1 y340 (a3 ++ [wrap64 ((wrap64 ((l0_1.length:Int)+(l1_1.length:Int)))-3)])) else (none)) else (if b0=(wrap64 ((wrap64 ((l0_1.length:Int)+(l1_1.length:Int)))-3)) then (if a3.length<17592186044416 then (spec_l20Glued.l0 k2 (l0_1.length:Int) (l1_1.length:Int) (wrap64 (b0+1)) l0_0 l0_1 l1_0 l1_1 y340 (a3 ++ [0])) else (none)) else (if b0<(wrap64 ((l0_1.length:Int)-1)) then (if 0≤b0 then (if b0<(l0_1.length:Int) then (if a3.length<17592186044416 then (spec_l20Glued.l0 k2 (l0_1.length:Int) (l1_1.length:Int) (wrap64 (b0+1)) l0_0 l0_1 l1_0 l1_1 y340 (a3 ++ [rd l0_1 b0])) else (none)) else (none)) else (none)) else (if 0≤(wrap64 ((wrap64 (b0-(l0_1.length:Int)))+2)) then (if (wrap64 ((wrap64 (b0-(l0_1.length:Int)))+2))<(l1_1.length:Int) then (if a3.length<17592186044416 then (spec_l20Glued.l0 k2 (l0_1.length:Int) (l1_1.length:Int) (wrap64 (b0+1)) l0_0 l0_1 l1_0 l1_1 y340 (a3 ++ [wrap64 ((wrap64 ((rd l1_1 (wrap64 ((wrap64 (b0-(l0_1.length:Int)))+2)))+(l0_1.length:Int)))-2)])) else (none)) else (none)) else (none)))))=some (r1,r2):=by first|(rw [hy340];with_reducible exact H)|(have H2_:=(Option.bind_some _ _).symm.trans H;rw [hy340];with_reducible exact H2_)|(have H2_:=(Option.bind_some _ _).symm.trans H;with_reducible exact H2_)|with_reducible exact H|(rw [hy340];exact H)|exact H
      have Ny340:=ak hy340
      clear hy340
      replace H:=oe2 H
      rcases H with ⟨⟨-,m0,m1⟩,H⟩|⟨⟨F2,m0,m1⟩,H⟩
      ·
       replace H:=ok_ H
       obtain ⟨z4,H⟩:=H
       have LMc61:=ak z4
       clear z4
       obtain ⟨y343,hy343⟩ : ∃ y_:List Int,y_=(a3 ++ [wrap64 ((wrap64 ((l0_1.length:Int)+(l1_1.length:Int)))-3)]):=⟨_,rfl⟩
       replace H:(spec_l20Glued.l0 k2 (l0_1.length:Int) (l1_1.length:Int) (wrap64 (b0+1)) l0_0 l0_1 l1_0 l1_1 y340 y343)=some (r1,r2):=by first|(rw [hy343];with_reducible exact H)|(have H2_:=(Option.bind_some _ _).symm.trans H;rw [hy343];with_reducible exact H2_)|(have H2_:=(Option.bind_some _ _).symm.trans H;with_reducible exact H2_)|with_reducible exact H|(rw [hy343];exact H)|exact H
       have Ny343:=ak hy343
       clear hy343
       have H':=ak H
       clear H
       have z5:=d0.out
       have z6:=b6.out
       have z7:=d1.out
       have z8:=b7.out
       have z9:=d6.out
       have A0:=b8.out
       have d2:=cz20 a1.out
       have d3:=cz21 a1.out
       have d4:=blk_frozen a1.out 0
       have d5:=blk_frozen a1.out 1
       obtain ⟨m2,m3,o3⟩:=Kd.R_slice b3.out
       subst o3
       go_wp2_with (first|((with_reducible refine gate_builtin (b:=.append) (xs:=#[.tmp 108,.tmp 110]) rfl ?_);at_builtin;refine Kd.S_append (Kd.slice 3 (Kd.int .i64)) (w0:=w) w.heap.size rfl (.tmp 108) (.tmp 110) 24 25 (.slice none 0 0) 24 rfl Try.underlying24 info25 rfl z18_11 (by omega) u318000 a7 b9 [.slice m2 b9.length m3] (fun k_=>some k_≠(u318001:Value).ownBlock) (fun k_=>some k_=(.slice m2 b9.length m3:Value).ownBlock) rfl rfl ?aP (fun k_ hk_=>((Kd.R_mono (ok':=fun k_=>((fun k_=>some k_≠(u318001:Value).ownBlock)) k_∧some k_≠(u318000:Value).ownBlock) (Kd.R_apart' (b3.out) (Kd.S_typed a2.out) z18_11) (fun k_ hk=>⟨hk.1,hk.2⟩))).1 k_ hk_.symm) ?aF ?aO ?aB ?aS ?aL ?_;(case aP=>exact Kd.M_row (Kd.R_mono (Kd.R_tight rfl (Kd.R_mono (ok':=fun k_=>((fun k_=>some k_≠(u318001:Value).ownBlock)) k_∧some k_≠(u318000:Value).ownBlock) (Kd.R_apart' (b3.out) (Kd.S_typed a2.out) z18_11) (fun k_ hk=>⟨hk.1,hk.2⟩))) (fun _ h_=>h_)));(case aB=>exact z18_0);(case aF=>exact (fun k_ hk=>Kd.fresh' (Kd.R_lt (xR a0.out)) k_ hk));(case aO=>exact z18_9);(case aS=>exact (below_size z18_0));(case aL=>have:=LMc59.out;omega);intro j6 F3 ho hb hg hat;rw [← Ny340.out] at ho;replace a0:=ak (Kd.R_over' (xR a0.out) (Kd.S_typed (xS a2.out)) z18_11 hg);replace a4:=ak (blk_grown (g:=a9) (o:=.cells #[.slice A0_0 l0_0.length c0_0,.slice A0_1 l0_1.length c0_1] 27 (0,0)) (xb a4.out) hg (Kd.S_ne a2.out a4.out z18_11));replace a5:=ak (blk_grown (g:=b1) (o:=.cells #[.slice A1_0 l1_0.length c1_0,.slice A1_1 l1_1.length c1_1] 27 (0,0)) (xb a5.out) hg (Kd.S_ne a2.out a5.out z18_11));replace a6:=ak (blk_grown (g:=b2) (o:=.cells #[.slice none 0 0,.slice none 0 0] 27 (0,0)) (xb a6.out) hg (Kd.S_ne a2.out a6.out z18_11));replace a1:=ak (blk_grown (g:=a8) (o:=.cells #[u318000,u318001] 27 (0,0)) (xb a1.out) hg (Kd.S_ne a2.out a1.out z18_11));replace HB:=ak (hb);have b5:=ak (ho);clear a2 b3;clear ho hb hg hat;obtain ⟨g3,g4,o4⟩:=Kd.S_slice b5.out;subst o4;have d2:=cz20 a1.out;have d3:=cz21 a1.out;have d4:=blk_frozen a1.out 0;have d5:=blk_frozen a1.out 1)|((with_reducible refine gate_builtin (b:=.append) (xs:=#[.tmp 133,.tmp 138]) rfl ?_);at_builtin;refine Kd.R_append (Kd.int .i64) (w0:=w) w.heap.size rfl (.tmp 133) (.tmp 138) 25 3 (.int .i64 0) 8 rfl Try.underlying25 info3 rfl z18_11 (by omega) u318001 a3 (wrap64 ((wrap64 ((l0_1.length:Int)+(l1_1.length:Int)))-3)) [.int .i64 (wrap64 ((wrap64 ((l0_1.length:Int)+(l1_1.length:Int)))-3))] (fun _=>True) (fun _=>False) rfl (by first|(go_simp;done)|(go_simp;rfl)) ?aP (fun _ hk=>hk.elim) ?aF ?aO ?aB ?aS ?aL ?_;(case aP=>exact rfl);(case aB=>exact z18_0);(case aF=>exact (fun _ _=>trivial));(case aO=>exact (by (with_reducible repeat (first|apply Kd.R_alloc|apply Kd.R_drewN|apply Kd.R_drew));exact Kd.R_mono (Kd.R_far (p:=⟨a8,0,none⟩) (Kd.R_types a0.out a1.out z18_11) (fun _ hk=>hk.2) (.slice g3 y340.length g4)) (fun _ hk=>trivial)));(case aS=>exact (below_size z18_0));(case aL=>have:=LMc61.out;omega);intro D4 F4 ho hb hg hat;rw [← Ny343.out] at ho;replace a4:=ak (blk_grown (g:=a9) (o:=.cells #[.slice A0_0 l0_0.length c0_0,.slice A0_1 l0_1.length c0_1] 27 (0,0)) z18_3 hg (Kd.R_ne a0.out a4.out z18_11));replace a5:=ak (blk_grown (g:=b1) (o:=.cells #[.slice A1_0 l1_0.length c1_0,.slice A1_1 l1_1.length c1_1] 27 (0,0)) z18_2 hg (Kd.R_ne a0.out a5.out z18_11));replace a6:=ak (blk_grown (g:=b2) (o:=.cells #[.slice none 0 0,.slice none 0 0] 27 (0,0)) z18_1 hg (Kd.R_ne a0.out a6.out z18_11));replace b5:=ak (Kd.S_after (ok:=(fun _=>True)) (by (with_reducible repeat (first|apply Kd.S_alloc|apply Kd.S_drewN|apply Kd.S_drew));exact Kd.S_mono (Kd.S_far (p:=⟨a8,0,none⟩) (Kd.S_types b5.out a1.out z18_11) (fun _ hk=>hk.2) (.slice g3 y340.length g4)) (fun _ hk=>⟨trivial,hk.1⟩)) hg hat);replace a1:=ak (blk_grown (g:=a8) (o:=.cells #[.slice g3 y340.length g4,u318001] 27 (0,0)) z18_5 hg (Kd.R_ne a0.out a1.out z18_11));replace HB:=ak (hb);have h5:=ak (ho);clear a0;clear ho hb hg hat;obtain ⟨j7,j8,o5⟩:=Kd.R_slice h5.out;subst o5;have d2:=cz20 a1.out;have d3:=cz21 a1.out;have d4:=blk_frozen a1.out 0;have d5:=blk_frozen a1.out 1))
       go_roundg k2
       case measure=>have:=HK1.out;have:=HK2.out;omega
       case rel=>exact ⟨(wrap64 (b0+1)),(y340),(y343),(.slice g3 y340.length g4),(.slice j7 y343.length j8),z18_6,H',⟨(by have:=HK1.out;have:=HK2.out;omega)⟩,⟨(by (with_reducible repeat (first|apply Kd.S_alloc|apply Kd.S_drewN|apply Kd.S_drew));exact Kd.S_mono (Kd.S_far (p:=⟨a8,1,none⟩) (Kd.S_types b5.out a1.out z18_11) (fun _ hk=>hk.2) (.slice j7 y343.length j8)) (fun _ hk=>hk.1.2))⟩,⟨(by (with_reducible repeat (first|apply Kd.R_alloc|apply Kd.R_drewN|apply Kd.R_drew));exact Kd.R_mono (Kd.R_far (p:=⟨a8,1,none⟩) (Kd.R_types h5.out a1.out z18_11) (fun _ hk=>hk.2) (.slice j7 y343.length j8)) (fun _ hk=>trivial))⟩,⟨z18_3⟩,⟨z18_2⟩,⟨z18_1⟩,⟨(by (with_reducible repeat (first|refine blk_drewN ?_ _|refine blk_drew ?_|refine blk_alloc ?_ _));refine blk_put (cs:=#[.slice g3 y340.length g4,u318001]) ?_ 1 _ rfl;(with_reducible repeat (first|refine blk_drewN ?_ _|refine blk_drew ?_|refine blk_alloc ?_ _));exact a1.out)⟩,⟨z18_0⟩⟩
      replace H:=oe2 H
      rcases H with ⟨⟨-,m4,m5⟩,H⟩|⟨⟨F5,m4,m5⟩,H⟩
      ·
       replace H:=ok_ H
       obtain ⟨A1,H⟩:=H
       have LMc74:=ak A1
       clear A1
       obtain ⟨y346,hy346⟩ : ∃ y_:List Int,y_=(a3 ++ [0]):=⟨_,rfl⟩
       replace H:(spec_l20Glued.l0 k2 (l0_1.length:Int) (l1_1.length:Int) (wrap64 (b0+1)) l0_0 l0_1 l1_0 l1_1 y340 y346)=some (r1,r2):=by first|(rw [hy346];with_reducible exact H)|(have H2_:=(Option.bind_some _ _).symm.trans H;rw [hy346];with_reducible exact H2_)|(have H2_:=(Option.bind_some _ _).symm.trans H;with_reducible exact H2_)|with_reducible exact H|(rw [hy346];exact H)|exact H
       have Ny346:=ak hy346
       clear hy346
       have H':=ak H
       clear H
       have A2:=d0.out
       have A3:=b6.out
       have A4:=d1.out
       have A5:=b7.out
       have A6:=d6.out
       have A7:=b8.out
       have d2:=cz20 a1.out
       have d3:=cz21 a1.out
       have d4:=blk_frozen a1.out 0
       have d5:=blk_frozen a1.out 1
       obtain ⟨m6,m7,o6⟩:=Kd.R_slice b3.out
       subst o6
       go_wp2_with (first|((with_reducible refine gate_builtin (b:=.append) (xs:=#[.tmp 108,.tmp 110]) rfl ?_);at_builtin;refine Kd.S_append (Kd.slice 3 (Kd.int .i64)) (w0:=w) w.heap.size rfl (.tmp 108) (.tmp 110) 24 25 (.slice none 0 0) 24 rfl Try.underlying24 info25 rfl z18_11 (by omega) u318000 a7 b9 [.slice m6 b9.length m7] (fun k_=>some k_≠(u318001:Value).ownBlock) (fun k_=>some k_=(.slice m6 b9.length m7:Value).ownBlock) rfl rfl ?aP (fun k_ hk_=>((Kd.R_mono (ok':=fun k_=>((fun k_=>some k_≠(u318001:Value).ownBlock)) k_∧some k_≠(u318000:Value).ownBlock) (Kd.R_apart' (b3.out) (Kd.S_typed a2.out) z18_11) (fun k_ hk=>⟨hk.1,hk.2⟩))).1 k_ hk_.symm) ?aF ?aO ?aB ?aS ?aL ?_;(case aP=>exact Kd.M_row (Kd.R_mono (Kd.R_tight rfl (Kd.R_mono (ok':=fun k_=>((fun k_=>some k_≠(u318001:Value).ownBlock)) k_∧some k_≠(u318000:Value).ownBlock) (Kd.R_apart' (b3.out) (Kd.S_typed a2.out) z18_11) (fun k_ hk=>⟨hk.1,hk.2⟩))) (fun _ h_=>h_)));(case aB=>exact z18_0);(case aF=>exact (fun k_ hk=>Kd.fresh' (Kd.R_lt (xR a0.out)) k_ hk));(case aO=>exact z18_9);(case aS=>exact (below_size z18_0));(case aL=>have:=LMc59.out;omega);intro j6 F6 ho hb hg hat;rw [← Ny340.out] at ho;replace a0:=ak (Kd.R_over' (xR a0.out) (Kd.S_typed (xS a2.out)) z18_11 hg);replace a4:=ak (blk_grown (g:=a9) (o:=.cells #[.slice A0_0 l0_0.length c0_0,.slice A0_1 l0_1.length c0_1] 27 (0,0)) (xb a4.out) hg (Kd.S_ne a2.out a4.out z18_11));replace a5:=ak (blk_grown (g:=b1) (o:=.cells #[.slice A1_0 l1_0.length c1_0,.slice A1_1 l1_1.length c1_1] 27 (0,0)) (xb a5.out) hg (Kd.S_ne a2.out a5.out z18_11));replace a6:=ak (blk_grown (g:=b2) (o:=.cells #[.slice none 0 0,.slice none 0 0] 27 (0,0)) (xb a6.out) hg (Kd.S_ne a2.out a6.out z18_11));replace a1:=ak (blk_grown (g:=a8) (o:=.cells #[u318000,u318001] 27 (0,0)) (xb a1.out) hg (Kd.S_ne a2.out a1.out z18_11));replace HB:=ak (hb);have b5:=ak (ho);clear a2 b3;clear ho hb hg hat;obtain ⟨g5,g6,o7⟩:=Kd.S_slice b5.out;subst o7;have d2:=cz20 a1.out;have d3:=cz21 a1.out;have d4:=blk_frozen a1.out 0;have d5:=blk_frozen a1.out 1)|((with_reducible refine gate_builtin (b:=.append) (xs:=#[.tmp 149,.tmp 150]) rfl ?_);at_builtin;refine Kd.R_append (Kd.int .i64) (w0:=w) w.heap.size rfl (.tmp 149) (.tmp 150) 25 3 (.int .i64 0) 8 rfl Try.underlying25 info3 rfl z18_11 (by omega) u318001 a3 0 [.int .i64 0] (fun _=>True) (fun _=>False) rfl (by first|(go_simp;done)|(go_simp;rfl)) ?aP (fun _ hk=>hk.elim) ?aF ?aO ?aB ?aS ?aL ?_;(case aP=>exact rfl);(case aB=>exact z18_0);(case aF=>exact (fun _ _=>trivial));(case aO=>exact (by (with_reducible repeat (first|apply Kd.R_alloc|apply Kd.R_drewN|apply Kd.R_drew));exact Kd.R_mono (Kd.R_far (p:=⟨a8,0,none⟩) (Kd.R_types a0.out a1.out z18_11) (fun _ hk=>hk.2) (.slice g5 y340.length g6)) (fun _ hk=>trivial)));(case aS=>exact (below_size z18_0));(case aL=>have:=LMc74.out;omega);intro D5 F7 ho hb hg hat;rw [← Ny346.out] at ho;replace a4:=ak (blk_grown (g:=a9) (o:=.cells #[.slice A0_0 l0_0.length c0_0,.slice A0_1 l0_1.length c0_1] 27 (0,0)) z18_3 hg (Kd.R_ne a0.out a4.out z18_11));replace a5:=ak (blk_grown (g:=b1) (o:=.cells #[.slice A1_0 l1_0.length c1_0,.slice A1_1 l1_1.length c1_1] 27 (0,0)) z18_2 hg (Kd.R_ne a0.out a5.out z18_11));replace a6:=ak (blk_grown (g:=b2) (o:=.cells #[.slice none 0 0,.slice none 0 0] 27 (0,0)) z18_1 hg (Kd.R_ne a0.out a6.out z18_11));replace b5:=ak (Kd.S_after (ok:=(fun _=>True)) (by (with_reducible repeat (first|apply Kd.S_alloc|apply Kd.S_drewN|apply Kd.S_drew));exact Kd.S_mono (Kd.S_far (p:=⟨a8,0,none⟩) (Kd.S_types b5.out a1.out z18_11) (fun _ hk=>hk.2) (.slice g5 y340.length g6)) (fun _ hk=>⟨trivial,hk.1⟩)) hg hat);replace a1:=ak (blk_grown (g:=a8) (o:=.cells #[.slice g5 y340.length g6,u318001] 27 (0,0)) z18_5 hg (Kd.R_ne a0.out a1.out z18_11));replace HB:=ak (hb);have h6:=ak (ho);clear a0;clear ho hb hg hat;obtain ⟨j9,k0,o8⟩:=Kd.R_slice h6.out;subst o8;have d2:=cz20 a1.out;have d3:=cz21 a1.out;have d4:=blk_frozen a1.out 0;have d5:=blk_frozen a1.out 1))
       go_roundg k2
       case measure=>have:=HK1.out;have:=HK2.out;omega
       case rel=>exact ⟨(wrap64 (b0+1)),(y340),(y346),(.slice g5 y340.length g6),(.slice j9 y346.length k0),z18_6,H',⟨(by have:=HK1.out;have:=HK2.out;omega)⟩,⟨(by (with_reducible repeat (first|apply Kd.S_alloc|apply Kd.S_drewN|apply Kd.S_drew));exact Kd.S_mono (Kd.S_far (p:=⟨a8,1,none⟩) (Kd.S_types b5.out a1.out z18_11) (fun _ hk=>hk.2) (.slice j9 y346.length k0)) (fun _ hk=>hk.1.2))⟩,⟨(by (with_reducible repeat (first|apply Kd.R_alloc|apply Kd.R_drewN|apply Kd.R_drew));exact Kd.R_mono (Kd.R_far (p:=⟨a8,1,none⟩) (Kd.R_types h6.out a1.out z18_11) (fun _ hk=>hk.2) (.slice j9 y346.length k0)) (fun _ hk=>trivial))⟩,⟨z18_3⟩,⟨z18_2⟩,⟨z18_1⟩,⟨(by (with_reducible repeat (first|refine blk_drewN ?_ _|refine blk_drew ?_|refine blk_alloc ?_ _));refine blk_put (cs:=#[.slice g5 y340.length g6,u318001]) ?_ 1 _ rfl;(with_reducible repeat (first|refine blk_drewN ?_ _|refine blk_drew ?_|refine blk_alloc ?_ _));exact a1.out)⟩,⟨z18_0⟩⟩
      replace H:=os_ H
      rcases H with ⟨m8,H⟩|⟨m8,H⟩
      ·
       replace H:=od2 H
       obtain ⟨A8,A9,H⟩:=H
       replace H:=ok_ H
       obtain ⟨B0,H⟩:=H
       have LMc89:=ak B0
       clear B0
       obtain ⟨y350,hy350⟩ : ∃ y_:List Int,y_=(a3 ++ [rd l0_1 b0]):=⟨_,rfl⟩
       replace H:(spec_l20Glued.l0 k2 (l0_1.length:Int) (l1_1.length:Int) (wrap64 (b0+1)) l0_0 l0_1 l1_0 l1_1 y340 y350)=some (r1,r2):=by first|(rw [hy350];with_reducible exact H)|(have H2_:=(Option.bind_some _ _).symm.trans H;rw [hy350];with_reducible exact H2_)|(have H2_:=(Option.bind_some _ _).symm.trans H;with_reducible exact H2_)|with_reducible exact H|(rw [hy350];exact H)|exact H
       have Ny350:=ak hy350
       clear hy350
       have H':=ak H
       clear H
       have B1:=d0.out
       have B2:=b6.out
       have B3:=d1.out
       have B4:=b7.out
       have B5:=d6.out
       have B6:=b8.out
       have d2:=cz20 a1.out
       have d3:=cz21 a1.out
       have d4:=blk_frozen a1.out 0
       have d5:=blk_frozen a1.out 1
       obtain ⟨m9,n0,o9⟩:=Kd.R_slice b3.out
       subst o9
       try go_wp2_with (first|((with_reducible refine gate_builtin (b:=.append) (xs:=#[.tmp 108,.tmp 110]) rfl ?_);at_builtin;refine Kd.S_append (Kd.slice 3 (Kd.int .i64)) (w0:=w) w.heap.size rfl (.tmp 108) (.tmp 110) 24 25 (.slice none 0 0) 24 rfl Try.underlying24 info25 rfl z18_11 (by omega) u318000 a7 b9 [.slice m9 b9.length n0] (fun k_=>some k_≠(u318001:Value).ownBlock) (fun k_=>some k_=(.slice m9 b9.length n0:Value).ownBlock) rfl rfl ?aP (fun k_ hk_=>((Kd.R_mono (ok':=fun k_=>((fun k_=>some k_≠(u318001:Value).ownBlock)) k_∧some k_≠(u318000:Value).ownBlock) (Kd.R_apart' (b3.out) (Kd.S_typed a2.out) z18_11) (fun k_ hk=>⟨hk.1,hk.2⟩))).1 k_ hk_.symm) ?aF ?aO ?aB ?aS ?aL ?_;(case aP=>exact Kd.M_row (Kd.R_mono (Kd.R_tight rfl (Kd.R_mono (ok':=fun k_=>((fun k_=>some k_≠(u318001:Value).ownBlock)) k_∧some k_≠(u318000:Value).ownBlock) (Kd.R_apart' (b3.out) (Kd.S_typed a2.out) z18_11) (fun k_ hk=>⟨hk.1,hk.2⟩))) (fun _ h_=>h_)));(case aB=>exact z18_0);(case aF=>exact (fun k_ hk=>Kd.fresh' (Kd.R_lt (xR a0.out)) k_ hk));(case aO=>exact z18_9);(case aS=>exact (below_size z18_0));(case aL=>have:=LMc59.out;omega);intro j6 h7 ho hb hg hat;rw [← Ny340.out] at ho;replace a0:=ak (Kd.R_over' (xR a0.out) (Kd.S_typed (xS a2.out)) z18_11 hg);replace a4:=ak (blk_grown (g:=a9) (o:=.cells #[.slice A0_0 l0_0.length c0_0,.slice A0_1 l0_1.length c0_1] 27 (0,0)) (xb a4.out) hg (Kd.S_ne a2.out a4.out z18_11));replace a5:=ak (blk_grown (g:=b1) (o:=.cells #[.slice A1_0 l1_0.length c1_0,.slice A1_1 l1_1.length c1_1] 27 (0,0)) (xb a5.out) hg (Kd.S_ne a2.out a5.out z18_11));replace a6:=ak (blk_grown (g:=b2) (o:=.cells #[.slice none 0 0,.slice none 0 0] 27 (0,0)) (xb a6.out) hg (Kd.S_ne a2.out a6.out z18_11));replace a1:=ak (blk_grown (g:=a8) (o:=.cells #[u318000,u318001] 27 (0,0)) (xb a1.out) hg (Kd.S_ne a2.out a1.out z18_11));replace HB:=ak (hb);have b5:=ak (ho);clear a2 b3;clear ho hb hg hat;obtain ⟨d9,e0,q0⟩:=Kd.S_slice b5.out;subst q0;have d2:=cz20 a1.out;have d3:=cz21 a1.out;have d4:=blk_frozen a1.out 0;have d5:=blk_frozen a1.out 1))
       have n0_:Aside0 (Kd.R (Kd.int .i64) 3 (h7.setCell ⟨a8,0,none⟩ (.slice d9 y340.length e0)) w.heap.size (fun _=>True) u318001 a3):=⟨(by (with_reducible repeat (first|apply Kd.R_alloc|apply Kd.R_drewN|apply Kd.R_drew));exact Kd.R_mono (Kd.R_far (p:=⟨a8,0,none⟩) (Kd.R_types a0.out a1.out z18_11) (fun _ hk=>hk.2) (.slice d9 y340.length e0)) (fun _ hk=>trivial))⟩
       have n1_:Aside0 (Kd.S (Kd.slice 3 (Kd.int .i64)) 25 (h7.setCell ⟨a8,0,none⟩ (.slice d9 y340.length e0)) w.heap.size (fun k_=>some k_≠(u318001:Value).ownBlock) (.slice d9 y340.length e0) y340):=⟨(by (with_reducible repeat (first|apply Kd.S_alloc|apply Kd.S_drewN|apply Kd.S_drew));exact Kd.S_mono (Kd.S_far (p:=⟨a8,0,none⟩) (Kd.S_types b5.out a1.out z18_11) (fun _ hk=>hk.2) (.slice d9 y340.length e0)) (fun _ hk=>hk.1))⟩
       have n2_:Aside0 ((h7.setCell ⟨a8,0,none⟩ (.slice d9 y340.length e0)).heap[a9]?=some (.cells #[.slice A0_0 l0_0.length c0_0,.slice A0_1 l0_1.length c0_1] 27 (0,0))):=⟨z18_3⟩
       have n3_:Aside0 ((h7.setCell ⟨a8,0,none⟩ (.slice d9 y340.length e0)).heap[b1]?=some (.cells #[.slice A1_0 l1_0.length c1_0,.slice A1_1 l1_1.length c1_1] 27 (0,0))):=⟨z18_2⟩
       have n4_:Aside0 ((h7.setCell ⟨a8,0,none⟩ (.slice d9 y340.length e0)).heap[b2]?=some (.cells #[.slice none 0 0,.slice none 0 0] 27 (0,0))):=⟨z18_1⟩
       have n5_:Aside0 ((h7.setCell ⟨a8,0,none⟩ (.slice d9 y340.length e0)).heap[a8]?=some (.cells #[.slice d9 y340.length e0,u318001] 27 (0,0))):=⟨z18_5⟩
       have n6_:Aside0 (Below w.heap.size w (h7.setCell ⟨a8,0,none⟩ (.slice d9 y340.length e0))):=⟨z18_0⟩
       (try clear a0)
       (try clear b5)
       (try clear a4)
       (try clear a5)
       (try clear a6)
       (try clear a1)
       (try clear HB)
       generalize (h7.setCell ⟨a8,0,none⟩ (.slice d9 y340.length e0))=D6 at n0_ n1_ n2_ n3_ n4_ n5_ n6_ ⊢
       have a0:=n0_
       have b5:=n1_
       have a4:=n2_
       have a5:=n3_
       have a6:=n4_
       have a1:=n5_
       have HB:=n6_
       clear n0_ n1_ n2_ n3_ n4_ n5_ n6_
       replace a0:=ak (Kd.R_drew a0.out)
       replace b5:=ak (Kd.S_drew b5.out)
       replace a4:=ak (blk_drew a4.out)
       replace a5:=ak (blk_drew a5.out)
       replace a6:=ak (blk_drew a6.out)
       replace a1:=ak (blk_drew a1.out)
       replace HB:=ak (below_drew1 HB.out)
       have k3:0≤(b0:Int):=oa_
       have q349:b0<(l0_1.length:Int):=oa_
       obtain ⟨ad349,e349,hx349_0⟩:=Kd.at_int HR0_1.out b0 k3 q349
       have hw349_0:=hx349_0
       cases e349
       replace hx349_0:=(HB.out.cell (World.block_lt_of_cell? w _ hx349_0)).trans hx349_0
       replace k3:=eq_true k3
       replace q349:=eq_true q349
       refine start_ (n:=11) (S:=fun w'=>w'.cell? ⟨a8,0,none⟩=some (.slice d9 y340.length e0)∧w'.cell? ⟨a8,1,none⟩=some (u318001)∧w'.cell? ⟨a9,0,none⟩=some (.slice A0_0 l0_0.length c0_0)∧w'.cell? ⟨a9,1,none⟩=some (.slice (some ad349) l0_1.length c0_1)∧w'.cell? (ad349.add (b0).toNat)=some (.int .i64 (rd l0_1 b0))) (ds:=[10]) (bA 11 0) (by kernel_rfl) rfl rfl ⟨(blk_cell a1.out 0).trans rfl,(blk_cell a1.out 1).trans rfl,(blk_cell a4.out 0).trans rfl,(blk_cell a4.out 1).trans rfl,((HB.out.cell (World.block_lt_of_cell? w _ hw349_0)).trans hw349_0)⟩ (fun hHeld=>?_);refine with_tabW spec_l20Glued.tab28 spec_l20Glued.bits28 (fun HT_ HW_=>?_)
       generalize D6.drew=F8 at a0 b5 a4 a5 a6 a1 HB hx349_0 hHeld ⊢
       refine pu_ (i:=0) (N:=some 158) (bA 11 1) ?_
       refine pu_ (i:=2) (N:=some 160) (bA 11 5) ?_
       refine pu_ (i:=4) (N:=some 162) (bA 11 21) ?_
       refine tk_ (i:=1) (N:=some 159) (bA 11 23) ?_
       refine tk_ (i:=3) (N:=some 161) (bA 11 31) ?_
       refine pu_ (i:=5) (N:=some 163) (bA 11 63) ?_
       refine tk_ (i:=6) (N:=some 164) (bA 11 127) ?_
       refine one_ (i:=7) (N:=some 165) (bA 11 255) rfl rfl (one_of HT_.out (by kernel_rfl)) z18_11 (fun K hK=>?_)
       refine value_ (w1:=?_) (v:=?_) (by rfl) rfl ?_ ?_
       rotate_left 2
       ·
        go_simp
        constructor
        ·
         rfl
        rfl
       refine hK.out _ _ ⟨(blk_cell (blk_alloc a1.out _) 0).trans rfl,(blk_cell (blk_alloc a1.out _) 1).trans rfl,(blk_cell (blk_alloc a4.out _) 0).trans rfl,(blk_cell (blk_alloc a4.out _) 1).trans rfl,(World.cell?_alloc_lt _ _ _ (World.block_lt_of_cell? _ _ (((HB.out.cell (World.block_lt_of_cell? w _ hw349_0)).trans hw349_0)))).trans (((HB.out.cell (World.block_lt_of_cell? w _ hw349_0)).trans hw349_0))⟩ (fun hHeld=>?_)
       clear hK K
       refine no_ (N:=some 165) ?_
       refine one_ (i:=8) (N:=some 166) (bA 11 511) rfl rfl (one_of HT_.out (by kernel_rfl)) z18_11 (fun K hK=>?_)
       refine Kd.R_append_step (Kd.int .i64) (w0:=w) w.heap.size (by rfl) (.tmp 159) (.tmp 165) 25 3 (.int .i64 0) 8 rfl Try.underlying25 info3 rfl z18_11 (by omega) u318001 a3 (rd l0_1 b0) [.int .i64 (rd l0_1 b0)] (fun _=>True) (fun _=>False) rfl rfl ?aP (fun _ hk=>hk.elim) ?aF ?aO ?aB ?aS ?aL ?_
       (case aP=>exact rfl)
       (case aB=>exact z18_0)
       (case aF=>exact (fun _ _=>trivial))
       (case aO=>exact (xR a0.out))
       (case aS=>exact (below_size z18_0))
       (case aL=>have:=LMc89.out;omega)
       intro D7 D8 ho hb hg hat
       rw [← Ny350.out] at ho
       replace a4:=ak (blk_grown (g:=a9) (o:=.cells #[.slice A0_0 l0_0.length c0_0,.slice (some ad349) l0_1.length c0_1] 27 (0,0)) (xb a4.out) hg (Kd.R_ne a0.out a4.out z18_11))
       replace a5:=ak (blk_grown (g:=b1) (o:=.cells #[.slice A1_0 l1_0.length c1_0,.slice A1_1 l1_1.length c1_1] 27 (0,0)) (xb a5.out) hg (Kd.R_ne a0.out a5.out z18_11))
       replace a6:=ak (blk_grown (g:=b2) (o:=.cells #[.slice none 0 0,.slice none 0 0] 27 (0,0)) (xb a6.out) hg (Kd.R_ne a0.out a6.out z18_11))
       replace a1:=ak (blk_grown (g:=a8) (o:=.cells #[.slice d9 y340.length e0,u318001] 27 (0,0)) (xb a1.out) hg (Kd.R_ne a0.out a1.out z18_11))
       replace b5:=ak (Kd.S_after (ok:=(fun _=>True)) z18_17 hg hat)
       replace HB:=ak (hb)
       have h8:=ak (ho)
       clear a0 ho hb hg hat
       obtain ⟨g7,g8,h9⟩:=Kd.R_slice h8.out
       (first|subst h9|(injection h9 with f1_ f2_ f3_;have f4_:=f1_.symm;have f5_:=f3_.symm;clear f1_ f2_ f3_;subst f4_;subst f5_))
       refine hK.out _ _ ⟨(blk_cell a1.out 0).trans rfl,(blk_cell a1.out 1).trans rfl,(blk_cell a4.out 0).trans rfl,(blk_cell a4.out 1).trans rfl,((HB.out.cell (World.block_lt_of_cell? w _ hw349_0)).trans hw349_0)⟩ (fun hHeld=>?_)
       clear hK K
       refine no_ (N:=some 166) ?_
       refine pu_ (i:=9) (N:=some 167) (bA 11 1023) ?_
       refine last_ (i:=10) (N:=none) (bA 11 2047) rfl rfl (one_of HT_.out (by kernel_rfl)) z18_11 (fun K hK=>?_)
       have hs102:_:=cz21 a1.out
       have hfs102:=blk_frozen a1.out 1
       have hns102_0:=b6.out
       have hns102_1:=b7.out
       have hns102_2:=b8.out
       have hms102_0:=d0.out
       have hms102_1:=d1.out
       have hms102_2:=d6.out
       refine skip_ (w1:=?_) (by rfl) rfl ?_ ?_
       rotate_left
       ·
        go_simp
        rfl
       refine hK.out _ _ ?_
       clear hK K
       refine done_ (done_of HT_.out (by kernel_rfl)) ?_
       try go_wp2
       go_roundg k2
       case measure=>have:=HK1.out;have:=HK2.out;omega
       case rel=>exact ⟨(wrap64 (b0+1)),(y340),(y350),(.slice d9 y340.length e0),(.slice g7 y350.length g8),z18_6,H',⟨(by have:=HK1.out;have:=HK2.out;omega)⟩,⟨(by (with_reducible repeat (first|apply Kd.S_alloc|apply Kd.S_drewN|apply Kd.S_drew));exact Kd.S_mono (Kd.S_far (p:=⟨a8,1,none⟩) (Kd.S_types b5.out a1.out z18_11) (fun _ hk=>hk.2) (.slice g7 y350.length g8)) (fun _ hk=>hk.1.2))⟩,⟨(by (with_reducible repeat (first|apply Kd.R_alloc|apply Kd.R_drewN|apply Kd.R_drew));exact Kd.R_mono (Kd.R_far (p:=⟨a8,1,none⟩) (Kd.R_types h8.out a1.out z18_11) (fun _ hk=>hk.2) (.slice g7 y350.length g8)) (fun _ hk=>trivial))⟩,⟨z18_3⟩,⟨z18_2⟩,⟨z18_1⟩,⟨(by (with_reducible repeat (first|refine blk_drewN ?_ _|refine blk_drew ?_|refine blk_alloc ?_ _));refine blk_put (cs:=#[.slice d9 y340.length e0,u318001]) ?_ 1 _ rfl;(with_reducible repeat (first|refine blk_drewN ?_ _|refine blk_drew ?_|refine blk_alloc ?_ _));exact a1.out)⟩,⟨z18_0⟩⟩
      obtain ⟨ji103,hji103⟩ : ∃ j_:Int,(wrap64 ((wrap64 (b0-(l0_1.length:Int)))+2))=j_:=⟨_,rfl⟩
      replace H:(if 0≤(ji103) then (if (ji103)<(l1_1.length:Int) then (if a3.length<17592186044416 then (spec_l20Glued.l0 k2 (l0_1.length:Int) (l1_1.length:Int) (wrap64 (b0+1)) l0_0 l0_1 l1_0 l1_1 y340 (a3 ++ [wrap64 ((wrap64 ((rd l1_1 (ji103))+(l0_1.length:Int)))-2)])) else (none)) else (none)) else (none))=some (r1,r2):=by first|(rw [hji103] at H;exact H)|(simp only [hji103] at H ⊢;exact H)
      have hji103w:(IntKind.i64.wrap ((wrap64 (b0-(l0_1.length:Int)))+2))=ji103:=(i64_w _).trans hji103
      replace H:=od2 H
      obtain ⟨q1,q2,H⟩:=H
      replace H:=ok_ H
      obtain ⟨n1,H⟩:=H
      have LMc106:=ak n1
      clear n1
      obtain ⟨y354,hy354⟩ : ∃ y_:List Int,y_=(a3 ++ [wrap64 ((wrap64 ((rd l1_1 (ji103))+(l0_1.length:Int)))-2)]):=⟨_,rfl⟩
      replace H:(spec_l20Glued.l0 k2 (l0_1.length:Int) (l1_1.length:Int) (wrap64 (b0+1)) l0_0 l0_1 l1_0 l1_1 y340 y354)=some (r1,r2):=by first|(rw [hy354];with_reducible exact H)|(have H2_:=(Option.bind_some _ _).symm.trans H;rw [hy354];with_reducible exact H2_)|(have H2_:=(Option.bind_some _ _).symm.trans H;with_reducible exact H2_)|with_reducible exact H|(rw [hy354];exact H)|exact H
      have Ny354:=ak hy354
      clear hy354
      have H':=ak H
      clear H
      have q3:=d0.out
      have q4:=b6.out
      have q5:=d1.out
      have q6:=b7.out
      have q7:=d6.out
      have q8:=b8.out
      have d2:=cz20 a1.out
      have d3:=cz21 a1.out
      have d4:=blk_frozen a1.out 0
      have d5:=blk_frozen a1.out 1
      obtain ⟨i0,i1,n2⟩:=Kd.R_slice b3.out
      subst n2
      try go_wp2_with (first|((with_reducible refine gate_builtin (b:=.append) (xs:=#[.tmp 108,.tmp 110]) rfl ?_);at_builtin;refine Kd.S_append (Kd.slice 3 (Kd.int .i64)) (w0:=w) w.heap.size rfl (.tmp 108) (.tmp 110) 24 25 (.slice none 0 0) 24 rfl Try.underlying24 info25 rfl z18_11 (by omega) u318000 a7 b9 [.slice i0 b9.length i1] (fun k_=>some k_≠(u318001:Value).ownBlock) (fun k_=>some k_=(.slice i0 b9.length i1:Value).ownBlock) rfl rfl ?aP (fun k_ hk_=>((Kd.R_mono (ok':=fun k_=>((fun k_=>some k_≠(u318001:Value).ownBlock)) k_∧some k_≠(u318000:Value).ownBlock) (Kd.R_apart' (b3.out) (Kd.S_typed a2.out) z18_11) (fun k_ hk=>⟨hk.1,hk.2⟩))).1 k_ hk_.symm) ?aF ?aO ?aB ?aS ?aL ?_;(case aP=>exact Kd.M_row (Kd.R_mono (Kd.R_tight rfl (Kd.R_mono (ok':=fun k_=>((fun k_=>some k_≠(u318001:Value).ownBlock)) k_∧some k_≠(u318000:Value).ownBlock) (Kd.R_apart' (b3.out) (Kd.S_typed a2.out) z18_11) (fun k_ hk=>⟨hk.1,hk.2⟩))) (fun _ h_=>h_)));(case aB=>exact z18_0);(case aF=>exact (fun k_ hk=>Kd.fresh' (Kd.R_lt (xR a0.out)) k_ hk));(case aO=>exact z18_9);(case aS=>exact (below_size z18_0));(case aL=>have:=LMc59.out;omega);intro j6 f3 ho hb hg hat;rw [← Ny340.out] at ho;replace a0:=ak (Kd.R_over' (xR a0.out) (Kd.S_typed (xS a2.out)) z18_11 hg);replace a4:=ak (blk_grown (g:=a9) (o:=.cells #[.slice A0_0 l0_0.length c0_0,.slice A0_1 l0_1.length c0_1] 27 (0,0)) (xb a4.out) hg (Kd.S_ne a2.out a4.out z18_11));replace a5:=ak (blk_grown (g:=b1) (o:=.cells #[.slice A1_0 l1_0.length c1_0,.slice A1_1 l1_1.length c1_1] 27 (0,0)) (xb a5.out) hg (Kd.S_ne a2.out a5.out z18_11));replace a6:=ak (blk_grown (g:=b2) (o:=.cells #[.slice none 0 0,.slice none 0 0] 27 (0,0)) (xb a6.out) hg (Kd.S_ne a2.out a6.out z18_11));replace a1:=ak (blk_grown (g:=a8) (o:=.cells #[u318000,u318001] 27 (0,0)) (xb a1.out) hg (Kd.S_ne a2.out a1.out z18_11));replace HB:=ak (hb);have b5:=ak (ho);clear a2 b3;clear ho hb hg hat;obtain ⟨d7,d8,n3⟩:=Kd.S_slice b5.out;subst n3;have d2:=cz20 a1.out;have d3:=cz21 a1.out;have d4:=blk_frozen a1.out 0;have d5:=blk_frozen a1.out 1))
      have n0_:Aside0 (Kd.R (Kd.int .i64) 3 (f3.setCell ⟨a8,0,none⟩ (.slice d7 y340.length d8)) w.heap.size (fun _=>True) u318001 a3):=⟨(by (with_reducible repeat (first|apply Kd.R_alloc|apply Kd.R_drewN|apply Kd.R_drew));exact Kd.R_mono (Kd.R_far (p:=⟨a8,0,none⟩) (Kd.R_types a0.out a1.out z18_11) (fun _ hk=>hk.2) (.slice d7 y340.length d8)) (fun _ hk=>trivial))⟩
      have n1_:Aside0 (Kd.S (Kd.slice 3 (Kd.int .i64)) 25 (f3.setCell ⟨a8,0,none⟩ (.slice d7 y340.length d8)) w.heap.size (fun k_=>some k_≠(u318001:Value).ownBlock) (.slice d7 y340.length d8) y340):=⟨(by (with_reducible repeat (first|apply Kd.S_alloc|apply Kd.S_drewN|apply Kd.S_drew));exact Kd.S_mono (Kd.S_far (p:=⟨a8,0,none⟩) (Kd.S_types b5.out a1.out z18_11) (fun _ hk=>hk.2) (.slice d7 y340.length d8)) (fun _ hk=>hk.1))⟩
      have n2_:Aside0 ((f3.setCell ⟨a8,0,none⟩ (.slice d7 y340.length d8)).heap[a9]?=some (.cells #[.slice A0_0 l0_0.length c0_0,.slice A0_1 l0_1.length c0_1] 27 (0,0))):=⟨z18_3⟩
      have n3_:Aside0 ((f3.setCell ⟨a8,0,none⟩ (.slice d7 y340.length d8)).heap[b1]?=some (.cells #[.slice A1_0 l1_0.length c1_0,.slice A1_1 l1_1.length c1_1] 27 (0,0))):=⟨z18_2⟩
      have n4_:Aside0 ((f3.setCell ⟨a8,0,none⟩ (.slice d7 y340.length d8)).heap[b2]?=some (.cells #[.slice none 0 0,.slice none 0 0] 27 (0,0))):=⟨z18_1⟩
      have n5_:Aside0 ((f3.setCell ⟨a8,0,none⟩ (.slice d7 y340.length d8)).heap[a8]?=some (.cells #[.slice d7 y340.length d8,u318001] 27 (0,0))):=⟨z18_5⟩
      have n6_:Aside0 (Below w.heap.size w (f3.setCell ⟨a8,0,none⟩ (.slice d7 y340.length d8))):=⟨z18_0⟩
      (try clear a0)
      (try clear b5)
      (try clear a4)
      (try clear a5)
      (try clear a6)
      (try clear a1)
      (try clear HB)
      generalize (f3.setCell ⟨a8,0,none⟩ (.slice d7 y340.length d8))=q9 at n0_ n1_ n2_ n3_ n4_ n5_ n6_ ⊢
      have a0:=n0_
      have b5:=n1_
      have a4:=n2_
      have a5:=n3_
      have a6:=n4_
      have a1:=n5_
      have HB:=n6_
      clear n0_ n1_ n2_ n3_ n4_ n5_ n6_
      replace a0:=ak (Kd.R_drew a0.out)
      replace b5:=ak (Kd.S_drew b5.out)
      replace a4:=ak (blk_drew a4.out)
      replace a5:=ak (blk_drew a5.out)
      replace a6:=ak (blk_drew a6.out)
      replace a1:=ak (blk_drew a1.out)
      replace HB:=ak (below_drew1 HB.out)
      have k4:0≤((ji103):Int):=oa_
      have q353:(ji103)<(l1_1.length:Int):=oa_
      obtain ⟨ad353,e353,hx353_0⟩:=Kd.at_int HR1_1.out (ji103) k4 q353
      have hw353_0:=hx353_0
      cases e353
      replace hx353_0:=(HB.out.cell (World.block_lt_of_cell? w _ hx353_0)).trans hx353_0
      replace k4:=eq_true k4
      replace q353:=eq_true q353
      refine start_ (n:=17) (S:=fun w'=>w'.cell? ⟨a8,0,none⟩=some (.slice d7 y340.length d8)∧w'.cell? ⟨a8,1,none⟩=some (u318001)∧w'.cell? ⟨b1,0,none⟩=some (.slice A1_0 l1_0.length c1_0)∧w'.cell? ⟨b1,1,none⟩=some (.slice (some ad353) l1_1.length c1_1)∧w'.cell? (ad353.add ((ji103)).toNat)=some (.int .i64 (rd l1_1 (ji103)))) (ds:=[16]) (bA 17 0) (by kernel_rfl) rfl rfl ⟨(blk_cell a1.out 0).trans rfl,(blk_cell a1.out 1).trans rfl,(blk_cell a5.out 0).trans rfl,(blk_cell a5.out 1).trans rfl,((HB.out.cell (World.block_lt_of_cell? w _ hw353_0)).trans hw353_0)⟩ (fun hHeld=>?_);refine with_tabW spec_l20Glued.tab22 spec_l20Glued.bits22 (fun HT_ HW_=>?_)
      generalize q9.drew=D9 at a0 b5 a4 a5 a6 a1 HB hx353_0 hHeld ⊢
      refine pu_ (i:=0) (N:=some 113) (bA 17 1) ?_
      refine pu_ (i:=2) (N:=some 115) (bA 17 5) ?_
      refine pu_ (i:=4) (N:=some 117) (bA 17 21) ?_
      refine pu_ (i:=5) (N:=some 118) (bA 17 53) ?_
      refine pu_ (i:=6) (N:=some 119) (bA 17 117) ?_
      refine pu_ (i:=7) (N:=some 120) (bA 17 245) ?_
      refine pu_ (i:=10) (N:=some 123) (bA 17 1269) ?_
      refine tk_ (i:=1) (N:=some 114) (bA 17 1271) ?_
      refine tk_ (i:=3) (N:=some 116) (bA 17 1279) ?_
      refine pu_ (i:=8) (N:=some 121) (bA 17 1535) ?_
      refine tk_ (i:=9) (N:=some 122) (bA 17 2047) ?_
      refine pu_ (i:=11) (N:=some 124) (bA 17 4095) ?_
      refine pu_ (i:=12) (N:=some 125) (bA 17 8191) ?_
      refine one_ (i:=13) (N:=some 126) (bA 17 16383) rfl rfl (one_of HT_.out (by kernel_rfl)) z18_11 (fun K hK=>?_)
      refine value_ (w1:=?_) (v:=?_) (by rfl) rfl ?_ ?_
      rotate_left 2
      ·
       go_simp
       constructor
       ·
        rfl
       rfl
      refine hK.out _ _ ⟨(blk_cell (blk_alloc a1.out _) 0).trans rfl,(blk_cell (blk_alloc a1.out _) 1).trans rfl,(blk_cell (blk_alloc a5.out _) 0).trans rfl,(blk_cell (blk_alloc a5.out _) 1).trans rfl,(World.cell?_alloc_lt _ _ _ (World.block_lt_of_cell? _ _ (((HB.out.cell (World.block_lt_of_cell? w _ hw353_0)).trans hw353_0)))).trans (((HB.out.cell (World.block_lt_of_cell? w _ hw353_0)).trans hw353_0))⟩ (fun hHeld=>?_)
      clear hK K
      refine no_ (N:=some 126) ?_
      refine one_ (i:=14) (N:=some 127) (bA 17 32767) rfl rfl (one_of HT_.out (by kernel_rfl)) z18_11 (fun K hK=>?_)
      refine Kd.R_append_step (Kd.int .i64) (w0:=w) w.heap.size (by rfl) (.tmp 114) (.tmp 126) 25 3 (.int .i64 0) 8 rfl Try.underlying25 info3 rfl z18_11 (by omega) u318001 a3 (wrap64 ((wrap64 ((rd l1_1 (ji103))+(l0_1.length:Int)))-2)) [.int .i64 (wrap64 ((wrap64 ((rd l1_1 (ji103))+(l0_1.length:Int)))-2))] (fun _=>True) (fun _=>False) rfl rfl ?aP (fun _ hk=>hk.elim) ?aF ?aO ?aB ?aS ?aL ?_
      (case aP=>exact rfl)
      (case aB=>exact z18_0)
      (case aF=>exact (fun _ _=>trivial))
      (case aO=>exact (xR a0.out))
      (case aS=>exact (below_size z18_0))
      (case aL=>have:=LMc106.out;omega)
      intro E0 E1 ho hb hg hat
      rw [← Ny354.out] at ho
      replace a4:=ak (blk_grown (g:=a9) (o:=.cells #[.slice A0_0 l0_0.length c0_0,.slice A0_1 l0_1.length c0_1] 27 (0,0)) (xb a4.out) hg (Kd.R_ne a0.out a4.out z18_11))
      replace a5:=ak (blk_grown (g:=b1) (o:=.cells #[.slice A1_0 l1_0.length c1_0,.slice (some ad353) l1_1.length c1_1] 27 (0,0)) (xb a5.out) hg (Kd.R_ne a0.out a5.out z18_11))
      replace a6:=ak (blk_grown (g:=b2) (o:=.cells #[.slice none 0 0,.slice none 0 0] 27 (0,0)) (xb a6.out) hg (Kd.R_ne a0.out a6.out z18_11))
      replace a1:=ak (blk_grown (g:=a8) (o:=.cells #[.slice d7 y340.length d8,u318001] 27 (0,0)) (xb a1.out) hg (Kd.R_ne a0.out a1.out z18_11))
      replace b5:=ak (Kd.S_after (ok:=(fun _=>True)) z18_17 hg hat)
      replace HB:=ak (hb)
      have i2:=ak (ho)
      clear a0 ho hb hg hat
      obtain ⟨g9,h0,i3⟩:=Kd.R_slice i2.out
      (first|subst i3|(injection i3 with f1_ f2_ f3_;have f4_:=f1_.symm;have f5_:=f3_.symm;clear f1_ f2_ f3_;subst f4_;subst f5_))
      refine hK.out _ _ ⟨(blk_cell a1.out 0).trans rfl,(blk_cell a1.out 1).trans rfl,(blk_cell a5.out 0).trans rfl,(blk_cell a5.out 1).trans rfl,((HB.out.cell (World.block_lt_of_cell? w _ hw353_0)).trans hw353_0)⟩ (fun hHeld=>?_)
      clear hK K
      refine no_ (N:=some 127) ?_
      refine pu_ (i:=15) (N:=some 128) (bA 17 65535) ?_
      refine last_ (i:=16) (N:=none) (bA 17 131071) rfl rfl (one_of HT_.out (by kernel_rfl)) z18_11 (fun K hK=>?_)
      have hs119:_:=cz21 a1.out
      have hfs119:=blk_frozen a1.out 1
      have hns119_0:=b6.out
      have hns119_1:=b7.out
      have hns119_2:=b8.out
      have hms119_0:=d0.out
      have hms119_1:=d1.out
      have hms119_2:=d6.out
      refine skip_ (w1:=?_) (by rfl) rfl ?_ ?_
      rotate_left
      ·
       go_simp
       rfl
      refine hK.out _ _ ?_
      clear hK K
      refine done_ (done_of HT_.out (by kernel_rfl)) ?_
      try go_wp2
      go_roundg k2
      case measure=>have:=HK1.out;have:=HK2.out;omega
      case rel=>exact ⟨(wrap64 (b0+1)),(y340),(y354),(.slice d7 y340.length d8),(.slice g9 y354.length h0),z18_6,H',⟨(by have:=HK1.out;have:=HK2.out;omega)⟩,⟨(by (with_reducible repeat (first|apply Kd.S_alloc|apply Kd.S_drewN|apply Kd.S_drew));exact Kd.S_mono (Kd.S_far (p:=⟨a8,1,none⟩) (Kd.S_types b5.out a1.out z18_11) (fun _ hk=>hk.2) (.slice g9 y354.length h0)) (fun _ hk=>hk.1.2))⟩,⟨(by (with_reducible repeat (first|apply Kd.R_alloc|apply Kd.R_drewN|apply Kd.R_drew));exact Kd.R_mono (Kd.R_far (p:=⟨a8,1,none⟩) (Kd.R_types i2.out a1.out z18_11) (fun _ hk=>hk.2) (.slice g9 y354.length h0)) (fun _ hk=>trivial))⟩,⟨z18_3⟩,⟨z18_2⟩,⟨z18_1⟩,⟨(by (with_reducible repeat (first|refine blk_drewN ?_ _|refine blk_drew ?_|refine blk_alloc ?_ _));refine blk_put (cs:=#[.slice d7 y340.length d8,u318001]) ?_ 1 _ rfl;(with_reducible repeat (first|refine blk_drewN ?_ _|refine blk_drew ?_|refine blk_alloc ?_ _));exact a1.out)⟩,⟨z18_0⟩⟩
   simp only [Option.some.injEq,Prod.mk.injEq] at H
   obtain ⟨rfl,rfl⟩:=H
   have s0:=d0.out
   have s1:=b6.out
   have s2:=d1.out
   have s3:=b7.out
   have s4:=d6.out
   have s5:=b8.out
   have d2:=cz20 a1.out
   have d3:=cz21 a1.out
   have d4:=blk_frozen a1.out 0
   have d5:=blk_frozen a1.out 1
   obtain ⟨g0,g1,n4⟩:=Kd.S_slice a2.out
   subst n4
   have s6:=e4.out
   have s7:=e3.out
   have s8:=e6.out
   have s9:=e5.out
   have d2:=cz20 a6.out
   have d3:=cz21 a6.out
   have d4:=blk_frozen a6.out 0
   have d5:=blk_frozen a6.out 1
   obtain ⟨h1,h2,n5⟩:=Kd.R_slice a0.out
   subst n5
   go_wp2
   refine bodyPost_ret (results_cell_row rfl _ _ b2 27 #[.slice g0 a7.length g1,.slice h1 a3.length h2] (0,0) _ rfl (by (with_reducible repeat (first|refine blk_drewN ?_ _|refine blk_drew ?_|refine blk_alloc ?_ _));refine blk_put (cs:=#[.slice g0 a7.length g1,.slice none 0 0]) ?_ 1 _ rfl;(with_reducible repeat (first|refine blk_drewN ?_ _|refine blk_drew ?_|refine blk_alloc ?_ _));refine blk_put (cs:=#[.slice none 0 0,.slice none 0 0]) ?_ 0 _ rfl;(with_reducible repeat (first|refine blk_drewN ?_ _|refine blk_drew ?_|refine blk_alloc ?_ _));exact a6.out) Try.underlying27 rfl (by kernel_rfl)) rfl ?_
   exact ⟨_,_,(by first|rfl|(simp [errW_none,errW_some] <;> rfl)|(simp [*,errW_none,errW_some] <;> rfl)),(by (with_reducible repeat (first|apply Kd.S_alloc|apply Kd.S_drewN|apply Kd.S_drew));exact Kd.S_mono (Kd.S_far (p:=⟨b2,1,none⟩) (Kd.S_far (p:=⟨b2,0,none⟩) (Kd.S_types a2.out a6.out z18_11) (fun _ hk=>hk.2) (.slice g0 a7.length g1)) (fun _ hk=>hk.2) (.slice h1 a3.length h2)) (fun _ hk=>hk.1)),(by (with_reducible repeat (first|apply Kd.R_alloc|apply Kd.R_drewN|apply Kd.R_drew));exact Kd.R_mono (Kd.R_far (p:=⟨b2,1,none⟩) (Kd.R_far (p:=⟨b2,0,none⟩) (Kd.R_types a0.out a6.out z18_11) (fun _ hk=>hk.2) (.slice g0 a7.length g1)) (fun _ hk=>hk.2) (.slice h1 a3.length h2)) (fun _ hk=>trivial)),z18_0⟩

end Go.Proofs.Ytacifhahfamipaa.P

namespace Go.Proofs.Ytacifhahfamipaa.P
open Go.RowKit Go.Proofs.YtacifhahfamipaaW.PrintWords Go.Proofs.YtacifhahfamipaaW.PrintLast Go.Proofs.YtacifhahfamipaaW.PrintMore
attribute [local go_sem] max2_int min2_int max_two min_two max_three min_three max_four min_four
set_option linter.unusedVariables false
set_option linter.unusedSimpArgs false
theorem IsS80.grown {w0 W:World} {g:Nat} {f0:List Int} {f1:Int} {W1:World} {row:Option Nat} (h:IsS80 w0 W g f0 f1) (hw:W.grownBy W1 row) (hne:some g≠row):IsS80 w0 W1 g f0 f1:=by
 obtain ⟨A0,c0,hb,hg,hr0⟩:=h
 exact ⟨A0,c0,blk_grown hb hw hne,hg,hr0⟩
theorem IsS80.own_neN {w0 W:World} {g:Nat} {f0:List Int} {f1:Int} {α:Type} {d:Kd α} {e:Nat} {base:Nat} {ok:Nat→Prop} {v:Value} {xs:List α} (h:IsS80 w0 W g f0 f1) (ho:Kd.N d e W base ok v xs) (ht:e≠80):some g≠v.ownBlock:=by
 obtain ⟨A0,c0,hb,hg,hr0⟩:=h
 exact Kd.N_ne ho hb ht
theorem IsS80.fresh {w0 W:World} {g:Nat} {f0:List Int} {f1:Int} (h:IsS80 w0 W g f0 f1) : ∀ k,W.heap.size≤k→k≠g:=by
 obtain ⟨A0,c0,hb,hg,hr0⟩:=h
 exact Kd.freshB hb
theorem IsS80.kept {w0 W:World} {g:Nat} {f0:List Int} {f1:Int} {W1:World} {S:Nat→Prop} (h:IsS80 w0 W g f0 f1) (hk:Kept W W1 S) (hne : ¬S g):IsS80 w0 W1 g f0 f1:=by
 obtain ⟨A0,c0,hb,hg,hr0⟩:=h
 exact ⟨A0,c0,blk_kept hb hk hne,hg,hr0⟩
theorem IsS80.below {w0 W:World} {g:Nat} {f0:List Int} {f1:Int} {W1:World} (h:IsS80 w0 W g f0 f1) (hw:Below W.heap.size W W1):IsS80 w0 W1 g f0 f1:=h.grown (grown_of_below hw none) (by simp)
theorem IsS80.alloc {w0 W:World} {g:Nat} {f0:List Int} {f1:Int} (h:IsS80 w0 W g f0 f1) (o:Obj):IsS80 w0 (W.alloc o) g f0 f1:=h.below (below_alloc (Below.refl _ _) o)
theorem IsS80.drewN {w0 W:World} {g:Nat} {f0:List Int} {f1:Int} (h:IsS80 w0 W g f0 f1) (m:Nat):IsS80 w0 (W.drewN m) g f0 f1:=h
theorem IsS80.drew {w0 W:World} {g:Nat} {f0:List Int} {f1:Int} (h:IsS80 w0 W g f0 f1):IsS80 w0 W.drew g f0 f1:=h
theorem IsS80.at_ {w0 W:World} {g:Nat} {f0:List Int} {f1:Int} {w':World} {m:Nat} (hq:W.drewN m=w') (h:IsS80 w0 W g f0 f1):IsS80 w0 w' g f0 f1:=by subst hq;exact IsS80.drewN h m
theorem IsS80.apart {w0 W:World} {g:Nat} {f0:List Int} {f1:Int} {α:Type} {d:Kd α} {e:Nat} {base:Nat} {ok:Nat→Prop} {v:Value} {xs:List α} (h:IsS80 w0 W g f0 f1) (ho:d.R e W base ok v xs) (ht : ∀ q,q∈e::d.E→q≠80):d.R e W base (fun k=>ok k∧k≠g) v xs:=by
 obtain ⟨A0,c0,hb,hg,hr0⟩:=h
 exact Kd.R_types ho hb ht
theorem IsS80.own_ne {w0 W:World} {g:Nat} {f0:List Int} {f1:Int} {α:Type} {d:Kd α} {e:Nat} {base:Nat} {ok:Nat→Prop} {v:Value} {xs:List α} (h:IsS80 w0 W g f0 f1) (ho:d.R e W base ok v xs) (ht:e≠80):some g≠v.ownBlock:=by
 obtain ⟨A0,c0,hb,hg,hr0⟩:=h
 exact Kd.R_ne ho hb ht
theorem IsS80.apartQ {w0 W:World} {g:Nat} {f0:List Int} {f1:Int} {α:Type} {d:Kd α} {e:Nat} {base:Nat} {ok:Nat→Prop} {v:Value} {xs:List α} (h:IsS80 w0 W g f0 f1) (ho:d.Q e W base ok v xs) (ht : ∀ q,q∈e::d.E→q≠80):d.Q e W base (fun k=>ok k∧k≠g) v xs:=by
 obtain ⟨A0,c0,hb,hg,hr0⟩:=h
 exact Kd.Q_types ho hb ht
theorem IsS80.own_neQ {w0 W:World} {g:Nat} {f0:List Int} {f1:Int} {α:Type} {d:Kd α} {e:Nat} {base:Nat} {ok:Nat→Prop} {v:Value} {xs:List α} (h:IsS80 w0 W g f0 f1) (ho:d.Q e W base ok v xs) (ht:e≠80):some g≠v.ownBlock:=by
 obtain ⟨A0,c0,hb,hg,hr0⟩:=h
 exact Kd.Q_ne ho hb ht
theorem IsS80.apartS {w0 W:World} {g:Nat} {f0:List Int} {f1:Int} {α:Type} {d:Kd α} {e:Nat} {base:Nat} {ok:Nat→Prop} {v:Value} {xs:List α} (h:IsS80 w0 W g f0 f1) (ho:d.S e W base ok v xs) (ht : ∀ q,q∈e::d.E→q≠80):d.S e W base (fun k=>ok k∧k≠g) v xs:=by
 obtain ⟨A0,c0,hb,hg,hr0⟩:=h
 exact Kd.S_types ho hb ht
theorem IsS80.own_neS {w0 W:World} {g:Nat} {f0:List Int} {f1:Int} {α:Type} {d:Kd α} {e:Nat} {base:Nat} {ok:Nat→Prop} {v:Value} {xs:List α} (h:IsS80 w0 W g f0 f1) (ho:d.S e W base ok v xs) (ht:e≠80):some g≠v.ownBlock:=by
 obtain ⟨A0,c0,hb,hg,hr0⟩:=h
 exact Kd.S_ne ho hb ht
theorem IsS80.lt {w0 W:World} {g:Nat} {f0:List Int} {f1:Int} (h:IsS80 w0 W g f0 f1):g<W.heap.size:=by
 obtain ⟨A0,c0,hb,hg,hr0⟩:=h
 exact blk_lt hb
theorem IsS80.ge {w0 W:World} {g:Nat} {f0:List Int} {f1:Int} (h:IsS80 w0 W g f0 f1):w0.heap.size≤g:=by
 obtain ⟨A0,c0,hb,hg,hr0⟩:=h
 exact hg
theorem IsS80.ne_blk {w0 W:World} {g:Nat} {f0:List Int} {f1:Int} {a:Nat} {cs:Array Value} {t:TypeId} {fr:Nat × Nat} (h:IsS80 w0 W g f0 f1) (hb2:W.heap[a]?=some (.cells cs t fr)) (ht:t≠80):g≠a:=by
 obtain ⟨A0,c0,hb,hg,hr0⟩:=h
 rintro rfl
 rw [hb] at hb2
 injection hb2 with hb2
 injection hb2 with _ ht2
 exact ht ht2.symm
theorem IsS80.far {w0 W:World} {g:Nat} {f0:List Int} {f1:Int} {p:Addr} (h:IsS80 w0 W g f0 f1) (hne:g≠p.block) (u:Value):IsS80 w0 (W.setCell p u) g f0 f1:=by
 obtain ⟨A0,c0,hb,hg,hr0⟩:=h
 exact ⟨A0,c0,blk_far hb hne u,hg,hr0⟩
theorem cellS80_0 {W:World} {g:Nat} {A0:Option Addr} {c0:Nat} {f0:List Int} {f1:Int} (h:W.heap[g]?=some (.cells #[.slice A0 f0.length c0,.int .i64 f1] 80 (0,0))):W.cell? ⟨g,0,none⟩=some (.slice A0 f0.length c0):=(blk_cell h 0).trans rfl
theorem cellS80_1 {W:World} {g:Nat} {A0:Option Addr} {c0:Nat} {f0:List Int} {f1:Int} (h:W.heap[g]?=some (.cells #[.slice A0 f0.length c0,.int .i64 f1] 80 (0,0))):W.cell? ⟨g,1,none⟩=some (.int .i64 f1):=(blk_cell h 1).trans rfl
theorem IsS80.set_1 {w0 W:World} {g:Nat} {f0:List Int} {f1:Int} (h:IsS80 w0 W g f0 f1) (x:Int):IsS80 w0 (W.setCell ⟨g,1,none⟩ (.int .i64 x)) g f0 x:=by
 obtain ⟨A0,c0,hb,hg,hr0⟩:=h
 exact ⟨A0,c0,(by simpa using blk_set hb 1 (.int .i64 x)),hg,hr0⟩
theorem IsS80.new (w0 W:World) (A0:Option Addr) (c0:Nat) (f0:List Int) (f1:Int) (hB:Below w0.heap.size w0 W) (hr0:Kd.C (Kd.int .u8) w0 A0 f0.length f0):IsS80 w0 (W.alloc (.cells #[.slice A0 f0.length c0,.int .i64 f1] 80)) W.heap.size f0 f1:=⟨A0,c0,(by simpa using heap_alloc_new W _),hB.size,hr0⟩

theorem z1a_1 {p:Prop} (h:p:=by repeat (first|(with_reducible first|exact HB.out|apply below_alloc|apply pw_below_drewN|apply below_drew1)|exact HB.out)):p:=h
theorem z1a_0 {p:Prop} (h:p:=by repeat (first|(with_reducible first|exact HBW.out|apply below_alloc|apply pw_below_drewN|apply below_drew1)|exact HBW.out)):p:=h
set_option maxHeartbeats 8000000 in
set_option maxRecDepth 100000 in
theorem spec_l20Open.calls (A0:Option Addr) (c0:Nat) (l0:List Int) (r1:List Int) (r2:Int) (w0 w:World) (hB:Below w0.heap.size w0 w) (hr0:Kd.C (Kd.int .u8) w0 A0 l0.length l0) (hc0:l0.length≤c0) (h:spec_l20Open.f l0=some (r1,r2)) :
 Calls Try.prog 61 #[.slice A0 l0.length c0] w fun e w'=>∃ g_:Nat,e = .returned (.pointer (some ⟨g_,0,none⟩))∧IsS80 w0 w' g_ r1 r2∧Below w0.heap.size w0 w'∧Below w.heap.size w w':=by
 have hu80:=Try.underlying80
 have HR0:=ak hr0
 have b1:=ak hc0
 clear hr0 hc0
 have HBW:=ak (Below.refl w.heap.size w)
 have HW0:=ak hB.size
 have HB:=ak hB
 clear hB
 have H:(if (l0.length:Int)>2000 then (if 2000≤(l0.length:Int) then (some (l0.take 2000,0)) else (none)) else (some (l0,0)))=some (r1,r2):=h
 clear h
 replace H:=op_ H
 rcases H with ⟨c2,H⟩|⟨c2,H⟩
 ·
  have a8:decide (2000<(l0.length:Int))=true:=dT_ c2
  have a9:decide (2000<l0.length)=true:=dT_ (by omega)
  clear c2
  replace H:=ok_ H
  obtain ⟨c3,H⟩:=H
  have b2:=eq_true c3
  have b3:decide (2000≤(l0.length:Int))=true:=dT_ c3
  clear c3
  simp only [Option.some.injEq,Prod.mk.injEq] at H
  obtain ⟨rfl,rfl⟩:=H
  obtain ⟨i04,hi04,_,hsz4,_⟩:=info_parts info5
  obtain ⟨hcut4,hA4,hC4⟩:=print_take_of (P:=Try.prog) (Value.int .u8) 0 22 5 .i64 Try.underlying22 hi04 hsz4 A0 c0 l0 2000 (by omega) (oa_) b1.out
  have HR101:=ak (Kd.C_of_reads (h1:=fun _=>rfl) (hA4 _ (Kd.reads_of_C HR0.out)))
  have b0:=ak hC4
  clear hA4 hC4 hi04 hsz4
  go_enter Try.func61,Try.ntmps61
  go_wp2_with (first|((with_reducible refine gate_dst (N:=10) rfl ?_);refine bx_ (N:=10) (cs:=#[.slice A0 (l0.take 2000).length c0,.int .i64 0]) (t:=80) ?_;intro a0 hg w5 hbox hb;replace HB:=ak (below_step z1a_1 hb);have a4:=ak (hbox);have a5:=ak ((by rw [hg];exact (below_size z1a_0):w.heap.size≤a0));have a2:=ak ((Nat.le_trans HW0.out (by rw [hg];exact (below_size z1a_0):w.heap.size≤a0):w0.heap.size≤a0));replace HBW:=ak (below_step HBW.out hb);clear hb hbox hg))
  go_ret
  exact ⟨_,rfl,(show IsS80 w0 _ a0 (l0.take 2000) 0 from ⟨_,_,(xb a4.out),a2.out,HR101.out⟩),(by repeat (first|(with_reducible first|exact HB.out|apply below_alloc|apply pw_below_drewN|apply below_drew1|refine below_set ?_ a2.out)|exact HB.out)),(by repeat (first|(with_reducible first|exact HBW.out|apply below_alloc|apply pw_below_drewN|apply below_drew1|refine below_set ?_ a5.out)|exact HBW.out))⟩
 have a8:decide (2000<(l0.length:Int))=false:=dF_ c2
 have a9:decide (2000<l0.length)=false:=dF_ (by omega)
 clear c2
 simp only [Option.some.injEq,Prod.mk.injEq] at H
 obtain ⟨rfl,rfl⟩:=H
 go_enter Try.func61,Try.ntmps61
 go_wp2_with (first|((with_reducible refine gate_dst (N:=10) rfl ?_);refine bx_ (N:=10) (cs:=#[.slice A0 l0.length c0,.int .i64 0]) (t:=80) ?_;intro a1 hg w6 hbox hb;replace HB:=ak (below_step z1a_1 hb);have a6:=ak (hbox);have a7:=ak ((by rw [hg];exact (below_size z1a_0):w.heap.size≤a1));have a3:=ak ((Nat.le_trans HW0.out (by rw [hg];exact (below_size z1a_0):w.heap.size≤a1):w0.heap.size≤a1));replace HBW:=ak (below_step HBW.out hb);clear hb hbox hg))
 go_ret
 exact ⟨_,rfl,(show IsS80 w0 _ a1 l0 0 from ⟨_,_,(xb a6.out),a3.out,HR0.out⟩),(by repeat (first|(with_reducible first|exact HB.out|apply below_alloc|apply pw_below_drewN|apply below_drew1|refine below_set ?_ a3.out)|exact HB.out)),(by repeat (first|(with_reducible first|exact HBW.out|apply below_alloc|apply pw_below_drewN|apply below_drew1|refine below_set ?_ a7.out)|exact HBW.out))⟩

end Go.Proofs.Ytacifhahfamipaa.P

namespace Go.Proofs.Ytacifhahfamipaa.P
open Go.RowKit Go.Proofs.YtacifhahfamipaaW.PrintWords Go.Proofs.YtacifhahfamipaaW.PrintLast Go.Proofs.YtacifhahfamipaaW.PrintMore
attribute [local go_sem] max2_int min2_int max_two min_two max_three min_three max_four min_four
set_option linter.unusedVariables false
set_option linter.unusedSimpArgs false
set_option maxHeartbeats 8000000 in
set_option maxRecDepth 100000 in
theorem spec_l1In.calls (a0:Int) (a1:Int) (a2:Int) (r:Bool) (w:World) (h:spec_l1In.f a0 a1 a2=some r) :
 Calls Try.prog 72 #[.int .i64 a0,.int .i64 a1,.int .i64 a2] w fun e w'=>e = .returned (.bool r)∧Drawn0 w w':=by
 have H:(if a0≥a1 then (some (decide (a0≤a2))) else (some false))=some r:=h
 clear h
 replace H:=op_ H
 rcases H with ⟨c4,H⟩|⟨c4,H⟩
 ·
  have a3:decide (a1≤a0)=true:=dT_ c4
  clear c4
  obtain rfl:=Option.some.inj H
  go_enter Try.func72,Try.ntmps72
  go_wp2
  go_ret
  exact ⟨(by first|rfl|(simp;done)|(simp [*];done)),(by repeat (first|exact Drawn0.refl _|apply Drawn0.step))⟩
 have a3:decide (a1≤a0)=false:=dF_ c4
 clear c4
 obtain rfl:=Option.some.inj H
 go_enter Try.func72,Try.ntmps72
 go_wp2
 go_ret
 exact ⟨(by first|rfl|(simp;done)|(simp [*];done)),(by repeat (first|exact Drawn0.refl _|apply Drawn0.step))⟩

end Go.Proofs.Ytacifhahfamipaa.P

namespace Go.Proofs.Ytacifhahfamipaa.P
open Go.RowKit Go.Proofs.YtacifhahfamipaaW.PrintWords Go.Proofs.YtacifhahfamipaaW.PrintLast Go.Proofs.YtacifhahfamipaaW.PrintMore
attribute [local go_sem] max2_int min2_int max_two min_two max_three min_three max_four min_four
set_option linter.unusedVariables false
set_option linter.unusedSimpArgs false
theorem z1b_9 {p:Prop} (h:p:=by have:=HK1.out;have:=HK2.out;first|omega|exact Nat.le_refl _):p:=h
theorem z1b_8 {p:Prop} (h:p:=by decide):p:=h
theorem z1b_7 {p:Prop} (h:p:=by have:=HK1.out;have:=HK2.out;have:=d0.out;first|omega|exact Nat.le_refl _):p:=h
theorem z1b_6 {p:Prop} (h:p:=by repeat (first|(with_reducible first|exact HB.out|apply below_alloc|apply pw_below_drewN|apply below_drew1)|exact HB.out)):p:=h
theorem z1b_5 {p:Prop} (h:p:=by repeat (first|(with_reducible first|exact HB.out|apply below_alloc|apply pw_below_drewN|apply below_drew1|refine below_set ?_ d7.out)|exact HB.out)):p:=h
theorem z1b_4 {p:Prop} (h:p:=by have:=HK1.out;have:=HK2.out;have:=d0.out;have:=b7.out;omega):p:=h
theorem z1b_3 {p:Prop} (h:p:=by first|rfl|(simp;done)|(simp [*];done)):p:=h
theorem z1b_2 {p:Prop} (h:p:=by (with_reducible repeat (first|apply Kd.S_alloc|apply Kd.S_drewN|apply Kd.S_drew));exact Kd.S_mono a0.out (fun _ hk=>⟨trivial,hk⟩)):p:=h
theorem z1b_1 {p:Prop} (h:p:=by (with_reducible repeat (first|apply Kd.S_alloc|apply Kd.S_drewN|apply Kd.S_drew));exact Kd.S_mono a0.out (fun _ hk=>hk.2)):p:=h
theorem z1b_0 {p:Prop} (h:p:=by repeat (first|(with_reducible first|exact HB.out|apply below_alloc|apply pw_below_drewN|apply below_drew1|refine below_set ?_ d7.out|refine below_set ?_ e2.out)|exact HB.out)):p:=h
set_option maxHeartbeats 8000000 in
set_option maxRecDepth 100000 in
theorem spec_l20Pasted.calls (k:Nat)  (r1:List (List Int)) (r2:List Int) (w:World) (h:spec_l20Pasted.f k  = some (r1,r2)) :
 Calls Try.prog 110 #[] w fun e w'=>∃ v0_ v1_:Value,e = .returned (.agg #[v0_,v1_])∧Kd.S (Kd.slice 3 (Kd.int .i64)) 25 w' w.heap.size (fun k_=>some k_≠(v1_:Value).ownBlock) v0_ r1∧Kd.R (Kd.int .i64) 3 w' w.heap.size (fun _=>True) v1_ r2∧Below w.heap.size w w':=by
 have hu27:=Try.underlying27
 have HB:=ak (Below.refl w.heap.size w)
 have H:(spec_l20Pasted.l0 k 0 ([]:List (List Int)))=some (r1,r2):=h
 clear h
 have H':=ak H
 clear H
 go_enter Try.func110,Try.ntmps110
 go_wp2_with (first|((with_reducible refine gate_dst (N:=0) rfl ?_);refine bx_ (N:=0) (cs:=#[.slice none 0 0,.slice none 0 0]) (t:=27) ?_;intro a5 hg w1 hbox hb;have a2:=ak (hbox);have h8:=ak ((by rw [hg];exact (below_size z1b_6):w.heap.size≤a5));have d7:=ak ((by rw [hg];exact (below_size z1b_6):w.heap.size≤a5));replace HB:=ak (below_step z1b_6 hb);clear hb hbox hg)|((with_reducible refine gate_dst (N:=1) rfl ?_);refine bx_ (N:=1) (cs:=#[.slice none 0 0,.slice none 0 0]) (t:=27) ?_;intro a6 hg w2 hbox hb;have a1:=ak (hbox);have h9:=ak ((by rw [hg];exact (below_size z1b_5):w.heap.size≤a6));have e2:=ak ((by rw [hg];exact (below_size z1b_5):w.heap.size≤a6));replace HB:=ak (below_step z1b_5 hb);have b0:=ak ((by rw [hg];exact Nat.ne_of_lt (blk_lt (g:=a5) (o:=.cells #[.slice none 0 0,.slice none 0 0] 27 (0,0)) (xb a2.out)):a5≠a6));have b2:=ak ((by rw [hg];exact Nat.ne_of_gt (blk_lt (g:=a5) (o:=.cells #[.slice none 0 0,.slice none 0 0] 27 (0,0)) (xb a2.out)):a6≠a5));replace a2:=ak (blk_below (g:=a5) (o:=.cells #[.slice none 0 0,.slice none 0 0] 27 (0,0)) (xb a2.out) hb);clear hb hbox hg;have j6:=b2.out;have j7:=b0.out;have b3:=cz20 a1.out;have b4:=cz21 a1.out;have b5:=blk_frozen a1.out 0;have b6:=blk_frozen a1.out 1))
 go_loopg [2] k (fun kq v2 w'=>∃ (a8:Int) (a3:List (List Int)) (u359000:Value),v2 = .int .i64 a8∧Aside0 (spec_l20Pasted.l0 kq a8 a3=some (r1,r2))∧Aside0 (kq≤k)∧Aside0 (Kd.S (Kd.slice 3 (Kd.int .i64)) 25 w' w.heap.size (fun _=>True) u359000 a3)∧Aside0 (w'.heap[a5]?=some (.cells #[(.slice none 0 0),(.slice none 0 0)] 27 (0,0)))∧Aside0 (w'.heap[a6]?=some (.cells #[u359000,(.slice none 0 0)] 27 (0,0)))∧Aside0 (Below w.heap.size w w'))
 case atStart=>exact ⟨(0),(([]:List (List Int))),(.slice none 0 0),z1b_3,H',⟨Nat.le_refl _⟩,⟨(by first|exact Kd.S_nil _ _ _ _ _|exact Kd.N_nil _ _ _ _ _|exact Kd.V_nil _ _ _ _ _|exact Kd.Q_nil _ _ _ _ _|exact Kd.R_nil _ _ _ _ _)⟩,⟨(by (with_reducible repeat (first|refine blk_drewN ?_ _|refine blk_drew ?_|refine blk_alloc ?_ _));refine blk_far ?_ b0.out _;(with_reducible repeat (first|refine blk_drewN ?_ _|refine blk_drew ?_|refine blk_alloc ?_ _));refine blk_far ?_ b0.out _;(with_reducible repeat (first|refine blk_drewN ?_ _|refine blk_drew ?_|refine blk_alloc ?_ _));exact a2.out)⟩,⟨(by (with_reducible repeat (first|refine blk_drewN ?_ _|refine blk_drew ?_|refine blk_alloc ?_ _));refine blk_put (cs:=#[.slice none 0 0,.slice none 0 0]) ?_ 1 _ rfl;(with_reducible repeat (first|refine blk_drewN ?_ _|refine blk_drew ?_|refine blk_alloc ?_ _));refine blk_put (cs:=#[.slice none 0 0,.slice none 0 0]) ?_ 0 _ rfl;(with_reducible repeat (first|refine blk_drewN ?_ _|refine blk_drew ?_|refine blk_alloc ?_ _));exact a1.out)⟩,⟨z1b_0⟩⟩
 case round =>
  clear H'
  try clear b3
  try clear b4
  try clear b5
  try clear b6
  obtain ⟨a8,a3,u359000,rfl,HA,HK1,a0,a2,a1,HB⟩:=hrel
  cases gk with
  | zero=>exact absurd HA.out (by simp [spec_l20Pasted.l0])
  | succ k1 =>
   have H:=HA.out
   clear HA
   simp only [spec_l20Pasted.l0] at H
   replace H:=os_ H
   rcases H with ⟨d4,H⟩|⟨d4,H⟩
   ·
    obtain ⟨y362,hy362⟩ : ∃ y_:List Int,y_=(([]:List Int)):=⟨_,rfl⟩
    replace H:(spec_l20Pasted.l1 k1 a8 y362 0 a3)=some (r1,r2):=by first|(rw [hy362];with_reducible exact H)|(have H2_:=(Option.bind_some _ _).symm.trans H;rw [hy362];with_reducible exact H2_)|(have H2_:=(Option.bind_some _ _).symm.trans H;with_reducible exact H2_)|with_reducible exact H|(rw [hy362];exact H)|exact H
    have Ny362:=ak hy362
    clear hy362
    have H':=ak H
    clear H
    go_wp2_with (first|((with_reducible refine gate_dst (N:=12) rfl ?_);refine Kd.R_lit (Kd.int .i64) _ 3 ?hg (N:=12) ?hd (xs:=([]:List Int)) (inner:=[]) (ok:=fun _=>True) (okp:=fun _=>True) ?hr ?hp (fun _ hk=>hk) trivial (Below.refl _ _) (Nat.le_refl _) (by simp) ?_;(case hd=>rfl);(case hg=>rfl);(case hr=>first|(go_simp;done)|(go_simp;rfl));(case hp=>exact (Reps.none _ _));intro j8 w6 ho7 hb hg_ hnew_;clear hg_ hnew_;(first|rw [← Ny362.out] at ho7|(simp only [Int.reduceToNat] at ho7;rw [← Ny362.out] at ho7));replace a0:=ak (Kd.S_elder' (xS a0.out) (Kd.R_base ho7) hb);have e3:=ak (Kd.R_lower ho7 (below_size z1b_0));replace a2:=ak (blk_below (g:=a5) (o:=.cells #[.slice none 0 0,.slice none 0 0] 27 (0,0)) (xb a2.out) hb);replace a1:=ak (blk_below (g:=a6) (o:=.cells #[u359000,.slice none 0 0] 27 (0,0)) (xb a1.out) hb);replace HB:=ak (below_step z1b_0 hb);clear hb ho7))
    go_loopg [3,4] k1 (fun kq v3 v4 w'=>∃ (a9:List Int) (a7:Int),v4 = .int .i64 a7∧Aside0 (spec_l20Pasted.l1 kq a8 a9 a7 a3=some (r1,r2))∧Aside0 (kq≤k1)∧Aside0 (Kd.R (Kd.int .i64) 3 w' w.heap.size (fun _=>True) v3 a9)∧Aside0 (Kd.S (Kd.slice 3 (Kd.int .i64)) 25 w' w.heap.size (fun k_=>some k_≠(v3:Value).ownBlock) u359000 a3)∧Aside0 (w'.heap[a5]?=some (.cells #[(.slice none 0 0),(.slice none 0 0)] 27 (0,0)))∧Aside0 (w'.heap[a6]?=some (.cells #[u359000,(.slice none 0 0)] 27 (0,0)))∧Aside0 (Below w.heap.size w w'))
    case atStart=>exact ⟨(y362),(0),z1b_3,H',⟨Nat.le_refl _⟩,⟨(xR e3.out)⟩,⟨z1b_1⟩,⟨(xb a2.out)⟩,⟨(xb a1.out)⟩,⟨z1b_0⟩⟩
    case round =>
     clear H'
     try clear c5
     try clear d4
     try clear b3
     try clear b4
     try clear b5
     try clear b6
     obtain ⟨a9,a7,rfl,HA,HK2,a4,a0,a2,a1,HB⟩:=hrel
     cases gk with
     | zero=>exact absurd HA.out (by simp [spec_l20Pasted.l1])
     | succ k2 =>
      have H:=HA.out
      clear HA
      simp only [spec_l20Pasted.l1] at H
      replace H:=os_ H
      rcases H with ⟨e0,H⟩|⟨e0,H⟩
      ·
       have h0:=ak H
       clear H
       go_upto_region 10 with (fail)
       go_cut [17] (fun j9 wc=>∃ (kq:Nat) (d1:Bool),j9 = .bool d1∧Aside0 (spec_l20Pasted.j2 kq a8 a9 a7 0 d1 a3=some (r1,r2))∧Aside0 (kq≤k2)∧Aside0 (Kd.R (Kd.int .i64) 3 wc w.heap.size (fun _=>True) u3 a9)∧Aside0 (Kd.S (Kd.slice 3 (Kd.int .i64)) 25 wc w.heap.size (fun k_=>some k_≠(u3:Value).ownBlock) u359000 a3)∧Aside0 (wc.heap[a5]?=some (.cells #[(.slice none 0 0),(.slice none 0 0)] 27 (0,0)))∧Aside0 (wc.heap[a6]?=some (.cells #[u359000,(.slice none 0 0)] 27 (0,0)))∧Aside0 (Below w.heap.size w wc))
       case first =>
        have H:=h0.out
        clear h0
        replace H:=oe2 H
        rcases H with ⟨⟨-,b8,e4⟩,H⟩|⟨⟨l8,b8,e4⟩,H⟩
        ·
         (first|rw [b8]|(simp only [i64_w,i32_w];rw [b8])|skip)
         have H':=ak H
         clear H
         go_wp2
         go_meet
         case rel=>exact ⟨_,(true),z1b_3,H',⟨z1b_9⟩,⟨(xR a4.out)⟩,⟨(xS a0.out)⟩,⟨(xb a2.out)⟩,⟨(xb a1.out)⟩,⟨z1b_0⟩⟩
        (first|rw [b8]|(simp only [i64_w,i32_w];rw [b8])|skip)
        replace H:=oe2 H
        rcases H with ⟨⟨-,e5,e6⟩,H⟩|⟨⟨l9,e5,e6⟩,H⟩
        ·
         have H':=ak H
         clear H
         go_wp2
         go_meet
         case rel=>exact ⟨_,(true),z1b_3,H',⟨z1b_9⟩,⟨(xR a4.out)⟩,⟨(xS a0.out)⟩,⟨(xb a2.out)⟩,⟨(xb a1.out)⟩,⟨z1b_0⟩⟩
        have H':=ak H
        clear H
        go_wp2
        go_meet
        case rel=>exact ⟨_,((a7==11)),z1b_3,H',⟨z1b_9⟩,⟨(xR a4.out)⟩,⟨(xS a0.out)⟩,⟨(xb a2.out)⟩,⟨(xb a1.out)⟩,⟨z1b_0⟩⟩
       case rest =>
        clear h0
        try clear c5
        try clear d4
        try clear c8
        try clear e0
        try clear b3
        try clear b4
        try clear b5
        try clear b6
        obtain ⟨kq,d1,rfl,HA,d0,a4,a0,a2,a1,HB⟩:=hcut
        cases kq with
        | zero=>exact absurd HA.out (by simp [spec_l20Pasted.j2])
        | succ h1 =>
         have H:=HA.out
         clear HA
         simp only [spec_l20Pasted.j2] at H
         replace H:=ox_ H
         rcases H with ⟨rfl,H⟩|⟨rfl,H⟩
         ·
          replace H:=ok_ H
          obtain ⟨i0,H⟩:=H
          have LMc13:=ak i0
          clear i0
          obtain ⟨y368,hy368⟩ : ∃ y_:List Int,y_=(a9 ++ [1]):=⟨_,rfl⟩
          replace H:(spec_l20Pasted.l1 h1 a8 y368 (wrap64 (a7+1)) a3)=some (r1,r2):=by first|(rw [hy368];with_reducible exact H)|(have H2_:=(Option.bind_some _ _).symm.trans H;rw [hy368];with_reducible exact H2_)|(have H2_:=(Option.bind_some _ _).symm.trans H;with_reducible exact H2_)|with_reducible exact H|(rw [hy368];exact H)|exact H
          have Ny368:=ak hy368
          clear hy368
          have H':=ak H
          clear H
          go_wp2_with (first|((with_reducible refine gate_builtin (b:=.append) (xs:=#[.tmp 59,.tmp 61]) rfl ?_);at_builtin;refine Kd.R_append (Kd.int .i64) (w0:=w) w.heap.size rfl (.tmp 59) (.tmp 61) 25 3 (.int .i64 0) 8 rfl Try.underlying25 info3 rfl z1b_8 (by omega) u3 a9 1 [.int .i64 1] (fun _=>True) (fun _=>False) rfl rfl ?aP (fun _ hk=>hk.elim) ?aF ?aO ?aB ?aS ?aL ?_;(case aP=>exact rfl);(case aB=>exact z1b_0);(case aF=>exact (fun _ _=>trivial));(case aO=>exact (xR a4.out));(case aS=>exact (below_size z1b_0));(case aL=>have:=LMc13.out;omega);intro k0 m0 ho hb hg hat;rw [← Ny368.out] at ho;replace a0:=ak (Kd.S_after (ok:=(fun _=>True)) z1b_2 hg hat);replace a2:=ak (blk_grown (g:=a5) (o:=.cells #[.slice none 0 0,.slice none 0 0] 27 (0,0)) (xb a2.out) hg (Kd.R_ne a4.out a2.out z1b_8));replace a1:=ak (blk_grown (g:=a6) (o:=.cells #[u359000,.slice none 0 0] 27 (0,0)) (xb a1.out) hg (Kd.R_ne a4.out a1.out z1b_8));replace HB:=ak (hb);have e7:=ak (ho);clear a4;clear ho hb hg hat))
          go_roundg h1
          case measure=>have:=HK1.out;have:=HK2.out;have:=d0.out;omega
          case rel=>exact ⟨(y368),(wrap64 (a7+1)),z1b_3,H',⟨(by have:=HK1.out;have:=HK2.out;have:=d0.out;omega)⟩,⟨(xR e7.out)⟩,⟨z1b_1⟩,⟨(xb a2.out)⟩,⟨(xb a1.out)⟩,⟨z1b_0⟩⟩
         have e1:=ak H
         clear H
         go_upto_region 12 with (fail)
         go_cut [29] (fun k3 wc=>∃ (kq:Nat) (b9:Bool),k3 = .bool b9∧Aside0 (spec_l20Pasted.j3 kq a8 a9 a7 0 b9 a3=some (r1,r2))∧Aside0 (kq≤h1)∧Aside0 (Kd.R (Kd.int .i64) 3 wc w.heap.size (fun _=>True) u3 a9)∧Aside0 (Kd.S (Kd.slice 3 (Kd.int .i64)) 25 wc w.heap.size (fun k_=>some k_≠(u3:Value).ownBlock) u359000 a3)∧Aside0 (wc.heap[a5]?=some (.cells #[(.slice none 0 0),(.slice none 0 0)] 27 (0,0)))∧Aside0 (wc.heap[a6]?=some (.cells #[u359000,(.slice none 0 0)] 27 (0,0)))∧Aside0 (Below w.heap.size w wc))
         case first =>
          have H:=e1.out
          clear e1
          obtain ⟨k4,h2,H⟩:=bd_ H
          try dsimp only at H
          replace H:=ox_ H
          rcases H with ⟨rfl,H⟩|⟨rfl,H⟩
          ·
           obtain ⟨k5,i1,H⟩:=bd_ H
           try dsimp only at H
           replace H:=ox_ H
           rcases H with ⟨rfl,H⟩|⟨rfl,H⟩
           ·
            have H':=ak H
            clear H
            go_wp2_with (first|((with_reducible refine gate_callee (f:=72) rfl ?_);refine gl_ (some 31) Try.func72 #[.int .i64 a8,.int .i64 1,.int .i64 5] ?_;(with_reducible refine (spec_l1In.calls a8 1 5 true _ h2.out).mono ?_);rintro e w' ⟨rfl,⟨nd,rfl⟩⟩;refine ⟨_,rfl,?_⟩)|(go_at_call 72;(with_reducible refine (spec_l1In.calls a7 6 10 true _ i1.out).mono ?_);rintro e w' ⟨rfl,⟨nd,rfl⟩⟩))
            go_meet
            case rel=>exact ⟨_,((a8 != (wrap64 (a7-5)))),z1b_3,H',⟨z1b_7⟩,⟨(xR a4.out)⟩,⟨(xS a0.out)⟩,⟨(xb a2.out)⟩,⟨(xb a1.out)⟩,⟨z1b_0⟩⟩
           have H':=ak H
           clear H
           go_wp2_with (first|((with_reducible refine gate_callee (f:=72) rfl ?_);refine gl_ (some 31) Try.func72 #[.int .i64 a8,.int .i64 1,.int .i64 5] ?_;(with_reducible refine (spec_l1In.calls a8 1 5 true _ h2.out).mono ?_);rintro e w' ⟨rfl,⟨nd,rfl⟩⟩;refine ⟨_,rfl,?_⟩)|(go_at_call 72;(with_reducible refine (spec_l1In.calls a7 6 10 false _ i1.out).mono ?_);rintro e w' ⟨rfl,⟨nd,rfl⟩⟩))
           go_meet
           case rel=>exact ⟨_,(false),z1b_3,H',⟨z1b_7⟩,⟨(xR a4.out)⟩,⟨(xS a0.out)⟩,⟨(xb a2.out)⟩,⟨(xb a1.out)⟩,⟨z1b_0⟩⟩
          have H':=ak H
          clear H
          go_wp2_with (first|((with_reducible refine gate_callee (f:=72) rfl ?_);refine gl_ (some 31) Try.func72 #[.int .i64 a8,.int .i64 1,.int .i64 5] ?_;(with_reducible refine (spec_l1In.calls a8 1 5 false _ h2.out).mono ?_);rintro e w' ⟨rfl,⟨nd,rfl⟩⟩;refine ⟨_,rfl,?_⟩))
          go_meet
          case rel=>exact ⟨_,(false),z1b_3,H',⟨z1b_7⟩,⟨(xR a4.out)⟩,⟨(xS a0.out)⟩,⟨(xb a2.out)⟩,⟨(xb a1.out)⟩,⟨z1b_0⟩⟩
         case rest =>
          clear e1
          try clear c5
          try clear d4
          try clear c8
          try clear e0
          try clear m1
          try clear b3
          try clear b4
          try clear b5
          try clear b6
          obtain ⟨kq,b9,rfl,HA,b7,a4,a0,a2,a1,HB⟩:=hcut
          cases kq with
          | zero=>exact absurd HA.out (by simp [spec_l20Pasted.j3])
          | succ b1 =>
           have H:=HA.out
           clear HA
           simp only [spec_l20Pasted.j3] at H
           replace H:=ox_ H
           rcases H with ⟨rfl,H⟩|⟨rfl,H⟩
           ·
            replace H:=os_ H
            rcases H with ⟨e8,H⟩|⟨e8,H⟩
            ·
             replace H:=os_ H
             rcases H with ⟨e9,H⟩|⟨e9,H⟩
             ·
              replace H:=op_ H
              rcases H with ⟨h3,H⟩|⟨h3,H⟩
              ·
               have LMc23:=ak h3
               clear h3
               obtain ⟨y373,hy373⟩ : ∃ y_:List Int,y_=(a9 ++ [1]):=⟨_,rfl⟩
               replace H:(spec_l20Pasted.l1 b1 a8 y373 (wrap64 (a7+1)) a3)=some (r1,r2):=by first|(rw [hy373];with_reducible exact H)|(have H2_:=(Option.bind_some _ _).symm.trans H;rw [hy373];with_reducible exact H2_)|(have H2_:=(Option.bind_some _ _).symm.trans H;with_reducible exact H2_)|with_reducible exact H|(rw [hy373];exact H)|exact H
               have Ny373:=ak hy373
               clear hy373
               have H':=ak H
               clear H
               go_wp2_with (first|((with_reducible refine gate_builtin (b:=.append) (xs:=#[.tmp 59,.tmp 61]) rfl ?_);at_builtin;refine Kd.R_append (Kd.int .i64) (w0:=w) w.heap.size rfl (.tmp 59) (.tmp 61) 25 3 (.int .i64 0) 8 rfl Try.underlying25 info3 rfl z1b_8 (by omega) u3 a9 1 [.int .i64 1] (fun _=>True) (fun _=>False) rfl rfl ?aP (fun _ hk=>hk.elim) ?aF ?aO ?aB ?aS ?aL ?_;(case aP=>exact rfl);(case aB=>exact z1b_0);(case aF=>exact (fun _ _=>trivial));(case aO=>exact (xR a4.out));(case aS=>exact (below_size z1b_0));(case aL=>have:=LMc23.out;omega);intro k6 m2 ho hb hg hat;rw [← Ny373.out] at ho;replace a0:=ak (Kd.S_after (ok:=(fun _=>True)) z1b_2 hg hat);replace a2:=ak (blk_grown (g:=a5) (o:=.cells #[.slice none 0 0,.slice none 0 0] 27 (0,0)) (xb a2.out) hg (Kd.R_ne a4.out a2.out z1b_8));replace a1:=ak (blk_grown (g:=a6) (o:=.cells #[u359000,.slice none 0 0] 27 (0,0)) (xb a1.out) hg (Kd.R_ne a4.out a1.out z1b_8));replace HB:=ak (hb);have f0:=ak (ho);clear a4;clear ho hb hg hat))
               go_roundg b1
               case measure=>have:=HK1.out;have:=HK2.out;have:=d0.out;have:=b7.out;omega
               case rel=>exact ⟨(y373),(wrap64 (a7+1)),z1b_3,H',⟨z1b_4⟩,⟨(xR f0.out)⟩,⟨z1b_1⟩,⟨(xb a2.out)⟩,⟨(xb a1.out)⟩,⟨z1b_0⟩⟩
              exact absurd H (by simp)
             replace H:=op_ H
             rcases H with ⟨f1,H⟩|⟨f1,H⟩
             ·
              have f2:decide (3≤a8)=true:=dT_ f1
              clear f1
              replace H:=op_ H
              rcases H with ⟨f3,H⟩|⟨f3,H⟩
              ·
               have f4:decide (3≤(wrap64 (a7-5)))=true:=dT_ f3
               clear f3
               replace H:=ok_ H
               obtain ⟨i2,H⟩:=H
               have LMc27:=ak i2
               clear i2
               obtain ⟨y376,hy376⟩ : ∃ y_:List Int,y_=(a9 ++ [1]):=⟨_,rfl⟩
               replace H:(spec_l20Pasted.l1 b1 a8 y376 (wrap64 (a7+1)) a3)=some (r1,r2):=by first|(rw [hy376];with_reducible exact H)|(have H2_:=(Option.bind_some _ _).symm.trans H;rw [hy376];with_reducible exact H2_)|(have H2_:=(Option.bind_some _ _).symm.trans H;with_reducible exact H2_)|with_reducible exact H|(rw [hy376];exact H)|exact H
               have Ny376:=ak hy376
               clear hy376
               have H':=ak H
               clear H
               go_wp2_with (first|((with_reducible refine gate_builtin (b:=.append) (xs:=#[.tmp 59,.tmp 61]) rfl ?_);at_builtin;refine Kd.R_append (Kd.int .i64) (w0:=w) w.heap.size rfl (.tmp 59) (.tmp 61) 25 3 (.int .i64 0) 8 rfl Try.underlying25 info3 rfl z1b_8 (by omega) u3 a9 1 [.int .i64 1] (fun _=>True) (fun _=>False) rfl rfl ?aP (fun _ hk=>hk.elim) ?aF ?aO ?aB ?aS ?aL ?_;(case aP=>exact rfl);(case aB=>exact z1b_0);(case aF=>exact (fun _ _=>trivial));(case aO=>exact (xR a4.out));(case aS=>exact (below_size z1b_0));(case aL=>have:=LMc27.out;omega);intro k7 m3 ho hb hg hat;rw [← Ny376.out] at ho;replace a0:=ak (Kd.S_after (ok:=(fun _=>True)) z1b_2 hg hat);replace a2:=ak (blk_grown (g:=a5) (o:=.cells #[.slice none 0 0,.slice none 0 0] 27 (0,0)) (xb a2.out) hg (Kd.R_ne a4.out a2.out z1b_8));replace a1:=ak (blk_grown (g:=a6) (o:=.cells #[u359000,.slice none 0 0] 27 (0,0)) (xb a1.out) hg (Kd.R_ne a4.out a1.out z1b_8));replace HB:=ak (hb);have f5:=ak (ho);clear a4;clear ho hb hg hat))
               go_roundg b1
               case measure=>have:=HK1.out;have:=HK2.out;have:=d0.out;have:=b7.out;omega
               case rel=>exact ⟨(y376),(wrap64 (a7+1)),z1b_3,H',⟨z1b_4⟩,⟨(xR f5.out)⟩,⟨z1b_1⟩,⟨(xb a2.out)⟩,⟨(xb a1.out)⟩,⟨z1b_0⟩⟩
              have f4:decide (3≤(wrap64 (a7-5)))=false:=dF_ f3
              clear f3
              replace H:=ok_ H
              obtain ⟨i3,H⟩:=H
              have LMc29:=ak i3
              clear i3
              obtain ⟨y379,hy379⟩ : ∃ y_:List Int,y_=(a9 ++ [0]):=⟨_,rfl⟩
              replace H:(spec_l20Pasted.l1 b1 a8 y379 (wrap64 (a7+1)) a3)=some (r1,r2):=by first|(rw [hy379];with_reducible exact H)|(have H2_:=(Option.bind_some _ _).symm.trans H;rw [hy379];with_reducible exact H2_)|(have H2_:=(Option.bind_some _ _).symm.trans H;with_reducible exact H2_)|with_reducible exact H|(rw [hy379];exact H)|exact H
              have Ny379:=ak hy379
              clear hy379
              have H':=ak H
              clear H
              go_wp2_with (first|((with_reducible refine gate_builtin (b:=.append) (xs:=#[.tmp 59,.tmp 61]) rfl ?_);at_builtin;refine Kd.R_append (Kd.int .i64) (w0:=w) w.heap.size rfl (.tmp 59) (.tmp 61) 25 3 (.int .i64 0) 8 rfl Try.underlying25 info3 rfl z1b_8 (by omega) u3 a9 0 [.int .i64 0] (fun _=>True) (fun _=>False) rfl rfl ?aP (fun _ hk=>hk.elim) ?aF ?aO ?aB ?aS ?aL ?_;(case aP=>exact rfl);(case aB=>exact z1b_0);(case aF=>exact (fun _ _=>trivial));(case aO=>exact (xR a4.out));(case aS=>exact (below_size z1b_0));(case aL=>have:=LMc29.out;omega);intro k8 m4 ho hb hg hat;rw [← Ny379.out] at ho;replace a0:=ak (Kd.S_after (ok:=(fun _=>True)) z1b_2 hg hat);replace a2:=ak (blk_grown (g:=a5) (o:=.cells #[.slice none 0 0,.slice none 0 0] 27 (0,0)) (xb a2.out) hg (Kd.R_ne a4.out a2.out z1b_8));replace a1:=ak (blk_grown (g:=a6) (o:=.cells #[u359000,.slice none 0 0] 27 (0,0)) (xb a1.out) hg (Kd.R_ne a4.out a1.out z1b_8));replace HB:=ak (hb);have f6:=ak (ho);clear a4;clear ho hb hg hat))
              go_roundg b1
              case measure=>have:=HK1.out;have:=HK2.out;have:=d0.out;have:=b7.out;omega
              case rel=>exact ⟨(y379),(wrap64 (a7+1)),z1b_3,H',⟨z1b_4⟩,⟨(xR f6.out)⟩,⟨z1b_1⟩,⟨(xb a2.out)⟩,⟨(xb a1.out)⟩,⟨z1b_0⟩⟩
             have f2:decide (3≤a8)=false:=dF_ f1
             clear f1
             replace H:=ok_ H
             obtain ⟨i4,H⟩:=H
             have LMc31:=ak i4
             clear i4
             obtain ⟨y382,hy382⟩ : ∃ y_:List Int,y_=(a9 ++ [0]):=⟨_,rfl⟩
             replace H:(spec_l20Pasted.l1 b1 a8 y382 (wrap64 (a7+1)) a3)=some (r1,r2):=by first|(rw [hy382];with_reducible exact H)|(have H2_:=(Option.bind_some _ _).symm.trans H;rw [hy382];with_reducible exact H2_)|(have H2_:=(Option.bind_some _ _).symm.trans H;with_reducible exact H2_)|with_reducible exact H|(rw [hy382];exact H)|exact H
             have Ny382:=ak hy382
             clear hy382
             have H':=ak H
             clear H
             go_wp2_with (first|((with_reducible refine gate_builtin (b:=.append) (xs:=#[.tmp 59,.tmp 61]) rfl ?_);at_builtin;refine Kd.R_append (Kd.int .i64) (w0:=w) w.heap.size rfl (.tmp 59) (.tmp 61) 25 3 (.int .i64 0) 8 rfl Try.underlying25 info3 rfl z1b_8 (by omega) u3 a9 0 [.int .i64 0] (fun _=>True) (fun _=>False) rfl rfl ?aP (fun _ hk=>hk.elim) ?aF ?aO ?aB ?aS ?aL ?_;(case aP=>exact rfl);(case aB=>exact z1b_0);(case aF=>exact (fun _ _=>trivial));(case aO=>exact (xR a4.out));(case aS=>exact (below_size z1b_0));(case aL=>have:=LMc31.out;omega);intro k9 m5 ho hb hg hat;rw [← Ny382.out] at ho;replace a0:=ak (Kd.S_after (ok:=(fun _=>True)) z1b_2 hg hat);replace a2:=ak (blk_grown (g:=a5) (o:=.cells #[.slice none 0 0,.slice none 0 0] 27 (0,0)) (xb a2.out) hg (Kd.R_ne a4.out a2.out z1b_8));replace a1:=ak (blk_grown (g:=a6) (o:=.cells #[u359000,.slice none 0 0] 27 (0,0)) (xb a1.out) hg (Kd.R_ne a4.out a1.out z1b_8));replace HB:=ak (hb);have f7:=ak (ho);clear a4;clear ho hb hg hat))
             go_roundg b1
             case measure=>have:=HK1.out;have:=HK2.out;have:=d0.out;have:=b7.out;omega
             case rel=>exact ⟨(y382),(wrap64 (a7+1)),z1b_3,H',⟨z1b_4⟩,⟨(xR f7.out)⟩,⟨z1b_1⟩,⟨(xb a2.out)⟩,⟨(xb a1.out)⟩,⟨z1b_0⟩⟩
            replace H:=op_ H
            rcases H with ⟨f8,H⟩|⟨f8,H⟩
            ·
             have f9:decide (3≤a8)=true:=dT_ f8
             clear f8
             replace H:=op_ H
             rcases H with ⟨g0,H⟩|⟨g0,H⟩
             ·
              have g1:decide (3≤(wrap64 (a7-5)))=true:=dT_ g0
              clear g0
              replace H:=ok_ H
              obtain ⟨i5,H⟩:=H
              have LMc35:=ak i5
              clear i5
              obtain ⟨y385,hy385⟩ : ∃ y_:List Int,y_=(a9 ++ [1]):=⟨_,rfl⟩
              replace H:(spec_l20Pasted.l1 b1 a8 y385 (wrap64 (a7+1)) a3)=some (r1,r2):=by first|(rw [hy385];with_reducible exact H)|(have H2_:=(Option.bind_some _ _).symm.trans H;rw [hy385];with_reducible exact H2_)|(have H2_:=(Option.bind_some _ _).symm.trans H;with_reducible exact H2_)|with_reducible exact H|(rw [hy385];exact H)|exact H
              have Ny385:=ak hy385
              clear hy385
              have H':=ak H
              clear H
              go_wp2_with (first|((with_reducible refine gate_builtin (b:=.append) (xs:=#[.tmp 59,.tmp 61]) rfl ?_);at_builtin;refine Kd.R_append (Kd.int .i64) (w0:=w) w.heap.size rfl (.tmp 59) (.tmp 61) 25 3 (.int .i64 0) 8 rfl Try.underlying25 info3 rfl z1b_8 (by omega) u3 a9 1 [.int .i64 1] (fun _=>True) (fun _=>False) rfl rfl ?aP (fun _ hk=>hk.elim) ?aF ?aO ?aB ?aS ?aL ?_;(case aP=>exact rfl);(case aB=>exact z1b_0);(case aF=>exact (fun _ _=>trivial));(case aO=>exact (xR a4.out));(case aS=>exact (below_size z1b_0));(case aL=>have:=LMc35.out;omega);intro l2 m6 ho hb hg hat;rw [← Ny385.out] at ho;replace a0:=ak (Kd.S_after (ok:=(fun _=>True)) z1b_2 hg hat);replace a2:=ak (blk_grown (g:=a5) (o:=.cells #[.slice none 0 0,.slice none 0 0] 27 (0,0)) (xb a2.out) hg (Kd.R_ne a4.out a2.out z1b_8));replace a1:=ak (blk_grown (g:=a6) (o:=.cells #[u359000,.slice none 0 0] 27 (0,0)) (xb a1.out) hg (Kd.R_ne a4.out a1.out z1b_8));replace HB:=ak (hb);have g2:=ak (ho);clear a4;clear ho hb hg hat))
              go_roundg b1
              case measure=>have:=HK1.out;have:=HK2.out;have:=d0.out;have:=b7.out;omega
              case rel=>exact ⟨(y385),(wrap64 (a7+1)),z1b_3,H',⟨z1b_4⟩,⟨(xR g2.out)⟩,⟨z1b_1⟩,⟨(xb a2.out)⟩,⟨(xb a1.out)⟩,⟨z1b_0⟩⟩
             have g1:decide (3≤(wrap64 (a7-5)))=false:=dF_ g0
             clear g0
             replace H:=ok_ H
             obtain ⟨i6,H⟩:=H
             have LMc37:=ak i6
             clear i6
             obtain ⟨y388,hy388⟩ : ∃ y_:List Int,y_=(a9 ++ [0]):=⟨_,rfl⟩
             replace H:(spec_l20Pasted.l1 b1 a8 y388 (wrap64 (a7+1)) a3)=some (r1,r2):=by first|(rw [hy388];with_reducible exact H)|(have H2_:=(Option.bind_some _ _).symm.trans H;rw [hy388];with_reducible exact H2_)|(have H2_:=(Option.bind_some _ _).symm.trans H;with_reducible exact H2_)|with_reducible exact H|(rw [hy388];exact H)|exact H
             have Ny388:=ak hy388
             clear hy388
             have H':=ak H
             clear H
             go_wp2_with (first|((with_reducible refine gate_builtin (b:=.append) (xs:=#[.tmp 59,.tmp 61]) rfl ?_);at_builtin;refine Kd.R_append (Kd.int .i64) (w0:=w) w.heap.size rfl (.tmp 59) (.tmp 61) 25 3 (.int .i64 0) 8 rfl Try.underlying25 info3 rfl z1b_8 (by omega) u3 a9 0 [.int .i64 0] (fun _=>True) (fun _=>False) rfl rfl ?aP (fun _ hk=>hk.elim) ?aF ?aO ?aB ?aS ?aL ?_;(case aP=>exact rfl);(case aB=>exact z1b_0);(case aF=>exact (fun _ _=>trivial));(case aO=>exact (xR a4.out));(case aS=>exact (below_size z1b_0));(case aL=>have:=LMc37.out;omega);intro l3 m7 ho hb hg hat;rw [← Ny388.out] at ho;replace a0:=ak (Kd.S_after (ok:=(fun _=>True)) z1b_2 hg hat);replace a2:=ak (blk_grown (g:=a5) (o:=.cells #[.slice none 0 0,.slice none 0 0] 27 (0,0)) (xb a2.out) hg (Kd.R_ne a4.out a2.out z1b_8));replace a1:=ak (blk_grown (g:=a6) (o:=.cells #[u359000,.slice none 0 0] 27 (0,0)) (xb a1.out) hg (Kd.R_ne a4.out a1.out z1b_8));replace HB:=ak (hb);have g3:=ak (ho);clear a4;clear ho hb hg hat))
             go_roundg b1
             case measure=>have:=HK1.out;have:=HK2.out;have:=d0.out;have:=b7.out;omega
             case rel=>exact ⟨(y388),(wrap64 (a7+1)),z1b_3,H',⟨z1b_4⟩,⟨(xR g3.out)⟩,⟨z1b_1⟩,⟨(xb a2.out)⟩,⟨(xb a1.out)⟩,⟨z1b_0⟩⟩
            have f9:decide (3≤a8)=false:=dF_ f8
            clear f8
            replace H:=ok_ H
            obtain ⟨i7,H⟩:=H
            have LMc39:=ak i7
            clear i7
            obtain ⟨y391,hy391⟩ : ∃ y_:List Int,y_=(a9 ++ [0]):=⟨_,rfl⟩
            replace H:(spec_l20Pasted.l1 b1 a8 y391 (wrap64 (a7+1)) a3)=some (r1,r2):=by first|(rw [hy391];with_reducible exact H)|(have H2_:=(Option.bind_some _ _).symm.trans H;rw [hy391];with_reducible exact H2_)|(have H2_:=(Option.bind_some _ _).symm.trans H;with_reducible exact H2_)|with_reducible exact H|(rw [hy391];exact H)|exact H
            have Ny391:=ak hy391
            clear hy391
            have H':=ak H
            clear H
            go_wp2_with (first|((with_reducible refine gate_builtin (b:=.append) (xs:=#[.tmp 59,.tmp 61]) rfl ?_);at_builtin;refine Kd.R_append (Kd.int .i64) (w0:=w) w.heap.size rfl (.tmp 59) (.tmp 61) 25 3 (.int .i64 0) 8 rfl Try.underlying25 info3 rfl z1b_8 (by omega) u3 a9 0 [.int .i64 0] (fun _=>True) (fun _=>False) rfl rfl ?aP (fun _ hk=>hk.elim) ?aF ?aO ?aB ?aS ?aL ?_;(case aP=>exact rfl);(case aB=>exact z1b_0);(case aF=>exact (fun _ _=>trivial));(case aO=>exact (xR a4.out));(case aS=>exact (below_size z1b_0));(case aL=>have:=LMc39.out;omega);intro l4 m8 ho hb hg hat;rw [← Ny391.out] at ho;replace a0:=ak (Kd.S_after (ok:=(fun _=>True)) z1b_2 hg hat);replace a2:=ak (blk_grown (g:=a5) (o:=.cells #[.slice none 0 0,.slice none 0 0] 27 (0,0)) (xb a2.out) hg (Kd.R_ne a4.out a2.out z1b_8));replace a1:=ak (blk_grown (g:=a6) (o:=.cells #[u359000,.slice none 0 0] 27 (0,0)) (xb a1.out) hg (Kd.R_ne a4.out a1.out z1b_8));replace HB:=ak (hb);have g4:=ak (ho);clear a4;clear ho hb hg hat))
            go_roundg b1
            case measure=>have:=HK1.out;have:=HK2.out;have:=d0.out;have:=b7.out;omega
            case rel=>exact ⟨(y391),(wrap64 (a7+1)),z1b_3,H',⟨z1b_4⟩,⟨(xR g4.out)⟩,⟨z1b_1⟩,⟨(xb a2.out)⟩,⟨(xb a1.out)⟩,⟨z1b_0⟩⟩
           replace H:=ok_ H
           obtain ⟨i8,H⟩:=H
           have LMc41:=ak i8
           clear i8
           obtain ⟨y394,hy394⟩ : ∃ y_:List Int,y_=(a9 ++ [0]):=⟨_,rfl⟩
           replace H:(spec_l20Pasted.l1 b1 a8 y394 (wrap64 (a7+1)) a3)=some (r1,r2):=by first|(rw [hy394];with_reducible exact H)|(have H2_:=(Option.bind_some _ _).symm.trans H;rw [hy394];with_reducible exact H2_)|(have H2_:=(Option.bind_some _ _).symm.trans H;with_reducible exact H2_)|with_reducible exact H|(rw [hy394];exact H)|exact H
           have Ny394:=ak hy394
           clear hy394
           have H':=ak H
           clear H
           go_wp2_with (first|((with_reducible refine gate_builtin (b:=.append) (xs:=#[.tmp 59,.tmp 61]) rfl ?_);at_builtin;refine Kd.R_append (Kd.int .i64) (w0:=w) w.heap.size rfl (.tmp 59) (.tmp 61) 25 3 (.int .i64 0) 8 rfl Try.underlying25 info3 rfl z1b_8 (by omega) u3 a9 0 [.int .i64 0] (fun _=>True) (fun _=>False) rfl rfl ?aP (fun _ hk=>hk.elim) ?aF ?aO ?aB ?aS ?aL ?_;(case aP=>exact rfl);(case aB=>exact z1b_0);(case aF=>exact (fun _ _=>trivial));(case aO=>exact (xR a4.out));(case aS=>exact (below_size z1b_0));(case aL=>have:=LMc41.out;omega);intro l5 m9 ho hb hg hat;rw [← Ny394.out] at ho;replace a0:=ak (Kd.S_after (ok:=(fun _=>True)) z1b_2 hg hat);replace a2:=ak (blk_grown (g:=a5) (o:=.cells #[.slice none 0 0,.slice none 0 0] 27 (0,0)) (xb a2.out) hg (Kd.R_ne a4.out a2.out z1b_8));replace a1:=ak (blk_grown (g:=a6) (o:=.cells #[u359000,.slice none 0 0] 27 (0,0)) (xb a1.out) hg (Kd.R_ne a4.out a1.out z1b_8));replace HB:=ak (hb);have g5:=ak (ho);clear a4;clear ho hb hg hat))
           go_roundg b1
           case measure=>have:=HK1.out;have:=HK2.out;have:=d0.out;have:=b7.out;omega
           case rel=>exact ⟨(y394),(wrap64 (a7+1)),z1b_3,H',⟨z1b_4⟩,⟨(xR g5.out)⟩,⟨z1b_1⟩,⟨(xb a2.out)⟩,⟨(xb a1.out)⟩,⟨z1b_0⟩⟩
      replace H:=ok_ H
      obtain ⟨i9,H⟩:=H
      have LMc43:=ak i9
      clear i9
      obtain ⟨y365,hy365⟩ : ∃ y_:List (List Int),y_=(a3 ++ [a9]):=⟨_,rfl⟩
      replace H:(spec_l20Pasted.l0 k2 (wrap64 (a8+1)) y365)=some (r1,r2):=by first|(rw [hy365];with_reducible exact H)|(have H2_:=(Option.bind_some _ _).symm.trans H;rw [hy365];with_reducible exact H2_)|(have H2_:=(Option.bind_some _ _).symm.trans H;with_reducible exact H2_)|with_reducible exact H|(rw [hy365];exact H)|exact H
      have Ny365:=ak hy365
      clear hy365
      have H':=ak H
      clear H
      have j0:=b2.out
      have j1:=b0.out
      have b3:=cz20 a1.out
      have b4:=cz21 a1.out
      have b5:=blk_frozen a1.out 0
      have b6:=blk_frozen a1.out 1
      obtain ⟨g6,g7,h4⟩:=Kd.R_slice a4.out
      subst h4
      go_wp2_with (first|((with_reducible refine gate_builtin (b:=.append) (xs:=#[.tmp 64,.tmp 66]) rfl ?_);at_builtin;refine Kd.S_append (Kd.slice 3 (Kd.int .i64)) (w0:=w) w.heap.size rfl (.tmp 64) (.tmp 66) 24 25 (.slice none 0 0) 24 rfl Try.underlying24 info25 rfl z1b_8 (by omega) u359000 a3 a9 [.slice g6 a9.length g7] (fun _=>True) (fun k_=>some k_=(.slice g6 a9.length g7:Value).ownBlock) rfl rfl ?aP (fun k_ hk_=>((Kd.R_mono (ok':=fun k_=>((fun _=>True)) k_∧some k_≠(u359000:Value).ownBlock) (Kd.R_apart' (a4.out) (Kd.S_typed a0.out) z1b_8) (fun k_ hk=>⟨trivial,hk.2⟩))).1 k_ hk_.symm) ?aF ?aO ?aB ?aS ?aL ?_;(case aP=>exact Kd.M_row (Kd.R_mono (Kd.R_tight rfl (Kd.R_mono (ok':=fun k_=>((fun _=>True)) k_∧some k_≠(u359000:Value).ownBlock) (Kd.R_apart' (a4.out) (Kd.S_typed a0.out) z1b_8) (fun k_ hk=>⟨trivial,hk.2⟩))) (fun _ h_=>h_)));(case aB=>exact z1b_0);(case aF=>exact (fun _ _=>trivial));(case aO=>exact (by (with_reducible repeat (first|apply Kd.S_alloc|apply Kd.S_drewN|apply Kd.S_drew));exact Kd.S_mono a0.out (fun k_ hk=>⟨trivial,fun e_=>hk e_⟩)));(case aS=>exact (below_size z1b_0));(case aL=>have:=LMc43.out;omega);intro l6 n0 ho hb hg hat;rw [← Ny365.out] at ho;replace a2:=ak (blk_grown (g:=a5) (o:=.cells #[.slice none 0 0,.slice none 0 0] 27 (0,0)) (xb a2.out) hg (Kd.S_ne a0.out a2.out z1b_8));replace a1:=ak (blk_grown (g:=a6) (o:=.cells #[u359000,.slice none 0 0] 27 (0,0)) (xb a1.out) hg (Kd.S_ne a0.out a1.out z1b_8));replace HB:=ak (hb);have d8:=ak (ho);clear a0 a4;clear ho hb hg hat;obtain ⟨g8,g9,h5⟩:=Kd.S_slice d8.out;subst h5;have b3:=cz20 a1.out;have b4:=cz21 a1.out;have b5:=blk_frozen a1.out 0;have b6:=blk_frozen a1.out 1))
      go_roundg k2
      case measure=>have:=HK1.out;have:=HK2.out;omega
      case rel=>exact ⟨(wrap64 (a8+1)),(y365),(.slice g8 y365.length g9),z1b_3,H',⟨(by have:=HK1.out;have:=HK2.out;omega)⟩,⟨(by (with_reducible repeat (first|apply Kd.S_alloc|apply Kd.S_drewN|apply Kd.S_drew));exact Kd.S_mono (Kd.S_far (p:=⟨a6,0,none⟩) (Kd.S_types d8.out a1.out z1b_8) (fun _ hk=>hk.2) (.slice g8 y365.length g9)) (fun _ hk=>trivial))⟩,⟨(by (with_reducible repeat (first|refine blk_drewN ?_ _|refine blk_drew ?_|refine blk_alloc ?_ _));refine blk_far ?_ b0.out _;(with_reducible repeat (first|refine blk_drewN ?_ _|refine blk_drew ?_|refine blk_alloc ?_ _));exact a2.out)⟩,⟨(by (with_reducible repeat (first|refine blk_drewN ?_ _|refine blk_drew ?_|refine blk_alloc ?_ _));refine blk_put (cs:=#[u359000,.slice none 0 0]) ?_ 0 _ rfl;(with_reducible repeat (first|refine blk_drewN ?_ _|refine blk_drew ?_|refine blk_alloc ?_ _));exact a1.out)⟩,⟨z1b_0⟩⟩
   obtain ⟨y359,hy359⟩ : ∃ y_:List Int,y_=(([11,6,7,8,9,10,1,2,3,4,5,0]:List Int)):=⟨_,rfl⟩
   replace H:(some (a3,y359))=some (r1,r2):=by first|(rw [hy359];with_reducible exact H)|(have H2_:=(Option.bind_some _ _).symm.trans H;rw [hy359];with_reducible exact H2_)|(have H2_:=(Option.bind_some _ _).symm.trans H;with_reducible exact H2_)|with_reducible exact H|(rw [hy359];exact H)|exact H
   have Ny359:=ak hy359
   clear hy359
   simp only [Option.some.injEq,Prod.mk.injEq] at H
   obtain ⟨rfl,rfl⟩:=H
   go_wp2_with (first|((with_reducible refine gate_dst (N:=69) rfl ?_);refine Kd.R_lit (Kd.int .i64) _ 3 ?hg (N:=69) ?hd (xs:=([11,6,7,8,9,10,1,2,3,4,5,0]:List Int)) (inner:=[.int .i64 11,.int .i64 6,.int .i64 7,.int .i64 8,.int .i64 9,.int .i64 10,.int .i64 1,.int .i64 2,.int .i64 3,.int .i64 4,.int .i64 5,.int .i64 0]) (ok:=fun _=>True) (okp:=fun _=>True) ?hr ?hp (fun _ hk=>hk) trivial (Below.refl _ _) (Nat.le_refl _) (by simp) ?_;(case hd=>rfl);(case hg=>rfl);(case hr=>first|(go_simp;done)|(go_simp;rfl));(case hp=>exact (Reps.one (show Kd.M (Kd.int .i64) _ _ _ 11 [.int .i64 11] from rfl) (Reps.one (show Kd.M (Kd.int .i64) _ _ _ 6 [.int .i64 6] from rfl) (Reps.one (show Kd.M (Kd.int .i64) _ _ _ 7 [.int .i64 7] from rfl) (Reps.one (show Kd.M (Kd.int .i64) _ _ _ 8 [.int .i64 8] from rfl) (Reps.one (show Kd.M (Kd.int .i64) _ _ _ 9 [.int .i64 9] from rfl) (Reps.one (show Kd.M (Kd.int .i64) _ _ _ 10 [.int .i64 10] from rfl) (Reps.one (show Kd.M (Kd.int .i64) _ _ _ 1 [.int .i64 1] from rfl) (Reps.one (show Kd.M (Kd.int .i64) _ _ _ 2 [.int .i64 2] from rfl) (Reps.one (show Kd.M (Kd.int .i64) _ _ _ 3 [.int .i64 3] from rfl) (Reps.one (show Kd.M (Kd.int .i64) _ _ _ 4 [.int .i64 4] from rfl) (Reps.one (show Kd.M (Kd.int .i64) _ _ _ 5 [.int .i64 5] from rfl) (Reps.one (show Kd.M (Kd.int .i64) _ _ _ 0 [.int .i64 0] from rfl) (Reps.none _ _))))))))))))));intro l7 n1 ho51 hb hg_ hnew_;clear hg_ hnew_;(first|rw [← Ny359.out] at ho51|(simp only [Int.reduceToNat] at ho51;rw [← Ny359.out] at ho51));replace a0:=ak (Kd.S_elder' (xS a0.out) (Kd.R_base ho51) hb);have d9:=ak (Kd.R_lower ho51 (below_size z1b_0));replace a2:=ak (blk_below (g:=a5) (o:=.cells #[.slice none 0 0,.slice none 0 0] 27 (0,0)) (xb a2.out) hb);replace a1:=ak (blk_below (g:=a6) (o:=.cells #[u359000,.slice none 0 0] 27 (0,0)) (xb a1.out) hb);replace HB:=ak (below_step z1b_0 hb);clear hb ho51;obtain ⟨d2,d3,h6⟩:=Kd.R_slice d9.out;subst h6;have j4:=b2.out;have j5:=b0.out;have b3:=cz20 a1.out;have b4:=cz21 a1.out;have b5:=blk_frozen a1.out 0;have b6:=blk_frozen a1.out 1;obtain ⟨d5,d6,h7⟩:=Kd.S_slice a0.out;subst h7;have b3:=cz20 a2.out;have b4:=cz21 a2.out;have b5:=blk_frozen a2.out 0;have b6:=blk_frozen a2.out 1))
   refine bodyPost_ret (results_cell_row rfl _ _ a5 27 #[.slice d5 a3.length d6,.slice d2 y359.length d3] (0,0) _ rfl (by (with_reducible repeat (first|refine blk_drewN ?_ _|refine blk_drew ?_|refine blk_alloc ?_ _));refine blk_put (cs:=#[.slice d5 a3.length d6,.slice none 0 0]) ?_ 1 _ rfl;(with_reducible repeat (first|refine blk_drewN ?_ _|refine blk_drew ?_|refine blk_alloc ?_ _));refine blk_put (cs:=#[.slice none 0 0,.slice none 0 0]) ?_ 0 _ rfl;(with_reducible repeat (first|refine blk_drewN ?_ _|refine blk_drew ?_|refine blk_alloc ?_ _));refine blk_far ?_ b0.out _;(with_reducible repeat (first|refine blk_drewN ?_ _|refine blk_drew ?_|refine blk_alloc ?_ _));exact a2.out) Try.underlying27 rfl (by kernel_rfl)) rfl ?_
   exact ⟨_,_,(by first|rfl|(simp [errW_none,errW_some] <;> rfl)|(simp [*,errW_none,errW_some] <;> rfl)),(by (with_reducible repeat (first|apply Kd.S_alloc|apply Kd.S_drewN|apply Kd.S_drew));exact Kd.S_mono (Kd.S_far (p:=⟨a5,1,none⟩) (Kd.S_far (p:=⟨a5,0,none⟩) (Kd.S_far (p:=⟨a6,1,none⟩) (Kd.S_types (Kd.S_types a0.out a1.out z1b_8) a2.out z1b_8) (fun _ hk=>hk.1.2) (.slice d2 y359.length d3)) (fun _ hk=>hk.2) (.slice d5 a3.length d6)) (fun _ hk=>hk.2) (.slice d2 y359.length d3)) (fun _ hk=>hk.1.1.2)),(by (with_reducible repeat (first|apply Kd.R_alloc|apply Kd.R_drewN|apply Kd.R_drew));exact Kd.R_mono (Kd.R_far (p:=⟨a5,1,none⟩) (Kd.R_far (p:=⟨a5,0,none⟩) (Kd.R_far (p:=⟨a6,1,none⟩) (Kd.R_types (Kd.R_types d9.out a1.out z1b_8) a2.out z1b_8) (fun _ hk=>hk.1.2) (.slice d2 y359.length d3)) (fun _ hk=>hk.2) (.slice d5 a3.length d6)) (fun _ hk=>hk.2) (.slice d2 y359.length d3)) (fun _ hk=>trivial)),z1b_0⟩

end Go.Proofs.Ytacifhahfamipaa.P

namespace Go.Proofs.Ytacifhahfamipaa.P
open Go.RowKit Go.Proofs.YtacifhahfamipaaW.PrintWords Go.Proofs.YtacifhahfamipaaW.PrintLast Go.Proofs.YtacifhahfamipaaW.PrintMore
attribute [local go_sem] max2_int min2_int max_two min_two max_three min_three max_four min_four
set_option linter.unusedVariables false
set_option linter.unusedSimpArgs false
theorem z1d_2 {p:Prop} (h:p:=by repeat (first|(with_reducible first|exact HK.out|apply KeepBut.set_|apply keep_drewN|apply keep_drew|apply keep_alloc)|exact HK.out)):p:=h
theorem z1d_1 {p:Prop} (h:p:=by repeat (first|(with_reducible first|exact a6.out|apply IsS80.alloc|apply IsS80.drewN|apply IsS80.drew|apply IsS80.set_1)|exact a6.out)):p:=h
theorem z1d_0 {p:Prop} (h:p:=by repeat (first|(with_reducible first|exact HB.out|apply below_alloc|apply pw_below_drewN|apply below_drew1|refine below_set ?_ (IsS80.ge a6.out))|exact HB.out)):p:=h
set_option maxHeartbeats 8000000 in
set_option maxRecDepth 100000 in
theorem spec_l20Rd_pick.calls (k:Nat) (g:Nat) (s0_0:List Int) (s0_1:Int) (a1:Int) (r1:Int) (r2:Int) (w0 w:World) (hI:IsS80 w0 w g s0_0 s0_1) (hB:Below w0.heap.size w0 w) (h:spec_l20Rd_pick.f k s0_0 s0_1 a1=some (r1,r2)) :
 Calls Try.prog 62 #[.pointer (some ⟨g,0,none⟩),.int .i64 a1] w fun e w'=>e = .returned (.int .i64 r1)∧IsS80 w0 w' g s0_0 r2∧Below w0.heap.size w0 w'∧KeepBut w w' g none:=by
 have a6:=ak hI
 have HK:=ak (KeepBut.refl w g none)
 have HL:=ak hB.size
 clear hI
 have HW0:=ak hB.size
 have HB:=ak hB
 clear hB
 have H:(if a1<1 then (spec_l20Rd_pick.j0 k a1 true s0_0 (wrap64 (s0_1+1))) else (spec_l20Rd_pick.j0 k a1 ((s0_0.length:Int)==0) s0_0 (wrap64 (s0_1+1))))=some (r1,r2):=h
 clear h
 have b2:=ak H
 clear H
 obtain ⟨ASz4_0,cSz4_0,HGz4,hgz4,HSz4_0⟩:=a6.out
 have a0:=cellS80_0 HGz4
 have a2:=cellS80_1 HGz4
 have a3:=blk_frozen HGz4 1
 clear HGz4 hgz4
 go_enter Try.func62,Try.ntmps62
 go_upto_region 2 with (fail)
 repeat (go_quiet (fail);go_upto_region 2 with (fail))
 go_cut [24] (fun d7 wc=>∃ (kq:Nat) (a4:Bool),d7 = .bool a4∧Aside0 (spec_l20Rd_pick.j0 kq a1 a4 s0_0 (wrap64 (s0_1+1))=some (r1,r2))∧Aside0 (kq≤k)∧Aside0 (IsS80 w0 wc g s0_0 (wrap64 (s0_1+1)))∧Aside0 (KeepBut w wc g none)∧Aside0 (Below w0.heap.size w0 wc))
 case first =>
  have H:=b2.out
  clear b2
  replace H:=os_ H
  rcases H with ⟨a5,H⟩|⟨a5,H⟩
  ·
   (first|rw [a5]|(simp only [i64_w,i32_w];rw [a5])|skip)
   have H':=ak H
   clear H
   go_wp2
   repeat (go_quiet (fail);try go_wp2)
   go_meet
   case rel=>exact ⟨_,(true),(by first|rfl|(simp;done)|(simp [*];done)),H',⟨(by first|omega|exact Nat.le_refl _)⟩,⟨z1d_1⟩,⟨z1d_2⟩,⟨z1d_0⟩⟩
  (first|rw [a5]|(simp only [i64_w,i32_w];rw [a5])|skip)
  have H':=ak H
  clear H
  obtain ⟨ASz6_0,cSz6_0,HGz6,hgz6,HSz6_0⟩:=a6.out
  have a0:=cellS80_0 HGz6
  have a2:=cellS80_1 HGz6
  have a3:=blk_frozen HGz6 1
  clear HGz6 hgz6
  go_wp2
  repeat (go_quiet (fail);try go_wp2)
  go_meet
  case rel=>exact ⟨_,(((s0_0.length:Int)==0)),(by first|rfl|(simp;done)|(simp [*];done)),H',⟨(by first|omega|exact Nat.le_refl _)⟩,⟨z1d_1⟩,⟨z1d_2⟩,⟨z1d_0⟩⟩
 case rest =>
  clear b2
  try clear a0
  try clear a2
  try clear a3
  obtain ⟨kq,a4,rfl,HA,d8,a6,HK,HB⟩:=hcut
  cases kq with
  | zero=>exact absurd HA.out (by simp [spec_l20Rd_pick.j0])
  | succ d9 =>
   have H:=HA.out
   clear HA
   simp only [spec_l20Rd_pick.j0] at H
   replace H:=ox_ H
   rcases H with ⟨rfl,H⟩|⟨rfl,H⟩
   ·
    simp only [Option.some.injEq,Prod.mk.injEq] at H
    obtain ⟨rfl,rfl⟩:=H
    go_wp2
    repeat (go_quiet (fail);try go_wp2)
    go_ret
    exact ⟨(by first|rfl|(simp [errW_none,errW_some] <;> rfl)|(simp [*,errW_none,errW_some] <;> rfl)),z1d_1,z1d_0,z1d_2⟩
   replace H:=os_ H
   rcases H with ⟨b0,H⟩|⟨b0,H⟩
   ·
    obtain ⟨ji9,hji9⟩ : ∃ j_:Int,(wrap64 ((wrap64 (s0_1+1))-1))=j_:=⟨_,rfl⟩
    replace H:(if 0≤(ji9) then (if a1=0 then (none) else (some (Int.tmod (wrap64 (rd s0_0 (ji9))) a1,(wrap64 (s0_1+1))))) else (none))=some (r1,r2):=by first|(rw [hji9] at H;exact H)|(simp only [hji9] at H ⊢;exact H)
    (try rw [hji9] at b0)
    have hji9w:(IntKind.i64.wrap ((wrap64 (s0_1+1))-1))=ji9:=(i64_w _).trans hji9
    replace H:=od_ H
    obtain ⟨b5,H⟩:=H
    replace H:=op_ H
    rcases H with ⟨b3,H⟩|⟨b3,H⟩
    ·
     exact absurd H (by simp)
    have b6:=bv_ b3
    have b7:=bw_ b3
    simp only [Option.some.injEq,Prod.mk.injEq] at H
    obtain ⟨rfl,rfl⟩:=H
    obtain ⟨ASz12_0,cSz12_0,HGz12,hgz12,HSz12_0⟩:=a6.out
    have a0:=cellS80_0 HGz12
    have a2:=cellS80_1 HGz12
    have a3:=blk_frozen HGz12 1
    clear HGz12 hgz12
    have a7:0≤((ji9):Int):=oa_
    have q104:(ji9)<(s0_0.length:Int):=oa_
    obtain ⟨ad104,e104,hx104_0⟩:=Kd.at_int HSz12_0 (ji9) a7 q104
    cases e104
    replace hx104_0:=pw_cell_below HB.out hx104_0
    replace a7:=eq_true a7
    replace q104:=eq_true q104
    go_wp2
    repeat (go_quiet (fail);try go_wp2)
    go_ret
    exact ⟨(by first|rfl|(simp [errW_none,errW_some] <;> rfl)|(simp only [← hji9];first|rfl|(simp [errW_none,errW_some] <;> rfl))|(simp [*,errW_none,errW_some] <;> rfl)),z1d_1,z1d_0,z1d_2⟩
   replace H:=op_ H
   rcases H with ⟨b1,H⟩|⟨b1,H⟩
   ·
    exact absurd H (by simp)
   have b8:=bv_ b1
   have b9:=bw_ b1
   have d0 : ¬(s0_0 = []):=fun h_=>b1 (by rw [h_];rfl)
   obtain ⟨ji14,hji14⟩ : ∃ j_:Int,(Int.tmod (wrap64 ((wrap64 (s0_1+1))-1)) (s0_0.length:Int))=j_:=⟨_,rfl⟩
   replace H:(if 0≤(ji14) then (if (ji14)<(s0_0.length:Int) then (if 0≤(Int.tmod (wrap64 ((wrap64 ((wrap64 ((wrap64 (s0_1+1))-1))*7))+3)) (s0_0.length:Int)) then (if (Int.tmod (wrap64 ((wrap64 ((wrap64 ((wrap64 (s0_1+1))-1))*7))+3)) (s0_0.length:Int))<(s0_0.length:Int) then (if a1=0 then (none) else (some (Int.tmod (Go.bits .xor .i64 (wrap64 ((wrap64 ((wrap64 ((wrap64 ((wrap64 (rd s0_0 (ji14)))*131))+(wrap64 ((wrap64 (rd s0_0 (Int.tmod (wrap64 ((wrap64 ((wrap64 ((wrap64 (s0_1+1))-1))*7))+3)) (s0_0.length:Int))))*1117))))+(wrap64 ((wrap64 ((wrap64 (s0_1+1))-1))*29))))+(wrap64 ((wrap64 (Int.tdiv (wrap64 ((wrap64 (s0_1+1))-1)) (s0_0.length:Int)))*53)))) (wrap64 (Int.tdiv (wrap64 ((wrap64 ((wrap64 ((wrap64 ((wrap64 (rd s0_0 (ji14)))*131))+(wrap64 ((wrap64 (rd s0_0 (Int.tmod (wrap64 ((wrap64 ((wrap64 ((wrap64 (s0_1+1))-1))*7))+3)) (s0_0.length:Int))))*1117))))+(wrap64 ((wrap64 ((wrap64 (s0_1+1))-1))*29))))+(wrap64 ((wrap64 (Int.tdiv (wrap64 ((wrap64 (s0_1+1))-1)) (s0_0.length:Int)))*53)))) 64))) a1,(wrap64 (s0_1+1))))) else (none)) else (none)) else (none)) else (none))=some (r1,r2):=by first|(rw [hji14] at H;exact H)|(simp only [hji14] at H ⊢;exact H)
   replace H:=od2 H
   obtain ⟨d1,d2,H⟩:=H
   obtain ⟨ji17,hji17⟩ : ∃ j_:Int,(Int.tmod (wrap64 ((wrap64 ((wrap64 ((wrap64 (s0_1+1))-1))*7))+3)) (s0_0.length:Int))=j_:=⟨_,rfl⟩
   replace H:(if 0≤(ji17) then (if (ji17)<(s0_0.length:Int) then (if a1=0 then (none) else (some (Int.tmod (Go.bits .xor .i64 (wrap64 ((wrap64 ((wrap64 ((wrap64 ((wrap64 (rd s0_0 (ji14)))*131))+(wrap64 ((wrap64 (rd s0_0 (ji17)))*1117))))+(wrap64 ((wrap64 ((wrap64 (s0_1+1))-1))*29))))+(wrap64 ((wrap64 (Int.tdiv (wrap64 ((wrap64 (s0_1+1))-1)) (s0_0.length:Int)))*53)))) (wrap64 (Int.tdiv (wrap64 ((wrap64 ((wrap64 ((wrap64 ((wrap64 (rd s0_0 (ji14)))*131))+(wrap64 ((wrap64 (rd s0_0 (ji17)))*1117))))+(wrap64 ((wrap64 ((wrap64 (s0_1+1))-1))*29))))+(wrap64 ((wrap64 (Int.tdiv (wrap64 ((wrap64 (s0_1+1))-1)) (s0_0.length:Int)))*53)))) 64))) a1,(wrap64 (s0_1+1))))) else (none)) else (none))=some (r1,r2):=by first|(rw [hji17] at H;exact H)|(simp only [hji17] at H ⊢;exact H)
   replace H:=od2 H
   obtain ⟨d3,d4,H⟩:=H
   replace H:=op_ H
   rcases H with ⟨b4,H⟩|⟨b4,H⟩
   ·
    exact absurd H (by simp)
   have d5:=bv_ b4
   have d6:=bw_ b4
   simp only [Option.some.injEq,Prod.mk.injEq] at H
   obtain ⟨rfl,rfl⟩:=H
   obtain ⟨ASz21_0,cSz21_0,HGz21,hgz21,HSz21_0⟩:=a6.out
   have a0:=cellS80_0 HGz21
   have a2:=cellS80_1 HGz21
   have a3:=blk_frozen HGz21 1
   clear HGz21 hgz21
   have a8:0≤((ji14):Int):=oa_
   have q105:(ji14)<(s0_0.length:Int):=oa_
   obtain ⟨ad105,e105,hx105_0⟩:=Kd.at_int HSz21_0 (ji14) a8 q105
   cases e105
   replace hx105_0:=pw_cell_below HB.out hx105_0
   replace a8:=eq_true a8
   replace q105:=eq_true q105
   have a9:0≤((ji17):Int):=oa_
   have q106:(ji17)<(s0_0.length:Int):=oa_
   obtain ⟨ad106,e106,hx106_0⟩:=Kd.at_int HSz21_0 (ji17) a9 q106
   obtain rfl:=ij_ e106
   replace hx106_0:=pw_cell_below HB.out hx106_0
   replace a9:=eq_true a9
   replace q106:=eq_true q106
   go_wp2
   repeat (go_quiet (fail);try go_wp2)
   go_ret
   exact ⟨(by first|rfl|(simp [errW_none,errW_some] <;> rfl)|(simp only [← hji14,← hji17];first|rfl|(simp [errW_none,errW_some] <;> rfl))|(simp [*,errW_none,errW_some] <;> rfl)),z1d_1,z1d_0,z1d_2⟩

end Go.Proofs.Ytacifhahfamipaa.P

namespace Go.Proofs.Ytacifhahfamipaa.P
open Go.RowKit Go.Proofs.YtacifhahfamipaaW.PrintWords Go.Proofs.YtacifhahfamipaaW.PrintLast Go.Proofs.YtacifhahfamipaaW.PrintMore
attribute [local go_sem] max2_int min2_int max_two min_two max_three min_three max_four min_four
set_option linter.unusedVariables false
set_option linter.unusedSimpArgs false
theorem z1c_2 {p:Prop} (h:p:=by repeat (first|(with_reducible first|exact HK.out|apply KeepBut.set_|apply keep_drewN|apply keep_drew|apply keep_alloc)|exact HK.out)):p:=h
theorem z1c_1 {p:Prop} (h:p:=by repeat (first|(with_reducible first|exact a2.out|apply IsS80.alloc|apply IsS80.drewN|apply IsS80.drew|apply IsS80.set_1)|exact a2.out)):p:=h
theorem z1c_0 {p:Prop} (h:p:=by repeat (first|(with_reducible first|exact HB.out|apply below_alloc|apply pw_below_drewN|apply below_drew1|refine below_set ?_ (IsS80.ge a2.out))|exact HB.out)):p:=h
set_option maxHeartbeats 8000000 in
set_option maxRecDepth 100000 in
theorem spec_l20Rd_odd.calls (k:Nat) (g:Nat) (s0_0:List Int) (s0_1:Int) (a1:Int) (r1:Bool) (r2:Int) (w0 w:World) (hI:IsS80 w0 w g s0_0 s0_1) (hB:Below w0.heap.size w0 w) (h:spec_l20Rd_odd.f k s0_0 s0_1 a1=some (r1,r2)) :
 Calls Try.prog 95 #[.pointer (some ⟨g,0,none⟩),.int .i64 a1] w fun e w'=>e = .returned (.bool r1)∧IsS80 w0 w' g s0_0 r2∧Below w0.heap.size w0 w'∧KeepBut w w' g none:=by
 have a2:=ak hI
 have HK:=ak (KeepBut.refl w g none)
 have HL:=ak hB.size
 clear hI
 have HW0:=ak hB.size
 have HB:=ak hB
 clear hB
 have H:(if a1>0 then ((spec_l20Rd_pick.f k s0_0 s0_1 a1).bind fun a0=>(some ((a0.1==(wrap64 (a1-1))),a0.2))) else (some (false,s0_1)))=some (r1,r2):=h
 clear h
 replace H:=op_ H
 rcases H with ⟨c3,H⟩|⟨c3,H⟩
 ·
  have a3:decide (0<a1)=true:=dT_ c3
  clear c3
  obtain ⟨⟨a4,a5⟩,A4,H⟩:=bd_ H
  try dsimp only at H
  simp only [Option.some.injEq,Prod.mk.injEq] at H
  obtain ⟨rfl,rfl⟩:=H
  go_enter Try.func95,Try.ntmps95
  go_wp2_with (first|(go_at_call 62;(with_reducible refine (spec_l20Rd_pick.calls k g s0_0 s0_1 a1 a4 a5 w0 _ z1c_1 z1c_0 A4.out).mono ?_);rintro e w' ⟨rfl,hi,hb,hk⟩;replace HK:=ak (KeepBut.trans z1c_2 hk (.inl rfl));replace HB:=ak (hb);replace a2:=ak (hi);(try clear hb);(try clear hb2);(try clear hk);(try clear hi)))
  go_ret
  exact ⟨(by first|rfl|(simp [errW_none,errW_some] <;> rfl)|(simp [*,errW_none,errW_some] <;> rfl)),z1c_1,z1c_0,z1c_2⟩
 have a3:decide (0<a1)=false:=dF_ c3
 clear c3
 simp only [Option.some.injEq,Prod.mk.injEq] at H
 obtain ⟨rfl,rfl⟩:=H
 go_enter Try.func95,Try.ntmps95
 go_wp2
 go_ret
 exact ⟨(by first|rfl|(simp [errW_none,errW_some] <;> rfl)|(simp [*,errW_none,errW_some] <;> rfl)),z1c_1,z1c_0,z1c_2⟩

end Go.Proofs.Ytacifhahfamipaa.P

namespace Go.Proofs.Ytacifhahfamipaa.P
open Go.RowKit Go.Proofs.YtacifhahfamipaaW.PrintWords Go.Proofs.YtacifhahfamipaaW.PrintLast Go.Proofs.YtacifhahfamipaaW.PrintMore
attribute [local go_sem] max2_int min2_int max_two min_two max_three min_three max_four min_four
set_option linter.unusedVariables false
set_option linter.unusedSimpArgs false
def spec_l20Rename.T14:Bool × List (List Nat × List Nat):=(true,[([],[]),([],[]),([1],[1]),([],[]),([],[]),([3,4],[3,4]),([5],[5]),([2,6],[2,6]),([7],[7]),([],[]),([],[]),([9,10],[9,10]),([11],[11]),([8,12],[8,12]),([13],[13]),([14],[14]),([0,15],[0,15]),([16,16,0,1,2,3,4,5,6,7,8,9,10,11,12,13,14,15,16],[0,16])])
def spec_l20Rename.B14:List Nat:=[0,0,2,0,0,24,56,126,254,0,0,1536,3584,8190,16382,32766,65535,131071]
theorem spec_l20Rename.tab14:rtab .any (opsOf Try.f111 14)=spec_l20Rename.T14:=by kernel_rfl
theorem spec_l20Rename.bits14:waitsOk spec_l20Rename.T14.2 spec_l20Rename.B14=true:=by kernel_rfl
def spec_l20Rename.T16:Bool × List (List Nat × List Nat):=(true,[([],[]),([0],[0]),([],[]),([],[]),([3],[3]),([],[]),([],[]),([5,6],[5,6]),([7],[7]),([4,8],[4,8]),([9],[9]),([2,10],[2,10]),([11],[11]),([12],[12]),([1,13],[1,13]),([0,1,2,3,4,5,6,7,8,9,10,11,12,13,14],[]),([15,14,14,0,1,2,3,4,5,6,7,8,9,10,11,12,13,14],[14,15])])
def spec_l20Rename.B16:List Nat:=[0,1,0,0,8,0,0,96,224,504,1016,2044,4092,8188,16383,32767,65535]
theorem spec_l20Rename.tab16:rtab .any (opsOf Try.f111 16)=spec_l20Rename.T16:=by kernel_rfl
theorem spec_l20Rename.bits16:waitsOk spec_l20Rename.T16.2 spec_l20Rename.B16=true:=by kernel_rfl
theorem z1e_9 {p:Prop} (h:p:=by decide):p:=h
theorem z1e_8 {p:Prop} (h:p:=by (with_reducible repeat (first|apply Kd.S_alloc|apply Kd.S_drewN|apply Kd.S_drew));exact Kd.S_mono a3.out (fun _ hk=>⟨hk.1.1,⟨hk.2,hk.1.2⟩⟩)):p:=h
theorem z1e_7 {p:Prop} (h:p:=by first|rfl|(simp;done)|(simp [*];done)):p:=h
theorem z1e_6 {p:Prop} (h:p:=by (with_reducible repeat (first|refine blk_drewN ?_ _|refine blk_drew ?_|refine blk_alloc ?_ _));refine blk_far ?_ b3.out _;(with_reducible repeat (first|refine blk_drewN ?_ _|refine blk_drew ?_|refine blk_alloc ?_ _));exact a2.out):p:=h
theorem z1e_5 {p:Prop} (h:p:=by (with_reducible repeat (first|refine blk_drewN ?_ _|refine blk_drew ?_|refine blk_alloc ?_ _));refine blk_far ?_ b4.out _;(with_reducible repeat (first|refine blk_drewN ?_ _|refine blk_drew ?_|refine blk_alloc ?_ _));exact a4.out):p:=h
theorem z1e_4 {p:Prop} (h:p:=by repeat (first|(with_reducible first|exact HB.out|apply below_alloc|apply pw_below_drewN|apply below_drew1)|exact HB.out)):p:=h
theorem z1e_3 {p:Prop} (h:p:=by (with_reducible repeat (first|apply Kd.R_alloc|apply Kd.R_drewN|apply Kd.R_drew));exact Kd.R_mono b1.out (fun _ hk=>⟨hk.2,hk.1⟩)):p:=h
theorem z1e_2 {p:Prop} (h:p:=by repeat (first|(with_reducible first|exact HB.out|apply below_alloc|apply pw_below_drewN|apply below_drew1|refine below_set ?_ e1.out)|exact HB.out)):p:=h
theorem z1e_1 {p:Prop} (h:p:=by repeat (first|(with_reducible first|exact HB.out|apply below_alloc|apply pw_below_drewN|apply below_drew1|refine below_set ?_ e1.out|refine below_set ?_ e6.out)|exact HB.out)):p:=h
theorem z1e_0 {p:Prop} (h:p:=by repeat (first|(with_reducible first|exact HB.out|apply below_alloc|apply pw_below_drewN|apply below_drew1|refine below_set ?_ e1.out|refine below_set ?_ e6.out|refine below_set ?_ g5.out)|exact HB.out)):p:=h
set_option maxHeartbeats 8000000 in
set_option maxRecDepth 100000 in
theorem spec_l20Rename.calls (k:Nat) (A0_0:Option Addr) (c0_0:Nat) (l0_0:List (List Int)) (A0_1:Option Addr) (c0_1:Nat) (l0_1:List Int) (A1:Option Addr) (c1:Nat) (l1:List Int) (r1:List (List Int)) (r2:List Int) (w:World) (hr0_0:Kd.C (Kd.slice 3 (Kd.int .i64)) w A0_0 l0_0.length l0_0) (hc0_0:l0_0.length≤c0_0) (hr0_1:Kd.C (Kd.int .i64) w A0_1 l0_1.length l0_1) (hc0_1:l0_1.length≤c0_1) (hr1:Kd.C (Kd.int .i64) w A1 l1.length l1) (hc1:l1.length≤c1) (h:spec_l20Rename.f k l0_0 l0_1 l1=some (r1,r2)) :
 Calls Try.prog 111 #[.agg #[.slice A0_0 l0_0.length c0_0,.slice A0_1 l0_1.length c0_1],.slice A1 l1.length c1] w fun e w'=>∃ v0_ v1_:Value,e = .returned (.agg #[v0_,v1_])∧Kd.S (Kd.slice 3 (Kd.int .i64)) 25 w' w.heap.size (fun k_=>some k_≠(v1_:Value).ownBlock) v0_ r1∧Kd.R (Kd.int .i64) 3 w' w.heap.size (fun _=>True) v1_ r2∧Below w.heap.size w w':=by
 have hu27:=Try.underlying27
 have HR0_0:=ak hr0_0
 have i6:=ak hc0_0
 clear hr0_0 hc0_0
 have HR0_1:=ak hr0_1
 have i7:=ak hc0_1
 clear hr0_1 hc0_1
 have HR1:=ak hr1
 have n8:=ak hc1
 clear hr1 hc1
 have HB:=ak (Below.refl w.heap.size w)
 have H:(if 0≤(l1.length:Int) then (if ((l1.length:Int):Int).toNat≤35184372088832 then (spec_l20Rename.l0 k l1 (List.replicate ((l1.length:Int):Int).toNat 0) 0 l0_0 l0_1) else (none)) else (none))=some (r1,r2):=h
 clear h
 replace H:=ok_ H
 obtain ⟨c3,H⟩:=H
 have f0:=eq_true c3
 have f1:decide (0≤(l1.length:Int))=true:=dT_ c3
 clear c3
 replace H:=ok_ H
 obtain ⟨c4,H⟩:=H
 have f2:=eq_true c4
 have f3:decide (((l1.length:Int):Int).toNat≤35184372088832)=true:=dT_ c4
 clear c4
 obtain ⟨y399,hy399⟩ : ∃ y_:List Int,y_=(List.replicate ((l1.length:Int):Int).toNat 0):=⟨_,rfl⟩
 replace H:(spec_l20Rename.l0 k l1 y399 0 l0_0 l0_1)=some (r1,r2):=by first|(rw [hy399];with_reducible exact H)|(have H2_:=(Option.bind_some _ _).symm.trans H;rw [hy399];with_reducible exact H2_)|(have H2_:=(Option.bind_some _ _).symm.trans H;with_reducible exact H2_)|with_reducible exact H|(rw [hy399];exact H)|exact H
 have Ny399:=ak hy399
 clear hy399
 have H':=ak H
 clear H
 go_enter Try.func111,Try.ntmps111
 go_wp2_with (first|((with_reducible refine gate_dst (N:=2) rfl ?_);refine bx_ (N:=2) (cs:=#[.slice A0_0 l0_0.length c0_0,.slice A0_1 l0_1.length c0_1]) (t:=27) ?_;intro a9 hg w5 hbox hb;have a2:=ak (hbox);have i8:=ak ((by rw [hg];exact (below_size z1e_4):w.heap.size≤a9));have e1:=ak ((by rw [hg];exact (below_size z1e_4):w.heap.size≤a9));replace HB:=ak (below_step z1e_4 hb);clear hb hbox hg)|((with_reducible refine gate_dst (N:=4) rfl ?_);refine bx_ (N:=4) (cs:=#[.slice none 0 0,.slice none 0 0]) (t:=27) ?_;intro b0 hg w6 hbox hb;have a4:=ak (hbox);have i9:=ak ((by rw [hg];exact (below_size z1e_2):w.heap.size≤b0));have e6:=ak ((by rw [hg];exact (below_size z1e_2):w.heap.size≤b0));replace HB:=ak (below_step z1e_2 hb);have d9:=ak ((by rw [hg];exact Nat.ne_of_lt (blk_lt (g:=a9) (o:=.cells #[.slice A0_0 l0_0.length c0_0,.slice A0_1 l0_1.length c0_1] 27 (0,0)) (xb a2.out)):a9≠b0));have e0:=ak ((by rw [hg];exact Nat.ne_of_gt (blk_lt (g:=a9) (o:=.cells #[.slice A0_0 l0_0.length c0_0,.slice A0_1 l0_1.length c0_1] 27 (0,0)) (xb a2.out)):b0≠a9));replace a2:=ak (blk_below (g:=a9) (o:=.cells #[.slice A0_0 l0_0.length c0_0,.slice A0_1 l0_1.length c0_1] 27 (0,0)) (xb a2.out) hb);clear hb hbox hg)|((with_reducible refine gate_dst (N:=13) rfl ?_);refine Kd.R_make (Kd.int .i64) _ 3 rfl (N:=13) rfl 25 _ _ rfl (l1.length:Int) rfl rfl Try.underlying25 (.int .i64 0) 8 info3 rfl z1e_9 (by omega) 0 (ok:=fun _=>True) (okp:=fun _=>True) rfl (fun _ hk=>hk) trivial (oa_) (Nat.le_trans (Nat.mul_le_mul_right _ (oa_:(l1.length:Int).toNat≤35184372088832)) (by omega)) (Below.refl _ _) (Nat.le_refl _) ?_;intro b6 w7 ho8 hb hg_ hnew_;clear hg_ hnew_;(first|rw [← Ny399.out] at ho8|(simp only [Int.reduceToNat] at ho8;rw [← Ny399.out] at ho8));have g6:=ak (Kd.R_lower ho8 (below_size z1e_1));replace a2:=ak (blk_below (g:=a9) (o:=.cells #[.slice A0_0 l0_0.length c0_0,.slice A0_1 l0_1.length c0_1] 27 (0,0)) (xb a2.out) hb);replace a4:=ak (blk_below (g:=b0) (o:=.cells #[.slice none 0 0,.slice none 0 0] 27 (0,0)) (xb a4.out) hb);replace HB:=ak (below_step z1e_1 hb);clear hb ho8))
 go_loopg [6] k (fun kq v6 w'=>∃ (b5:List Int) (b7:Int),v6 = .int .i64 b7∧Aside0 (spec_l20Rename.l0 kq l1 b5 b7 l0_0 l0_1=some (r1,r2))∧Aside0 (kq≤k)∧Aside0 (Kd.R (Kd.int .i64) 3 w' w.heap.size (fun _=>True) b6 b5)∧Aside0 (w'.heap[a9]?=some (.cells #[(.slice A0_0 l0_0.length c0_0),(.slice A0_1 l0_1.length c0_1)] 27 (0,0)))∧Aside0 (w'.heap[b0]?=some (.cells #[(.slice none 0 0),(.slice none 0 0)] 27 (0,0)))∧Aside0 (Below w.heap.size w w'))
 case atStart=>exact ⟨(y399),(0),z1e_7,H',⟨Nat.le_refl _⟩,⟨(xR g6.out)⟩,⟨(xb a2.out)⟩,⟨(xb a4.out)⟩,⟨z1e_1⟩⟩
 case round =>
  clear H'
  try clear c1
  try clear c3
  try clear f0
  try clear f1
  try clear c4
  try clear f2
  try clear f3
  obtain ⟨b5,b7,rfl,HA,HK1,b1,a2,a4,HB⟩:=hrel
  cases gk with
  | zero=>exact absurd HA.out (by simp [spec_l20Rename.l0])
  | succ k1 =>
   have H:=HA.out
   clear HA
   simp only [spec_l20Rename.l0] at H
   replace H:=os_ H
   rcases H with ⟨f4,H⟩|⟨f4,H⟩
   ·
    replace H:=od3 H
    obtain ⟨j0,j1,j2,H⟩:=H
    obtain ⟨y403,hy403⟩ : ∃ y_:List Int,y_=(b5.set ((rd l1 b7):Int).toNat b7):=⟨_,rfl⟩
    replace H:(spec_l20Rename.l0 k1 l1 y403 (wrap64 (b7+1)) l0_0 l0_1)=some (r1,r2):=by first|(rw [hy403];with_reducible exact H)|(have H2_:=(Option.bind_some _ _).symm.trans H;rw [hy403];with_reducible exact H2_)|(have H2_:=(Option.bind_some _ _).symm.trans H;with_reducible exact H2_)|with_reducible exact H|(rw [hy403];exact H)|exact H
    have Ny403:=ak hy403
    clear hy403
    have H':=ak H
    clear H
    have f5:0≤(b7:Int):=oa_
    have q402:b7<(l1.length:Int):=oa_
    obtain ⟨ad402,e402,hx402_0⟩:=Kd.at_int HR1.out b7 f5 q402
    cases e402
    replace hx402_0:=(HB.out.cell (World.block_lt_of_cell? w _ hx402_0)).trans hx402_0
    replace f5:=eq_true f5
    replace q402:=eq_true q402
    have h8:0≤((rd l1 b7):Int):=oa_
    have q13:((rd l1 b7):Int)<((b5.length:Int):Int):=oa_
    obtain ⟨go13,h9,g7,g8,gl13,cl13,HG13⟩:=Kd.R_form b1.out (by omega)
    (first|cases g7|(injection g7 with ea_ en_ ec_;(first|subst ea_|(injection ea_ with ea_;subst ea_));subst ec_;clear en_))
    have GB13:=ak g8
    have GG13:=ak HG13
    clear g8 gl13 HG13
    obtain ⟨hx13_0,hf13_0⟩:=Kd.R_celln 0 b1.out ((rd l1 b7):Int) h8 q13
    replace h8:=eq_true h8
    replace q13:=eq_true q13
    have HP14:=Kd.R_putg b1.out ((rd l1 b7):Int) b7
    go_wp2_with (first|((with_reducible refine gate_store (t:=3) (p:=26) rfl ?_);refine store_event (t:=3) (p:=26) (v:=?vo_w15) (w1:=(wr.setCell ⟨go13,((rd l1 b7):Int).toNat,none⟩ (.int .i64 b7))) ?hg ?ho ?hn ?hr ?_;(case ho=>rfl);(case hg=>rfl);(case hn=>rfl);(case hr=>first|(go_simp;done)|(go_simp;rfl));intro i0 hw;have hg:wr.grownBy i0 (some go13):=(by rw [hw];exact HP14.2);have hp_:Kd.R (Kd.int .i64) 3 i0 w.heap.size (fun _=>True) (.slice (some ⟨go13,0,none⟩) b5.length h9) y403:=(by rw [hw,Ny403.out];exact HP14.1);clear HP14;replace a2:=ak (blk_grown (g:=a9) (o:=.cells #[.slice A0_0 l0_0.length c0_0,.slice A0_1 l0_1.length c0_1] 27 (0,0)) (xb a2.out) hg (Kd.R_ne b1.out a2.out z1e_9));replace a4:=ak (blk_grown (g:=b0) (o:=.cells #[.slice none 0 0,.slice none 0 0] 27 (0,0)) (xb a4.out) hg (Kd.R_ne b1.out a4.out z1e_9));replace b1:=ak (hp_);replace HB:=ak ((by rw [hw];exact below_set (HB.out) GB13.out:Below w.heap.size w i0));clear hg hw hp_))
    go_roundg k1
    case measure=>have:=HK1.out;omega
    case rel=>exact ⟨(y403),(wrap64 (b7+1)),z1e_7,H',⟨(by have:=HK1.out;omega)⟩,⟨(xR b1.out)⟩,⟨(xb a2.out)⟩,⟨(xb a4.out)⟩,⟨z1e_1⟩⟩
   have H':=ak H
   clear H
   go_wp2_with (first|((with_reducible refine gate_dst (N:=7) rfl ?_);refine bx_ (N:=7) (cs:=#[.slice none 0 0,.slice none 0 0]) (t:=27) ?_;intro a7 hg n9 hbox hb;replace b1:=ak (Kd.R_below (xR b1.out) hb);have a1:=ak (hbox);have j3:=ak ((by rw [hg];exact (below_size z1e_1):w.heap.size≤a7));have g5:=ak ((by rw [hg];exact (below_size z1e_1):w.heap.size≤a7));replace HB:=ak (below_step z1e_1 hb);have b3:=ak ((by rw [hg];exact Nat.ne_of_lt (blk_lt (g:=a9) (o:=.cells #[.slice A0_0 l0_0.length c0_0,.slice A0_1 l0_1.length c0_1] 27 (0,0)) (xb a2.out)):a9≠a7));have d0:=ak ((by rw [hg];exact Nat.ne_of_gt (blk_lt (g:=a9) (o:=.cells #[.slice A0_0 l0_0.length c0_0,.slice A0_1 l0_1.length c0_1] 27 (0,0)) (xb a2.out)):a7≠a9));replace a2:=ak (blk_below (g:=a9) (o:=.cells #[.slice A0_0 l0_0.length c0_0,.slice A0_1 l0_1.length c0_1] 27 (0,0)) (xb a2.out) hb);have b4:=ak ((by rw [hg];exact Nat.ne_of_lt (blk_lt (g:=b0) (o:=.cells #[.slice none 0 0,.slice none 0 0] 27 (0,0)) (xb a4.out)):b0≠a7));have d1:=ak ((by rw [hg];exact Nat.ne_of_gt (blk_lt (g:=b0) (o:=.cells #[.slice none 0 0,.slice none 0 0] 27 (0,0)) (xb a4.out)):a7≠b0));replace a4:=ak (blk_below (g:=b0) (o:=.cells #[.slice none 0 0,.slice none 0 0] 27 (0,0)) (xb a4.out) hb);clear hb hbox hg;have j4:=d0.out;have j5:=b3.out;have j6:=d1.out;have j7:=b4.out;have d4:=cz20 a1.out;have d5:=cz21 a1.out;have d6:=blk_frozen a1.out 0;have d7:=blk_frozen a1.out 1))
   go_loopg [8] k1 (fun kq v8 w'=>∃ (a8:Int) (a6:List (List Int)) (a5:List Int) (u405000:Value) (u405001:Value),v8 = .int .i64 a8∧Aside0 (spec_l20Rename.l1 kq l1 b5 a8 l0_0 l0_1 a6 a5=some (r1,r2))∧Aside0 (kq≤k1)∧Aside0 (Kd.R (Kd.int .i64) 3 w' w.heap.size (fun k_=>some k_≠(u405001:Value).ownBlock) b6 b5)∧Aside0 (Kd.S (Kd.slice 3 (Kd.int .i64)) 25 w' w.heap.size (fun k_=>some k_≠(b6:Value).ownBlock∧some k_≠(u405001:Value).ownBlock) u405000 a6)∧Aside0 (Kd.R (Kd.int .i64) 3 w' w.heap.size (fun k_=>some k_≠(b6:Value).ownBlock) u405001 a5)∧Aside0 (w'.heap[a9]?=some (.cells #[(.slice A0_0 l0_0.length c0_0),(.slice A0_1 l0_1.length c0_1)] 27 (0,0)))∧Aside0 (w'.heap[b0]?=some (.cells #[(.slice none 0 0),(.slice none 0 0)] 27 (0,0)))∧Aside0 (w'.heap[a7]?=some (.cells #[u405000,u405001] 27 (0,0)))∧Aside0 (Below w.heap.size w w'))
   case atStart=>exact ⟨(0),(([]:List (List Int))),(([]:List Int)),(.slice none 0 0),(.slice none 0 0),z1e_7,H',⟨Nat.le_refl _⟩,⟨(by (with_reducible repeat (first|apply Kd.R_alloc|apply Kd.R_drewN|apply Kd.R_drew));exact Kd.R_mono (Kd.R_far (p:=⟨a7,1,none⟩) (Kd.R_far (p:=⟨a7,0,none⟩) (Kd.R_types b1.out a1.out z1e_9) (fun _ hk=>hk.2) (.slice none 0 0)) (fun _ hk=>hk.2) (.slice none 0 0)) (fun _ hk=>(by simp [Value.ownBlock])))⟩,⟨(by first|exact Kd.S_nil _ _ _ _ _|exact Kd.N_nil _ _ _ _ _|exact Kd.V_nil _ _ _ _ _|exact Kd.Q_nil _ _ _ _ _|exact Kd.R_nil _ _ _ _ _)⟩,⟨(by first|exact Kd.R_nil _ _ _ _ _|exact Kd.N_nil _ _ _ _ _|exact Kd.V_nil _ _ _ _ _|exact Kd.Q_nil _ _ _ _ _|exact Kd.S_nil _ _ _ _ _)⟩,⟨(by (with_reducible repeat (first|refine blk_drewN ?_ _|refine blk_drew ?_|refine blk_alloc ?_ _));refine blk_far ?_ b3.out _;(with_reducible repeat (first|refine blk_drewN ?_ _|refine blk_drew ?_|refine blk_alloc ?_ _));refine blk_far ?_ b3.out _;(with_reducible repeat (first|refine blk_drewN ?_ _|refine blk_drew ?_|refine blk_alloc ?_ _));exact a2.out)⟩,⟨(by (with_reducible repeat (first|refine blk_drewN ?_ _|refine blk_drew ?_|refine blk_alloc ?_ _));refine blk_far ?_ b4.out _;(with_reducible repeat (first|refine blk_drewN ?_ _|refine blk_drew ?_|refine blk_alloc ?_ _));refine blk_far ?_ b4.out _;(with_reducible repeat (first|refine blk_drewN ?_ _|refine blk_drew ?_|refine blk_alloc ?_ _));exact a4.out)⟩,⟨(by (with_reducible repeat (first|refine blk_drewN ?_ _|refine blk_drew ?_|refine blk_alloc ?_ _));refine blk_put (cs:=#[.slice none 0 0,.slice none 0 0]) ?_ 1 _ rfl;(with_reducible repeat (first|refine blk_drewN ?_ _|refine blk_drew ?_|refine blk_alloc ?_ _));refine blk_put (cs:=#[.slice none 0 0,.slice none 0 0]) ?_ 0 _ rfl;(with_reducible repeat (first|refine blk_drewN ?_ _|refine blk_drew ?_|refine blk_alloc ?_ _));exact a1.out)⟩,⟨z1e_0⟩⟩
   case round =>
    clear H'
    try clear c1
    try clear c3
    try clear f0
    try clear f1
    try clear c4
    try clear f2
    try clear f3
    try clear c9
    try clear f4
    try clear d4
    try clear d5
    try clear d6
    try clear d7
    obtain ⟨a8,a6,a5,u405000,u405001,rfl,HA,HK2,b1,a3,a0,a2,a4,a1,HB⟩:=hrel
    cases gk with
    | zero=>exact absurd HA.out (by simp [spec_l20Rename.l1])
    | succ k2 =>
     have H:=HA.out
     clear HA
     simp only [spec_l20Rename.l1] at H
     replace H:=os_ H
     rcases H with ⟨e7,H⟩|⟨e7,H⟩
     ·
      obtain ⟨y405,hy405⟩ : ∃ y_:List Int,y_=(([]:List Int)):=⟨_,rfl⟩
      replace H:(spec_l20Rename.l2 k2 l1 b5 a8 y405 0 l0_0 l0_1 a6 a5)=some (r1,r2):=by first|(rw [hy405];with_reducible exact H)|(have H2_:=(Option.bind_some _ _).symm.trans H;rw [hy405];with_reducible exact H2_)|(have H2_:=(Option.bind_some _ _).symm.trans H;with_reducible exact H2_)|with_reducible exact H|(rw [hy405];exact H)|exact H
      have Ny405:=ak hy405
      clear hy405
      have H':=ak H
      clear H
      go_wp2_with (first|((with_reducible refine gate_dst (N:=34) rfl ?_);refine Kd.R_lit (Kd.int .i64) _ 3 ?hg (N:=34) ?hd (xs:=([]:List Int)) (inner:=[]) (ok:=fun _=>True) (okp:=fun _=>True) ?hr ?hp (fun _ hk=>hk) trivial (Below.refl _ _) (Nat.le_refl _) (by simp) ?_;(case hd=>rfl);(case hg=>rfl);(case hr=>first|(go_simp;done)|(go_simp;rfl));(case hp=>exact (Reps.none _ _));intro n0 o0 ho22 hb hg_ hnew_;clear hg_ hnew_;(first|rw [← Ny405.out] at ho22|(simp only [Int.reduceToNat] at ho22;rw [← Ny405.out] at ho22));replace a3:=ak (Kd.S_elder' (xS a3.out) (Kd.R_base ho22) hb);have g9:=ak (Kd.R_lower (Kd.R_new' (Kd.R_new' ho22 (Kd.R_lt (xR b1.out))) (Kd.R_lt (xR a0.out))) (below_size z1e_0));replace b1:=ak (Kd.R_elder' (xR b1.out) (Kd.R_base ho22) hb);replace a0:=ak (Kd.R_elder' (xR a0.out) (Kd.R_base ho22) hb);replace a2:=ak (blk_below (g:=a9) (o:=.cells #[.slice A0_0 l0_0.length c0_0,.slice A0_1 l0_1.length c0_1] 27 (0,0)) (xb a2.out) hb);replace a4:=ak (blk_below (g:=b0) (o:=.cells #[.slice none 0 0,.slice none 0 0] 27 (0,0)) (xb a4.out) hb);replace a1:=ak (blk_below (g:=a7) (o:=.cells #[u405000,u405001] 27 (0,0)) (xb a1.out) hb);replace HB:=ak (below_step z1e_0 hb);clear hb ho22))
      go_loopg [9,10] k2 (fun kq v9 n1 w'=>∃ (d8:List Int) (b2:Int),n1 = .int .i64 b2∧Aside0 (spec_l20Rename.l2 kq l1 b5 a8 d8 b2 l0_0 l0_1 a6 a5=some (r1,r2))∧Aside0 (kq≤k2)∧Aside0 (Kd.R (Kd.int .i64) 3 w' w.heap.size (fun k_=>some k_≠(v9:Value).ownBlock∧some k_≠(u405001:Value).ownBlock) b6 b5)∧Aside0 (Kd.R (Kd.int .i64) 3 w' w.heap.size (fun k_=>some k_≠(b6:Value).ownBlock∧some k_≠(u405001:Value).ownBlock) v9 d8)∧Aside0 (Kd.S (Kd.slice 3 (Kd.int .i64)) 25 w' w.heap.size (fun k_=>some k_≠(b6:Value).ownBlock∧some k_≠(v9:Value).ownBlock∧some k_≠(u405001:Value).ownBlock) u405000 a6)∧Aside0 (Kd.R (Kd.int .i64) 3 w' w.heap.size (fun k_=>some k_≠(b6:Value).ownBlock∧some k_≠(v9:Value).ownBlock) u405001 a5)∧Aside0 (w'.heap[a9]?=some (.cells #[(.slice A0_0 l0_0.length c0_0),(.slice A0_1 l0_1.length c0_1)] 27 (0,0)))∧Aside0 (w'.heap[b0]?=some (.cells #[(.slice none 0 0),(.slice none 0 0)] 27 (0,0)))∧Aside0 (w'.heap[a7]?=some (.cells #[u405000,u405001] 27 (0,0)))∧Aside0 (Below w.heap.size w w'))
      case atStart=>exact ⟨(y405),(0),z1e_7,H',⟨Nat.le_refl _⟩,⟨z1e_3⟩,⟨(by (with_reducible repeat (first|apply Kd.R_alloc|apply Kd.R_drewN|apply Kd.R_drew));exact Kd.R_mono g9.out (fun _ hk=>⟨hk.1.2,hk.2⟩))⟩,⟨z1e_8⟩,⟨(xR a0.out)⟩,⟨(xb a2.out)⟩,⟨(xb a4.out)⟩,⟨(xb a1.out)⟩,⟨z1e_0⟩⟩
      case round =>
       clear H'
       try clear c1
       try clear c3
       try clear f0
       try clear f1
       try clear c4
       try clear f2
       try clear f3
       try clear c9
       try clear f4
       try clear o1
       try clear e7
       try clear d4
       try clear d5
       try clear d6
       try clear d7
       obtain ⟨d8,b2,rfl,HA,HK3,b1,d3,a3,a0,a2,a4,a1,HB⟩:=hrel
       cases gk with
       | zero=>exact absurd HA.out (by simp [spec_l20Rename.l2])
       | succ k3 =>
        have H:=HA.out
        clear HA
        simp only [spec_l20Rename.l2] at H
        replace H:=os_ H
        rcases H with ⟨h0,H⟩|⟨h0,H⟩
        ·
         replace H:=od6 H
         obtain ⟨j8,j9,k0,k4,k5,k6,H⟩:=H
         replace H:=od_ H
         obtain ⟨k7,H⟩:=H
         replace H:=ok_ H
         obtain ⟨k8,H⟩:=H
         have LMc31:=ak k8
         clear k8
         obtain ⟨y412,hy412⟩ : ∃ y_:List Int,y_=(d8 ++ [rd (rd_L1 l0_0 (rd l1 a8)) (rd l1 b2)]):=⟨_,rfl⟩
         replace H:(spec_l20Rename.l2 k3 l1 b5 a8 y412 (wrap64 (b2+1)) l0_0 l0_1 a6 a5)=some (r1,r2):=by first|(rw [hy412];with_reducible exact H)|(have H2_:=(Option.bind_some _ _).symm.trans H;rw [hy412];with_reducible exact H2_)|(have H2_:=(Option.bind_some _ _).symm.trans H;with_reducible exact H2_)|with_reducible exact H|(rw [hy412];exact H)|exact H
         have Ny412:=ak hy412
         clear hy412
         have H':=ak H
         clear H
         try go_wp2
         replace b1:=ak (Kd.R_drew b1.out)
         replace d3:=ak (Kd.R_drew d3.out)
         replace a3:=ak (Kd.S_drew a3.out)
         replace a0:=ak (Kd.R_drew a0.out)
         replace a2:=ak (blk_drew a2.out)
         replace a4:=ak (blk_drew a4.out)
         replace a1:=ak (blk_drew a1.out)
         replace HB:=ak (below_drew1 HB.out)
         have f6:0≤(a8:Int):=oa_
         have q408:a8<(l1.length:Int):=oa_
         obtain ⟨ad408,e408,hx408_0⟩:=Kd.at_int HR1.out a8 f6 q408
         have hw408_0:=hx408_0
         cases e408
         replace hx408_0:=(HB.out.cell (World.block_lt_of_cell? w _ hx408_0)).trans hx408_0
         replace f6:=eq_true f6
         replace q408:=eq_true q408
         have f7:0≤((rd l1 a8):Int):=oa_
         have q409:(rd l1 a8)<(l0_0.length:Int):=oa_
         obtain ⟨ad409,i1,f8,e409,hx409_0,hl409_0,hi409_0⟩:=at_L1 HR0_0.out (rd l1 a8) f7 q409
         have hw409_0:=hx409_0
         cases e409
         replace hx409_0:=(HB.out.cell (World.block_lt_of_cell? w _ hx409_0)).trans hx409_0
         have HR409_0:=ak hi409_0
         have h7:=ak hl409_0
         clear hi409_0 hl409_0
         replace f7:=eq_true f7
         replace q409:=eq_true q409
         have f9:0≤(b2:Int):=oa_
         have q410:b2<(l1.length:Int):=oa_
         obtain ⟨ad410,e410,hx410_0⟩:=Kd.at_int HR1.out b2 f9 q410
         have hw410_0:=hx410_0
         obtain rfl:=ij_ e410
         replace hx410_0:=(HB.out.cell (World.block_lt_of_cell? w _ hx410_0)).trans hx410_0
         replace f9:=eq_true f9
         replace q410:=eq_true q410
         have g0:0≤((rd l1 b2):Int):=oa_
         have q411:(rd l1 b2)<((rd_L1 l0_0 (rd l1 a8)).length:Int):=oa_
         obtain ⟨ad411,e411,hx411_0⟩:=Kd.at_int HR409_0.out (rd l1 b2) g0 q411
         have hw411_0:=hx411_0
         cases e411
         replace hx411_0:=(HB.out.cell (World.block_lt_of_cell? w _ hx411_0)).trans hx411_0
         replace g0:=eq_true g0
         replace q411:=eq_true q411
         refine start_ (n:=18) (S:=fun w'=>w'.cell? ⟨a9,0,none⟩=some (.slice (some ad409) l0_0.length c0_0)∧w'.cell? ⟨a9,1,none⟩=some (.slice A0_1 l0_1.length c0_1)∧w'.cell? (ad408.add (a8).toNat)=some (.int .i64 (rd l1 a8))∧w'.cell? (ad409.add ((rd l1 a8)).toNat)=some (.slice (some ad411) (rd_L1 l0_0 (rd l1 a8)).length f8)∧w'.cell? (ad408.add (b2).toNat)=some (.int .i64 (rd l1 b2))∧w'.cell? (ad411.add ((rd l1 b2)).toNat)=some (.int .i64 (rd (rd_L1 l0_0 (rd l1 a8)) (rd l1 b2)))) (ds:=[]) (bA 18 0) (by kernel_rfl) rfl rfl ⟨(blk_cell a2.out 0).trans rfl,(blk_cell a2.out 1).trans rfl,((HB.out.cell (World.block_lt_of_cell? w _ hw408_0)).trans hw408_0),((HB.out.cell (World.block_lt_of_cell? w _ hw409_0)).trans hw409_0),((HB.out.cell (World.block_lt_of_cell? w _ hw410_0)).trans hw410_0),((HB.out.cell (World.block_lt_of_cell? w _ hw411_0)).trans hw411_0)⟩ (fun hHeld=>?_);refine with_tabW spec_l20Rename.tab14 spec_l20Rename.bits14 (fun HT_ HW_=>?_)
         generalize wr.drew=o2 at b1 d3 a3 a0 a2 a4 a1 HB HR409_0 hx408_0 hx409_0 hx410_0 hx411_0 hHeld ⊢
         refine pu_ (i:=0) (N:=some 41) (bA 18 1) ?_
         refine pu_ (i:=1) (N:=some 42) (bA 18 3) ?_
         refine pu_ (i:=3) (N:=some 44) (bA 18 11) ?_
         refine pu_ (i:=4) (N:=some 45) (bA 18 27) ?_
         refine pu_ (i:=5) (N:=some 46) (bA 18 59) ?_
         refine pu_ (i:=9) (N:=some 50) (bA 18 571) ?_
         refine pu_ (i:=10) (N:=some 51) (bA 18 1595) ?_
         refine pu_ (i:=11) (N:=some 52) (bA 18 3643) ?_
         refine tk_ (i:=2) (N:=some 43) (bA 18 3647) ?_
         refine tk_ (i:=6) (N:=some 47) (bA 18 3711) ?_
         refine pu_ (i:=7) (N:=some 48) (bA 18 3839) ?_
         refine tk_ (i:=8) (N:=some 49) (bA 18 4095) ?_
         refine tk_ (i:=12) (N:=some 53) (bA 18 8191) ?_
         refine pu_ (i:=13) (N:=some 54) (bA 18 16383) ?_
         refine tk_ (i:=14) (N:=some 55) (bA 18 32767) ?_
         refine one_ (i:=15) (N:=some 56) (bA 18 65535) rfl rfl (one_of HT_.out (by kernel_rfl)) z1e_9 (fun K hK=>?_)
         refine value_ (w1:=?_) (v:=?_) (by rfl) rfl ?_ ?_
         rotate_left 2
         ·
          go_simp
          constructor
          ·
           rfl
          rfl
         refine hK.out _ _ ⟨(blk_cell (blk_alloc a2.out _) 0).trans rfl,(blk_cell (blk_alloc a2.out _) 1).trans rfl,(World.cell?_alloc_lt _ _ _ (World.block_lt_of_cell? _ _ (((HB.out.cell (World.block_lt_of_cell? w _ hw408_0)).trans hw408_0)))).trans (((HB.out.cell (World.block_lt_of_cell? w _ hw408_0)).trans hw408_0)),(World.cell?_alloc_lt _ _ _ (World.block_lt_of_cell? _ _ (((HB.out.cell (World.block_lt_of_cell? w _ hw409_0)).trans hw409_0)))).trans (((HB.out.cell (World.block_lt_of_cell? w _ hw409_0)).trans hw409_0)),(World.cell?_alloc_lt _ _ _ (World.block_lt_of_cell? _ _ (((HB.out.cell (World.block_lt_of_cell? w _ hw410_0)).trans hw410_0)))).trans (((HB.out.cell (World.block_lt_of_cell? w _ hw410_0)).trans hw410_0)),(World.cell?_alloc_lt _ _ _ (World.block_lt_of_cell? _ _ (((HB.out.cell (World.block_lt_of_cell? w _ hw411_0)).trans hw411_0)))).trans (((HB.out.cell (World.block_lt_of_cell? w _ hw411_0)).trans hw411_0))⟩ (fun hHeld=>?_)
         clear hK K
         refine no_ (N:=some 56) ?_
         refine one_ (i:=16) (N:=some 57) (bA 18 131071) rfl rfl (one_of HT_.out (by kernel_rfl)) z1e_9 (fun K hK=>?_)
         refine Kd.R_append_step (Kd.int .i64) (w0:=w) w.heap.size (by rfl) (.tmp 41) (.tmp 56) 25 3 (.int .i64 0) 8 rfl Try.underlying25 info3 rfl z1e_9 (by omega) u9 d8 (rd (rd_L1 l0_0 (rd l1 a8)) (rd l1 b2)) [.int .i64 (rd (rd_L1 l0_0 (rd l1 a8)) (rd l1 b2))] (fun k_=>some k_≠(b6:Value).ownBlock∧some k_≠(u405001:Value).ownBlock) (fun _=>False) rfl rfl ?aP (fun _ hk=>hk.elim) ?aF ?aO ?aB ?aS ?aL ?_
         (case aP=>exact rfl)
         (case aB=>exact z1e_0)
         (case aF=>exact (fun k_ hk=>⟨Kd.fresh' (Kd.R_lt (xR b1.out)) k_ hk,Kd.fresh' (Kd.R_lt (xR a0.out)) k_ hk⟩))
         (case aO=>exact (xR d3.out))
         (case aS=>exact (below_size z1e_0))
         (case aL=>have:=LMc31.out;omega)
         intro n2 o3 ho hb hg hat
         rw [← Ny412.out] at ho
         replace b1:=ak (Kd.R_after (ok:=(fun k_=>some k_≠(u405001:Value).ownBlock)) z1e_3 hg hat)
         replace a3:=ak (Kd.S_after (ok:=(fun k_=>some k_≠(b6:Value).ownBlock∧some k_≠(u405001:Value).ownBlock)) (by (with_reducible repeat (first|apply Kd.S_alloc|apply Kd.S_drewN|apply Kd.S_drew));exact Kd.S_mono a3.out (fun _ hk=>⟨⟨hk.1,hk.2.2⟩,hk.2.1⟩)) hg hat)
         replace a0:=ak (Kd.R_after (ok:=(fun k_=>some k_≠(b6:Value).ownBlock)) (xR a0.out) hg hat)
         replace a2:=ak (blk_grown (g:=a9) (o:=.cells #[.slice (some ad409) l0_0.length c0_0,.slice A0_1 l0_1.length c0_1] 27 (0,0)) (xb a2.out) hg (Kd.R_ne d3.out a2.out z1e_9))
         replace a4:=ak (blk_grown (g:=b0) (o:=.cells #[.slice none 0 0,.slice none 0 0] 27 (0,0)) (xb a4.out) hg (Kd.R_ne d3.out a4.out z1e_9))
         replace a1:=ak (blk_grown (g:=a7) (o:=.cells #[u405000,u405001] 27 (0,0)) (xb a1.out) hg (Kd.R_ne d3.out a1.out z1e_9))
         replace HB:=ak (hb)
         have h1:=ak (ho)
         clear d3 ho hb hg hat
         refine hK.out _ _ ⟨(blk_cell a2.out 0).trans rfl,(blk_cell a2.out 1).trans rfl,((HB.out.cell (World.block_lt_of_cell? w _ hw408_0)).trans hw408_0),((HB.out.cell (World.block_lt_of_cell? w _ hw409_0)).trans hw409_0),((HB.out.cell (World.block_lt_of_cell? w _ hw410_0)).trans hw410_0),((HB.out.cell (World.block_lt_of_cell? w _ hw411_0)).trans hw411_0)⟩ (fun hHeld=>?_)
         clear hK K
         refine no_ (N:=some 57) ?_
         refine pu_ (i:=17) (N:=some 9) (bA 18 262143) ?_
         refine done_ (done_of HT_.out (by kernel_rfl)) ?_
         try go_wp2
         go_roundg k3
         case measure=>have:=HK1.out;have:=HK2.out;have:=HK3.out;omega
         case rel=>exact ⟨(y412),(wrap64 (b2+1)),z1e_7,H',⟨(by have:=HK1.out;have:=HK2.out;have:=HK3.out;omega)⟩,⟨z1e_3⟩,⟨(xR h1.out)⟩,⟨z1e_8⟩,⟨(xR a0.out)⟩,⟨(xb a2.out)⟩,⟨(xb a4.out)⟩,⟨(xb a1.out)⟩,⟨z1e_0⟩⟩
        replace H:=ok_ H
        obtain ⟨k9,H⟩:=H
        have LMc34:=ak k9
        clear k9
        obtain ⟨y415,hy415⟩ : ∃ y_:List (List Int),y_=(a6 ++ [d8]):=⟨_,rfl⟩
        replace H:(if 0≤a8 then (if a8<(l1.length:Int) then (if 0≤(rd l1 a8) then (if (rd l1 a8)<(l0_1.length:Int) then (if 0≤(rd l0_1 (rd l1 a8)) then (if (rd l0_1 (rd l1 a8))<(b5.length:Int) then (if a5.length<17592186044416 then (spec_l20Rename.l1 k3 l1 b5 (wrap64 (a8+1)) l0_0 l0_1 y415 (a5 ++ [rd b5 (rd l0_1 (rd l1 a8))])) else (none)) else (none)) else (none)) else (none)) else (none)) else (none)) else (none))=some (r1,r2):=by first|(rw [hy415];with_reducible exact H)|(have H2_:=(Option.bind_some _ _).symm.trans H;rw [hy415];with_reducible exact H2_)|(have H2_:=(Option.bind_some _ _).symm.trans H;with_reducible exact H2_)|with_reducible exact H|(rw [hy415];exact H)|exact H
        have Ny415:=ak hy415
        clear hy415
        replace H:=od6 H
        obtain ⟨l3,l4,l5,l6,l7,l8,H⟩:=H
        replace H:=ok_ H
        obtain ⟨l9,H⟩:=H
        have LMc41:=ak l9
        clear l9
        obtain ⟨y421,hy421⟩ : ∃ y_:List Int,y_=(a5 ++ [rd b5 (rd l0_1 (rd l1 a8))]):=⟨_,rfl⟩
        replace H:(spec_l20Rename.l1 k3 l1 b5 (wrap64 (a8+1)) l0_0 l0_1 y415 y421)=some (r1,r2):=by first|(rw [hy421];with_reducible exact H)|(have H2_:=(Option.bind_some _ _).symm.trans H;rw [hy421];with_reducible exact H2_)|(have H2_:=(Option.bind_some _ _).symm.trans H;with_reducible exact H2_)|with_reducible exact H|(rw [hy421];exact H)|exact H
        have Ny421:=ak hy421
        clear hy421
        have H':=ak H
        clear H
        have m0:=d0.out
        have m1:=b3.out
        have m2:=d1.out
        have m3:=b4.out
        have d4:=cz20 a1.out
        have d5:=cz21 a1.out
        have d6:=blk_frozen a1.out 0
        have d7:=blk_frozen a1.out 1
        obtain ⟨h2,h3,i2⟩:=Kd.R_slice d3.out
        subst i2
        try go_wp2_with (first|((with_reducible refine gate_builtin (b:=.append) (xs:=#[.tmp 59,.tmp 61]) rfl ?_);at_builtin;refine Kd.S_append (Kd.slice 3 (Kd.int .i64)) (w0:=w) w.heap.size rfl (.tmp 59) (.tmp 61) 24 25 (.slice none 0 0) 24 rfl Try.underlying24 info25 rfl z1e_9 (by omega) u405000 a6 d8 [.slice h2 d8.length h3] (fun k_=>some k_≠(b6:Value).ownBlock∧some k_≠(u405001:Value).ownBlock) (fun k_=>some k_=(.slice h2 d8.length h3:Value).ownBlock) rfl rfl ?aP (fun k_ hk_=>((Kd.R_mono (ok':=fun k_=>((fun k_=>some k_≠(b6:Value).ownBlock∧some k_≠(u405001:Value).ownBlock)) k_∧some k_≠(u405000:Value).ownBlock) (Kd.R_apart' (d3.out) (Kd.S_typed a3.out) z1e_9) (fun k_ hk=>⟨⟨hk.1.1,hk.1.2⟩,hk.2⟩))).1 k_ hk_.symm) ?aF ?aO ?aB ?aS ?aL ?_;(case aP=>exact Kd.M_row (Kd.R_mono (Kd.R_tight rfl (Kd.R_mono (ok':=fun k_=>((fun k_=>some k_≠(b6:Value).ownBlock∧some k_≠(u405001:Value).ownBlock)) k_∧some k_≠(u405000:Value).ownBlock) (Kd.R_apart' (d3.out) (Kd.S_typed a3.out) z1e_9) (fun k_ hk=>⟨⟨hk.1.1,hk.1.2⟩,hk.2⟩))) (fun _ h_=>h_)));(case aB=>exact z1e_0);(case aF=>exact (fun k_ hk=>⟨Kd.fresh' (Kd.R_lt (xR b1.out)) k_ hk,Kd.fresh' (Kd.R_lt (xR a0.out)) k_ hk⟩));(case aO=>exact (by (with_reducible repeat (first|apply Kd.S_alloc|apply Kd.S_drewN|apply Kd.S_drew));exact Kd.S_mono a3.out (fun k_ hk=>⟨⟨hk.1,hk.2.2⟩,fun e_=>hk.2.1 e_⟩)));(case aS=>exact (below_size z1e_0));(case aL=>have:=LMc34.out;omega);intro n3 e8 ho hb hg hat;rw [← Ny415.out] at ho;replace b1:=ak (Kd.R_over' (xR b1.out) (Kd.S_typed (xS a3.out)) z1e_9 hg);replace a0:=ak (Kd.R_over' (xR a0.out) (Kd.S_typed (xS a3.out)) z1e_9 hg);replace a2:=ak (blk_grown (g:=a9) (o:=.cells #[.slice A0_0 l0_0.length c0_0,.slice A0_1 l0_1.length c0_1] 27 (0,0)) (xb a2.out) hg (Kd.S_ne a3.out a2.out z1e_9));replace a4:=ak (blk_grown (g:=b0) (o:=.cells #[.slice none 0 0,.slice none 0 0] 27 (0,0)) (xb a4.out) hg (Kd.S_ne a3.out a4.out z1e_9));replace a1:=ak (blk_grown (g:=a7) (o:=.cells #[u405000,u405001] 27 (0,0)) (xb a1.out) hg (Kd.S_ne a3.out a1.out z1e_9));replace HB:=ak (hb);have d2:=ak (ho);clear a3 d3;clear ho hb hg hat;obtain ⟨b8,b9,i3⟩:=Kd.S_slice d2.out;subst i3;have d4:=cz20 a1.out;have d5:=cz21 a1.out;have d6:=blk_frozen a1.out 0;have d7:=blk_frozen a1.out 1))
        have n0_:Aside0 (Kd.R (Kd.int .i64) 3 (e8.setCell ⟨a7,0,none⟩ (.slice b8 y415.length b9)) w.heap.size (fun k_=>some k_≠(u405001:Value).ownBlock) b6 b5):=⟨(by (with_reducible repeat (first|apply Kd.R_alloc|apply Kd.R_drewN|apply Kd.R_drew));exact Kd.R_mono (Kd.R_far (p:=⟨a7,0,none⟩) (Kd.R_types b1.out a1.out z1e_9) (fun _ hk=>hk.2) (.slice b8 y415.length b9)) (fun _ hk=>hk.1.2))⟩
        have n1_:Aside0 (Kd.R (Kd.int .i64) 3 (e8.setCell ⟨a7,0,none⟩ (.slice b8 y415.length b9)) w.heap.size (fun k_=>some k_≠(b6:Value).ownBlock) u405001 a5):=⟨(by (with_reducible repeat (first|apply Kd.R_alloc|apply Kd.R_drewN|apply Kd.R_drew));exact Kd.R_mono (Kd.R_far (p:=⟨a7,0,none⟩) (Kd.R_types a0.out a1.out z1e_9) (fun _ hk=>hk.2) (.slice b8 y415.length b9)) (fun _ hk=>hk.1.1))⟩
        have n2_:Aside0 (Kd.S (Kd.slice 3 (Kd.int .i64)) 25 (e8.setCell ⟨a7,0,none⟩ (.slice b8 y415.length b9)) w.heap.size (fun k_=>some k_≠(b6:Value).ownBlock∧some k_≠(u405001:Value).ownBlock) (.slice b8 y415.length b9) y415):=⟨(by (with_reducible repeat (first|apply Kd.S_alloc|apply Kd.S_drewN|apply Kd.S_drew));exact Kd.S_mono (Kd.S_far (p:=⟨a7,0,none⟩) (Kd.S_types d2.out a1.out z1e_9) (fun _ hk=>hk.2) (.slice b8 y415.length b9)) (fun _ hk=>⟨hk.1.1,hk.1.2⟩))⟩
        have n3_:Aside0 ((e8.setCell ⟨a7,0,none⟩ (.slice b8 y415.length b9)).heap[a9]?=some (.cells #[.slice A0_0 l0_0.length c0_0,.slice A0_1 l0_1.length c0_1] 27 (0,0))):=⟨z1e_6⟩
        have n4_:Aside0 ((e8.setCell ⟨a7,0,none⟩ (.slice b8 y415.length b9)).heap[b0]?=some (.cells #[.slice none 0 0,.slice none 0 0] 27 (0,0))):=⟨z1e_5⟩
        have n5_:Aside0 ((e8.setCell ⟨a7,0,none⟩ (.slice b8 y415.length b9)).heap[a7]?=some (.cells #[.slice b8 y415.length b9,u405001] 27 (0,0))):=⟨(by (with_reducible repeat (first|refine blk_drewN ?_ _|refine blk_drew ?_|refine blk_alloc ?_ _));refine blk_put (cs:=#[u405000,u405001]) ?_ 0 _ rfl;(with_reducible repeat (first|refine blk_drewN ?_ _|refine blk_drew ?_|refine blk_alloc ?_ _));exact a1.out)⟩
        have n6_:Aside0 (Below w.heap.size w (e8.setCell ⟨a7,0,none⟩ (.slice b8 y415.length b9))):=⟨z1e_0⟩
        (try clear b1)
        (try clear a0)
        (try clear d2)
        (try clear a2)
        (try clear a4)
        (try clear a1)
        (try clear HB)
        generalize (e8.setCell ⟨a7,0,none⟩ (.slice b8 y415.length b9))=n4 at n0_ n1_ n2_ n3_ n4_ n5_ n6_ ⊢
        have b1:=n0_
        have a0:=n1_
        have d2:=n2_
        have a2:=n3_
        have a4:=n4_
        have a1:=n5_
        have HB:=n6_
        clear n0_ n1_ n2_ n3_ n4_ n5_ n6_
        replace b1:=ak (Kd.R_drew b1.out)
        replace a0:=ak (Kd.R_drew a0.out)
        replace d2:=ak (Kd.S_drew d2.out)
        replace a2:=ak (blk_drew a2.out)
        replace a4:=ak (blk_drew a4.out)
        replace a1:=ak (blk_drew a1.out)
        replace HB:=ak (below_drew1 HB.out)
        have g1:0≤(a8:Int):=oa_
        have q418:a8<(l1.length:Int):=oa_
        obtain ⟨ad418,e418,hx418_0⟩:=Kd.at_int HR1.out a8 g1 q418
        have hw418_0:=hx418_0
        cases e418
        replace hx418_0:=(HB.out.cell (World.block_lt_of_cell? w _ hx418_0)).trans hx418_0
        replace g1:=eq_true g1
        replace q418:=eq_true q418
        have g2:0≤((rd l1 a8):Int):=oa_
        have q419:(rd l1 a8)<(l0_1.length:Int):=oa_
        obtain ⟨ad419,e419,hx419_0⟩:=Kd.at_int HR0_1.out (rd l1 a8) g2 q419
        have hw419_0:=hx419_0
        cases e419
        replace hx419_0:=(HB.out.cell (World.block_lt_of_cell? w _ hx419_0)).trans hx419_0
        replace g2:=eq_true g2
        replace q419:=eq_true q419
        obtain ⟨n5,h4,h5⟩:=Kd.R_slice b1.out
        (first|subst h5|(injection h5 with f1_ f2_ f3_;have f4_:=f1_.symm;have f5_:=f3_.symm;clear f1_ f2_ f3_;subst f4_;subst f5_))
        obtain ⟨ad420,e420,hx420_0,n6,q420⟩:=ai_ (Kd.R_reads' b1.out).2.2 (rd l0_1 (rd l1 a8))
        cases e420
        refine start_ (n:=17) (S:=fun w'=>w'.cell? ⟨a7,0,none⟩=some (.slice b8 y415.length b9)∧w'.cell? ⟨a7,1,none⟩=some (u405001)∧w'.cell? ⟨a9,0,none⟩=some (.slice A0_0 l0_0.length c0_0)∧w'.cell? ⟨a9,1,none⟩=some (.slice (some ad419) l0_1.length c0_1)∧w'.cell? (ad418.add (a8).toNat)=some (.int .i64 (rd l1 a8))∧w'.cell? (ad419.add ((rd l1 a8)).toNat)=some (.int .i64 (rd l0_1 (rd l1 a8)))∧w'.cell? (ad420.add ((rd l0_1 (rd l1 a8))).toNat)=some (.int .i64 (rd b5 (rd l0_1 (rd l1 a8))))) (ds:=[14,16]) (bA 17 0) (by kernel_rfl) rfl rfl ⟨(blk_cell a1.out 0).trans rfl,(blk_cell a1.out 1).trans rfl,(blk_cell a2.out 0).trans rfl,(blk_cell a2.out 1).trans rfl,((HB.out.cell (World.block_lt_of_cell? w _ hw418_0)).trans hw418_0),((HB.out.cell (World.block_lt_of_cell? w _ hw419_0)).trans hw419_0),hx420_0⟩ (fun hHeld=>?_);refine with_tabW spec_l20Rename.tab16 spec_l20Rename.bits16 (fun HT_ HW_=>?_)
        generalize n4.drew=o4 at b1 a0 d2 a2 a4 a1 HB hx418_0 hx419_0 hx420_0 hHeld ⊢
        refine pu_ (i:=0) (N:=some 64) (bA 17 1) ?_
        refine pu_ (i:=2) (N:=some 66) (bA 17 5) ?_
        refine pu_ (i:=3) (N:=some 67) (bA 17 13) ?_
        refine pu_ (i:=5) (N:=some 69) (bA 17 45) ?_
        refine pu_ (i:=6) (N:=some 70) (bA 17 109) ?_
        refine pu_ (i:=7) (N:=some 71) (bA 17 237) ?_
        refine tk_ (i:=1) (N:=some 65) (bA 17 239) ?_
        refine tk_ (i:=4) (N:=some 68) (bA 17 255) ?_
        refine tk_ (i:=8) (N:=some 72) (bA 17 511) ?_
        refine pu_ (i:=9) (N:=some 73) (bA 17 1023) ?_
        refine tk_ (i:=10) (N:=some 74) (bA 17 2047) ?_
        refine pu_ (i:=11) (N:=some 75) (bA 17 4095) ?_
        refine tk_ (i:=12) (N:=some 76) (bA 17 8191) ?_
        refine one_ (i:=13) (N:=some 77) (bA 17 16383) rfl rfl (one_of HT_.out (by kernel_rfl)) z1e_9 (fun K hK=>?_)
        refine value_ (w1:=?_) (v:=?_) (by rfl) rfl ?_ ?_
        rotate_left 2
        ·
         go_simp
         constructor
         ·
          rfl
         rfl
        refine hK.out _ _ ⟨(blk_cell (blk_alloc a1.out _) 0).trans rfl,(blk_cell (blk_alloc a1.out _) 1).trans rfl,(blk_cell (blk_alloc a2.out _) 0).trans rfl,(blk_cell (blk_alloc a2.out _) 1).trans rfl,(World.cell?_alloc_lt _ _ _ (World.block_lt_of_cell? _ _ (((HB.out.cell (World.block_lt_of_cell? w _ hw418_0)).trans hw418_0)))).trans (((HB.out.cell (World.block_lt_of_cell? w _ hw418_0)).trans hw418_0)),(World.cell?_alloc_lt _ _ _ (World.block_lt_of_cell? _ _ (((HB.out.cell (World.block_lt_of_cell? w _ hw419_0)).trans hw419_0)))).trans (((HB.out.cell (World.block_lt_of_cell? w _ hw419_0)).trans hw419_0)),(World.cell?_alloc_lt _ _ _ (World.block_lt_of_cell? _ _ (hHeld.2.2.2.2.2.2))).trans (hHeld.2.2.2.2.2.2)⟩ (fun hHeld=>?_)
        clear hK K
        refine no_ (N:=some 77) ?_
        refine last_ (i:=14) (N:=some 78) (bA 17 32767) rfl rfl (one_of HT_.out (by kernel_rfl)) z1e_9 (fun K hK=>?_)
        refine Kd.R_append_step (Kd.int .i64) (w0:=w) w.heap.size (by rfl) (.tmp 65) (.tmp 77) 25 3 (.int .i64 0) 8 rfl Try.underlying25 info3 rfl z1e_9 (by omega) u405001 a5 (rd b5 (rd l0_1 (rd l1 a8))) [.int .i64 (rd b5 (rd l0_1 (rd l1 a8)))] (fun k_=>some k_≠(.slice (some ad420) b5.length h4:Value).ownBlock) (fun _=>False) rfl rfl ?aP (fun _ hk=>hk.elim) ?aF ?aO ?aB ?aS ?aL ?_
        (case aP=>exact rfl)
        (case aB=>exact z1e_0)
        (case aF=>exact (fun k_ hk=>Kd.fresh' (Kd.R_lt (xR b1.out)) k_ hk))
        (case aO=>exact (xR a0.out))
        (case aS=>exact (below_size z1e_0))
        (case aL=>have:=LMc41.out;omega)
        intro n7 o5 ho hb hg hat
        rw [← Ny421.out] at ho
        replace b1:=ak (Kd.R_after (ok:=(fun _=>True)) (by (with_reducible repeat (first|apply Kd.R_alloc|apply Kd.R_drewN|apply Kd.R_drew));exact Kd.R_mono b1.out (fun _ hk=>⟨trivial,hk⟩)) hg hat)
        replace a2:=ak (blk_grown (g:=a9) (o:=.cells #[.slice A0_0 l0_0.length c0_0,.slice (some ad419) l0_1.length c0_1] 27 (0,0)) (xb a2.out) hg (Kd.R_ne a0.out a2.out z1e_9))
        replace a4:=ak (blk_grown (g:=b0) (o:=.cells #[.slice none 0 0,.slice none 0 0] 27 (0,0)) (xb a4.out) hg (Kd.R_ne a0.out a4.out z1e_9))
        replace a1:=ak (blk_grown (g:=a7) (o:=.cells #[.slice b8 y415.length b9,u405001] 27 (0,0)) (xb a1.out) hg (Kd.R_ne a0.out a1.out z1e_9))
        replace d2:=ak (Kd.S_after (ok:=(fun k_=>some k_≠(.slice (some ad420) b5.length h4:Value).ownBlock)) (xS d2.out) hg hat)
        replace HB:=ak (hb)
        have e9:=ak (ho)
        clear a0 ho hb hg hat
        obtain ⟨e2,e3,h6⟩:=Kd.R_slice e9.out
        (first|subst h6|(injection h6 with f1_ f2_ f3_;have f4_:=f1_.symm;have f5_:=f3_.symm;clear f1_ f2_ f3_;subst f4_;subst f5_))
        refine hK.out _ _ ?_
        clear hK K
        refine no_ (N:=some 78) ?_
        refine pu_ (i:=15) (N:=some 79) (bA 17 65535) ?_
        refine last_ (i:=16) (N:=none) (bA 17 131071) rfl rfl (one_of HT_.out (by kernel_rfl)) z1e_9 (fun K hK=>?_)
        have hs54:_:=cz21 a1.out
        have hfs54:=blk_frozen a1.out 1
        have hns54_0:=b3.out
        have hns54_1:=b4.out
        have hms54_0:=d0.out
        have hms54_1:=d1.out
        refine skip_ (w1:=?_) (by rfl) rfl ?_ ?_
        rotate_left
        ·
         go_simp
         rfl
        refine hK.out _ _ ?_
        clear hK K
        refine done_ (done_of HT_.out (by kernel_rfl)) ?_
        try go_wp2
        go_roundg k3
        case measure=>have:=HK1.out;have:=HK2.out;have:=HK3.out;omega
        case rel=>exact ⟨(wrap64 (a8+1)),(y415),(y421),(.slice b8 y415.length b9),(.slice e2 y421.length e3),z1e_7,H',⟨(by have:=HK1.out;have:=HK2.out;have:=HK3.out;omega)⟩,⟨(by (with_reducible repeat (first|apply Kd.R_alloc|apply Kd.R_drewN|apply Kd.R_drew));exact Kd.R_mono (Kd.R_far (p:=⟨a7,1,none⟩) (Kd.R_types b1.out a1.out z1e_9) (fun _ hk=>hk.2) (.slice e2 y421.length e3)) (fun _ hk=>hk.1.2))⟩,⟨(by (with_reducible repeat (first|apply Kd.S_alloc|apply Kd.S_drewN|apply Kd.S_drew));exact Kd.S_mono (Kd.S_far (p:=⟨a7,1,none⟩) (Kd.S_types d2.out a1.out z1e_9) (fun _ hk=>hk.2) (.slice e2 y421.length e3)) (fun _ hk=>⟨hk.1.1,hk.1.2⟩))⟩,⟨(by (with_reducible repeat (first|apply Kd.R_alloc|apply Kd.R_drewN|apply Kd.R_drew));exact Kd.R_mono (Kd.R_far (p:=⟨a7,1,none⟩) (Kd.R_types e9.out a1.out z1e_9) (fun _ hk=>hk.2) (.slice e2 y421.length e3)) (fun _ hk=>hk.1))⟩,⟨z1e_6⟩,⟨z1e_5⟩,⟨(by (with_reducible repeat (first|refine blk_drewN ?_ _|refine blk_drew ?_|refine blk_alloc ?_ _));refine blk_put (cs:=#[.slice b8 y415.length b9,u405001]) ?_ 1 _ rfl;(with_reducible repeat (first|refine blk_drewN ?_ _|refine blk_drew ?_|refine blk_alloc ?_ _));exact a1.out)⟩,⟨z1e_0⟩⟩
     simp only [Option.some.injEq,Prod.mk.injEq] at H
     obtain ⟨rfl,rfl⟩:=H
     have m4:=d0.out
     have m5:=b3.out
     have m6:=d1.out
     have m7:=b4.out
     have d4:=cz20 a1.out
     have d5:=cz21 a1.out
     have d6:=blk_frozen a1.out 0
     have d7:=blk_frozen a1.out 1
     obtain ⟨e4,e5,i4⟩:=Kd.S_slice a3.out
     subst i4
     have m8:=e0.out
     have m9:=d9.out
     have d4:=cz20 a4.out
     have d5:=cz21 a4.out
     have d6:=blk_frozen a4.out 0
     have d7:=blk_frozen a4.out 1
     obtain ⟨g3,g4,i5⟩:=Kd.R_slice a0.out
     subst i5
     go_wp2
     refine bodyPost_ret (results_cell_row rfl _ _ b0 27 #[.slice e4 a6.length e5,.slice g3 a5.length g4] (0,0) _ rfl (by (with_reducible repeat (first|refine blk_drewN ?_ _|refine blk_drew ?_|refine blk_alloc ?_ _));refine blk_put (cs:=#[.slice e4 a6.length e5,.slice none 0 0]) ?_ 1 _ rfl;(with_reducible repeat (first|refine blk_drewN ?_ _|refine blk_drew ?_|refine blk_alloc ?_ _));refine blk_put (cs:=#[.slice none 0 0,.slice none 0 0]) ?_ 0 _ rfl;(with_reducible repeat (first|refine blk_drewN ?_ _|refine blk_drew ?_|refine blk_alloc ?_ _));exact a4.out) Try.underlying27 rfl (by kernel_rfl)) rfl ?_
     exact ⟨_,_,(by first|rfl|(simp [errW_none,errW_some] <;> rfl)|(simp [*,errW_none,errW_some] <;> rfl)),(by (with_reducible repeat (first|apply Kd.S_alloc|apply Kd.S_drewN|apply Kd.S_drew));exact Kd.S_mono (Kd.S_far (p:=⟨b0,1,none⟩) (Kd.S_far (p:=⟨b0,0,none⟩) (Kd.S_types a3.out a4.out z1e_9) (fun _ hk=>hk.2) (.slice e4 a6.length e5)) (fun _ hk=>hk.2) (.slice g3 a5.length g4)) (fun _ hk=>hk.1.2)),(by (with_reducible repeat (first|apply Kd.R_alloc|apply Kd.R_drewN|apply Kd.R_drew));exact Kd.R_mono (Kd.R_far (p:=⟨b0,1,none⟩) (Kd.R_far (p:=⟨b0,0,none⟩) (Kd.R_types a0.out a4.out z1e_9) (fun _ hk=>hk.2) (.slice e4 a6.length e5)) (fun _ hk=>hk.2) (.slice g3 a5.length g4)) (fun _ hk=>trivial)),z1e_0⟩

end Go.Proofs.Ytacifhahfamipaa.P

namespace Go.Proofs.Ytacifhahfamipaa.P
open Go.RowKit Go.Proofs.YtacifhahfamipaaW.PrintWords Go.Proofs.YtacifhahfamipaaW.PrintLast Go.Proofs.YtacifhahfamipaaW.PrintMore
attribute [local go_sem] max2_int min2_int max_two min_two max_three min_three max_four min_four
set_option linter.unusedVariables false
set_option linter.unusedSimpArgs false
theorem z16_1 {p:Prop} (h:p:=by repeat (first|exact Drawn0.refl _|apply Drawn0.step)):p:=h
theorem z16_0 {p:Prop} (h:p:=by first|rfl|(simp;done)|(simp [*];done)):p:=h
set_option maxHeartbeats 8000000 in
set_option maxRecDepth 100000 in
theorem spec_l1Meet.calls (k:Nat) (A0:Option Addr) (c0:Nat) (l0:List (List Int)) (a1:Int) (a2:Int) (r:Int) (w:World) (hr0:Kd.C (Kd.slice 3 (Kd.int .i64)) w A0 l0.length l0) (hc0:l0.length≤c0) (h:spec_l1Meet.f k l0 a1 a2=some r) :
 Calls Try.prog 77 #[.slice A0 l0.length c0,.int .i64 a1,.int .i64 a2] w fun e w'=>e = .returned (.int .i64 r)∧Drawn0 w w':=by
 have HR0:=ak hr0
 have h5:=ak hc0
 clear hr0 hc0
 have H:(spec_l1Meet.l0 k l0 a1 a2 (-1) 0)=some r:=h
 clear h
 have H':=ak H
 clear H
 go_enter Try.func77,Try.ntmps77
 go_wp2
 go_loopg [7,8] k (fun kq v7 v8 w'=>∃ (a5:Int) (a0:Int),v7 = .int .i64 a5∧v8 = .int .i64 a0∧Aside0 (spec_l1Meet.l0 kq l0 a1 a2 a5 a0=some r)∧Aside0 (kq≤k)∧Drawn0 w w')
 case atStart=>exact ⟨((-1)),(0),z16_0,z16_0,H',⟨Nat.le_refl _⟩,z16_1⟩
 case round =>
  clear H'
  obtain ⟨a5,a0,rfl,rfl,HA,HK1,⟨m1,rfl⟩⟩:=hrel
  cases gk with
  | zero=>exact absurd HA.out (by simp [spec_l1Meet.l0])
  | succ k1 =>
   have H:=HA.out
   clear HA
   simp only [spec_l1Meet.l0] at H
   replace H:=os_ H
   rcases H with ⟨d9,H⟩|⟨d9,H⟩
   ·
    replace H:=od3 H
    obtain ⟨h1,h2,h3,H⟩:=H
    replace H:=oe2 H
    rcases H with ⟨⟨-,f4,f5⟩,H⟩|⟨⟨c8,f4,f5⟩,H⟩
    ·
     replace H:=od2 H
     obtain ⟨h4,g0,H⟩:=H
     replace H:=oe2 H
     rcases H with ⟨⟨-,e0,e1⟩,H⟩|⟨⟨h6,e0,e1⟩,H⟩
     ·
      replace H:=os_ H
      rcases H with ⟨e2,H⟩|⟨e2,H⟩
      ·
       have H':=ak H
       clear H
       obtain ⟨ad579,a6,a7,e579,hx579_0,a4,HR579_0,b7,q579⟩:=al_ HR0.out a0
       cases e579
       obtain ⟨ad580,e580,hx580_0,b8,q580⟩:=ai_ HR579_0.out a1
       cases e580
       obtain ⟨ad581,b0,b1,e581,hx581_0,a8,HR581_0,d1,q581⟩:=al_ HR0.out a0
       obtain rfl:=ij_ e581
       obtain ⟨rfl,rfl⟩:=is_ hx579_0 hx581_0
       obtain ⟨ad582,e582,hx582_0,d2,q582⟩:=ai_ HR581_0.out a2
       cases e582
       go_wp2
       go_roundg k1
       case measure=>have:=HK1.out;omega
       case rel=>exact ⟨(a0),(wrap64 (a0+1)),z16_0,z16_0,H',⟨(by have:=HK1.out;omega)⟩,z16_1⟩
      replace H:=od3 H
      obtain ⟨g1,g2,g3,H⟩:=H
      replace H:=oe2 H
      rcases H with ⟨⟨-,e3,e4⟩,H⟩|⟨⟨h7,e3,e4⟩,H⟩
      ·
       have H':=ak H
       clear H
       obtain ⟨ad579,a6,a7,e579,hx579_0,a4,HR579_0,b7,q579⟩:=al_ HR0.out a0
       cases e579
       obtain ⟨ad580,e580,hx580_0,b8,q580⟩:=ai_ HR579_0.out a1
       cases e580
       obtain ⟨ad581,b0,b1,e581,hx581_0,a8,HR581_0,d1,q581⟩:=al_ HR0.out a0
       obtain rfl:=ij_ e581
       obtain ⟨rfl,rfl⟩:=is_ hx579_0 hx581_0
       obtain ⟨ad582,e582,hx582_0,d2,q582⟩:=ai_ HR581_0.out a2
       cases e582
       obtain ⟨ad583,d3,d4,e583,hx583_0,b9,HR583_0,f6,q583⟩:=al_ HR0.out a5
       obtain rfl:=ij_ e583
       obtain ⟨ad584,e584,hx584_0,f7,q584⟩:=ai_ HR583_0.out a0
       cases e584
       go_wp2
       go_roundg k1
       case measure=>have:=HK1.out;omega
       case rel=>exact ⟨(a0),(wrap64 (a0+1)),z16_0,z16_0,H',⟨(by have:=HK1.out;omega)⟩,z16_1⟩
      have H':=ak H
      clear H
      obtain ⟨ad579,a6,a7,e579,hx579_0,a4,HR579_0,b7,q579⟩:=al_ HR0.out a0
      cases e579
      obtain ⟨ad580,e580,hx580_0,b8,q580⟩:=ai_ HR579_0.out a1
      cases e580
      obtain ⟨ad581,b0,b1,e581,hx581_0,a8,HR581_0,d1,q581⟩:=al_ HR0.out a0
      obtain rfl:=ij_ e581
      obtain ⟨rfl,rfl⟩:=is_ hx579_0 hx581_0
      obtain ⟨ad582,e582,hx582_0,d2,q582⟩:=ai_ HR581_0.out a2
      cases e582
      obtain ⟨ad583,d3,d4,e583,hx583_0,b9,HR583_0,f6,q583⟩:=al_ HR0.out a5
      obtain rfl:=ij_ e583
      obtain ⟨ad584,e584,hx584_0,f7,q584⟩:=ai_ HR583_0.out a0
      cases e584
      go_wp2
      go_roundg k1
      case measure=>have:=HK1.out;omega
      case rel=>exact ⟨(a5),(wrap64 (a0+1)),z16_0,z16_0,H',⟨(by have:=HK1.out;omega)⟩,z16_1⟩
     have H':=ak H
     clear H
     obtain ⟨ad579,a6,a7,e579,hx579_0,a4,HR579_0,b7,q579⟩:=al_ HR0.out a0
     cases e579
     obtain ⟨ad580,e580,hx580_0,b8,q580⟩:=ai_ HR579_0.out a1
     cases e580
     obtain ⟨ad581,b0,b1,e581,hx581_0,a8,HR581_0,d1,q581⟩:=al_ HR0.out a0
     obtain rfl:=ij_ e581
     obtain ⟨rfl,rfl⟩:=is_ hx579_0 hx581_0
     obtain ⟨ad582,e582,hx582_0,d2,q582⟩:=ai_ HR581_0.out a2
     cases e582
     go_wp2
     go_roundg k1
     case measure=>have:=HK1.out;omega
     case rel=>exact ⟨(a5),(wrap64 (a0+1)),z16_0,z16_0,H',⟨(by have:=HK1.out;omega)⟩,z16_1⟩
    have H':=ak H
    clear H
    obtain ⟨ad579,a6,a7,e579,hx579_0,a4,HR579_0,b7,q579⟩:=al_ HR0.out a0
    cases e579
    obtain ⟨ad580,e580,hx580_0,b8,q580⟩:=ai_ HR579_0.out a1
    cases e580
    go_wp2
    go_roundg k1
    case measure=>have:=HK1.out;omega
    case rel=>exact ⟨(a5),(wrap64 (a0+1)),z16_0,z16_0,H',⟨(by have:=HK1.out;omega)⟩,z16_1⟩
   have H':=ak H
   clear H
   go_wp2
   go_loopg [9] k1 (fun kq v9 w'=>∃ (a3:Int),v9 = .int .i64 a3∧Aside0 (spec_l1Meet.l1 kq l0 a1 a2 a5 a3=some r)∧Aside0 (kq≤k1)∧Drawn0 w w')
   case atStart=>exact ⟨(0),z16_0,H',⟨Nat.le_refl _⟩,z16_1⟩
   case round =>
    clear H'
    try clear c4
    try clear d9
    obtain ⟨a3,rfl,HA,HK2,⟨m2,rfl⟩⟩:=hrel
    cases gk with
    | zero=>exact absurd HA.out (by simp [spec_l1Meet.l1])
    | succ k2 =>
     have H:=HA.out
     clear HA
     simp only [spec_l1Meet.l1] at H
     replace H:=os_ H
     rcases H with ⟨e5,H⟩|⟨e5,H⟩
     ·
      replace H:=od3 H
      obtain ⟨g4,g5,g6,H⟩:=H
      replace H:=oe2 H
      rcases H with ⟨⟨-,e6,e7⟩,H⟩|⟨⟨h8,e6,e7⟩,H⟩
      ·
       replace H:=od2 H
       obtain ⟨g7,g8,H⟩:=H
       replace H:=oe2 H
       rcases H with ⟨⟨-,e8,e9⟩,H⟩|⟨⟨h9,e8,e9⟩,H⟩
       ·
        replace H:=od2 H
        obtain ⟨g9,h0,H⟩:=H
        replace H:=oe2 H
        rcases H with ⟨⟨-,f0,f1⟩,H⟩|⟨⟨i0,f0,f1⟩,H⟩
        ·
         obtain rfl:=Option.some.inj H
         obtain ⟨ad585,b2,b3,e585,hx585_0,a9,HR585_0,d5,q585⟩:=al_ HR0.out a3
         cases e585
         obtain ⟨ad586,e586,hx586_0,d6,q586⟩:=ai_ HR585_0.out a1
         cases e586
         obtain ⟨ad587,b5,b6,e587,hx587_0,b4,HR587_0,f2,q587⟩:=al_ HR0.out a3
         obtain rfl:=ij_ e587
         obtain ⟨rfl,rfl⟩:=is_ hx585_0 hx587_0
         obtain ⟨ad588,e588,hx588_0,f3,q588⟩:=ai_ HR587_0.out a2
         cases e588
         obtain ⟨ad589,d7,d8,e589,hx589_0,d0,HR589_0,f8,q589⟩:=al_ HR0.out a3
         obtain rfl:=ij_ e589
         obtain ⟨rfl,rfl⟩:=is_ hx585_0 hx589_0
         obtain ⟨ad590,e590,hx590_0,f9,q590⟩:=ai_ HR589_0.out a5
         cases e590
         go_wp2
         go_ret
         exact ⟨z16_0,z16_1⟩
        have H':=ak H
        clear H
        obtain ⟨ad585,b2,b3,e585,hx585_0,a9,HR585_0,d5,q585⟩:=al_ HR0.out a3
        cases e585
        obtain ⟨ad586,e586,hx586_0,d6,q586⟩:=ai_ HR585_0.out a1
        cases e586
        obtain ⟨ad587,b5,b6,e587,hx587_0,b4,HR587_0,f2,q587⟩:=al_ HR0.out a3
        obtain rfl:=ij_ e587
        obtain ⟨rfl,rfl⟩:=is_ hx585_0 hx587_0
        obtain ⟨ad588,e588,hx588_0,f3,q588⟩:=ai_ HR587_0.out a2
        cases e588
        obtain ⟨ad589,d7,d8,e589,hx589_0,d0,HR589_0,f8,q589⟩:=al_ HR0.out a3
        obtain rfl:=ij_ e589
        obtain ⟨rfl,rfl⟩:=is_ hx585_0 hx589_0
        obtain ⟨ad590,e590,hx590_0,f9,q590⟩:=ai_ HR589_0.out a5
        cases e590
        go_wp2
        go_roundg k2
        case measure=>have:=HK1.out;have:=HK2.out;omega
        case rel=>exact ⟨(wrap64 (a3+1)),z16_0,H',⟨(by have:=HK1.out;have:=HK2.out;omega)⟩,z16_1⟩
       have H':=ak H
       clear H
       obtain ⟨ad585,b2,b3,e585,hx585_0,a9,HR585_0,d5,q585⟩:=al_ HR0.out a3
       cases e585
       obtain ⟨ad586,e586,hx586_0,d6,q586⟩:=ai_ HR585_0.out a1
       cases e586
       obtain ⟨ad587,b5,b6,e587,hx587_0,b4,HR587_0,f2,q587⟩:=al_ HR0.out a3
       obtain rfl:=ij_ e587
       obtain ⟨rfl,rfl⟩:=is_ hx585_0 hx587_0
       obtain ⟨ad588,e588,hx588_0,f3,q588⟩:=ai_ HR587_0.out a2
       cases e588
       go_wp2
       go_roundg k2
       case measure=>have:=HK1.out;have:=HK2.out;omega
       case rel=>exact ⟨(wrap64 (a3+1)),z16_0,H',⟨(by have:=HK1.out;have:=HK2.out;omega)⟩,z16_1⟩
      have H':=ak H
      clear H
      obtain ⟨ad585,b2,b3,e585,hx585_0,a9,HR585_0,d5,q585⟩:=al_ HR0.out a3
      cases e585
      obtain ⟨ad586,e586,hx586_0,d6,q586⟩:=ai_ HR585_0.out a1
      cases e586
      go_wp2
      go_roundg k2
      case measure=>have:=HK1.out;have:=HK2.out;omega
      case rel=>exact ⟨(wrap64 (a3+1)),z16_0,H',⟨(by have:=HK1.out;have:=HK2.out;omega)⟩,z16_1⟩
     obtain rfl:=Option.some.inj H
     go_wp2
     go_ret
     exact ⟨z16_0,z16_1⟩

end Go.Proofs.Ytacifhahfamipaa.P

namespace Go.Proofs.Ytacifhahfamipaa.P
open Go.RowKit Go.Proofs.YtacifhahfamipaaW.PrintWords Go.Proofs.YtacifhahfamipaaW.PrintLast Go.Proofs.YtacifhahfamipaaW.PrintMore
attribute [local go_sem] max2_int min2_int max_two min_two max_three min_three max_four min_four
set_option linter.unusedVariables false
set_option linter.unusedSimpArgs false
theorem z15_1 {p:Prop} (h:p:=by repeat (first|exact Drawn0.refl _|apply Drawn0.step)):p:=h
theorem z15_0 {p:Prop} (h:p:=by first|rfl|(simp;done)|(simp [*];done)):p:=h
set_option maxHeartbeats 8000000 in
set_option maxRecDepth 100000 in
theorem spec_l1Join.calls (k:Nat) (A0:Option Addr) (c0:Nat) (l0:List (List Int)) (a1:Int) (a2:Int) (r:Int) (w:World) (hr0:Kd.C (Kd.slice 3 (Kd.int .i64)) w A0 l0.length l0) (hc0:l0.length≤c0) (h:spec_l1Join.f k l0 a1 a2=some r) :
 Calls Try.prog 76 #[.slice A0 l0.length c0,.int .i64 a1,.int .i64 a2] w fun e w'=>e = .returned (.int .i64 r)∧Drawn0 w w':=by
 have HR0:=ak hr0
 have h9:=ak hc0
 clear hr0 hc0
 have H:(spec_l1Join.l0 k l0 a1 a2 (-1) 0)=some r:=h
 clear h
 have H':=ak H
 clear H
 go_enter Try.func76,Try.ntmps76
 go_wp2
 go_loopg [7,8] k (fun kq v7 v8 w'=>∃ (a5:Int) (a0:Int),v7 = .int .i64 a5∧v8 = .int .i64 a0∧Aside0 (spec_l1Join.l0 kq l0 a1 a2 a5 a0=some r)∧Aside0 (kq≤k)∧Drawn0 w w')
 case atStart=>exact ⟨((-1)),(0),z15_0,z15_0,H',⟨Nat.le_refl _⟩,z15_1⟩
 case round =>
  clear H'
  obtain ⟨a5,a0,rfl,rfl,HA,HK1,⟨m1,rfl⟩⟩:=hrel
  cases gk with
  | zero=>exact absurd HA.out (by simp [spec_l1Join.l0])
  | succ k1 =>
   have H:=HA.out
   clear HA
   simp only [spec_l1Join.l0] at H
   replace H:=os_ H
   rcases H with ⟨d9,H⟩|⟨d9,H⟩
   ·
    replace H:=od4 H
    obtain ⟨h5,h6,h7,h8,H⟩:=H
    replace H:=oe2 H
    rcases H with ⟨⟨-,f4,f5⟩,H⟩|⟨⟨c9,f4,f5⟩,H⟩
    ·
     replace H:=od3 H
     obtain ⟨g0,g1,g2,H⟩:=H
     replace H:=oe2 H
     rcases H with ⟨⟨-,e0,e1⟩,H⟩|⟨⟨i0,e0,e1⟩,H⟩
     ·
      replace H:=os_ H
      rcases H with ⟨e2,H⟩|⟨e2,H⟩
      ·
       have H':=ak H
       clear H
       obtain ⟨ad591,a6,a7,e591,hx591_0,a4,HR591_0,b7,q591⟩:=al_ HR0.out a1
       cases e591
       obtain ⟨ad592,e592,hx592_0,b8,q592⟩:=ai_ HR591_0.out a0
       cases e592
       obtain ⟨ad593,b0,b1,e593,hx593_0,a8,HR593_0,d1,q593⟩:=al_ HR0.out a2
       obtain rfl:=ij_ e593
       obtain ⟨ad594,e594,hx594_0,d2,q594⟩:=ai_ HR593_0.out a0
       cases e594
       go_wp2
       go_roundg k1
       case measure=>have:=HK1.out;omega
       case rel=>exact ⟨(a0),(wrap64 (a0+1)),z15_0,z15_0,H',⟨(by have:=HK1.out;omega)⟩,z15_1⟩
      replace H:=od2 H
      obtain ⟨g3,g4,H⟩:=H
      replace H:=oe2 H
      rcases H with ⟨⟨-,e3,e4⟩,H⟩|⟨⟨i1,e3,e4⟩,H⟩
      ·
       have H':=ak H
       clear H
       obtain ⟨ad591,a6,a7,e591,hx591_0,a4,HR591_0,b7,q591⟩:=al_ HR0.out a1
       cases e591
       obtain ⟨ad592,e592,hx592_0,b8,q592⟩:=ai_ HR591_0.out a0
       cases e592
       obtain ⟨ad593,b0,b1,e593,hx593_0,a8,HR593_0,d1,q593⟩:=al_ HR0.out a2
       obtain rfl:=ij_ e593
       obtain ⟨ad594,e594,hx594_0,d2,q594⟩:=ai_ HR593_0.out a0
       cases e594
       obtain ⟨ad595,d3,d4,e595,hx595_0,b9,HR595_0,f6,q595⟩:=al_ HR0.out a0
       obtain rfl:=ij_ e595
       obtain ⟨ad596,e596,hx596_0,f7,q596⟩:=ai_ HR595_0.out a5
       cases e596
       go_wp2
       go_roundg k1
       case measure=>have:=HK1.out;omega
       case rel=>exact ⟨(a0),(wrap64 (a0+1)),z15_0,z15_0,H',⟨(by have:=HK1.out;omega)⟩,z15_1⟩
      have H':=ak H
      clear H
      obtain ⟨ad591,a6,a7,e591,hx591_0,a4,HR591_0,b7,q591⟩:=al_ HR0.out a1
      cases e591
      obtain ⟨ad592,e592,hx592_0,b8,q592⟩:=ai_ HR591_0.out a0
      cases e592
      obtain ⟨ad593,b0,b1,e593,hx593_0,a8,HR593_0,d1,q593⟩:=al_ HR0.out a2
      obtain rfl:=ij_ e593
      obtain ⟨ad594,e594,hx594_0,d2,q594⟩:=ai_ HR593_0.out a0
      cases e594
      obtain ⟨ad595,d3,d4,e595,hx595_0,b9,HR595_0,f6,q595⟩:=al_ HR0.out a0
      obtain rfl:=ij_ e595
      obtain ⟨ad596,e596,hx596_0,f7,q596⟩:=ai_ HR595_0.out a5
      cases e596
      go_wp2
      go_roundg k1
      case measure=>have:=HK1.out;omega
      case rel=>exact ⟨(a5),(wrap64 (a0+1)),z15_0,z15_0,H',⟨(by have:=HK1.out;omega)⟩,z15_1⟩
     have H':=ak H
     clear H
     obtain ⟨ad591,a6,a7,e591,hx591_0,a4,HR591_0,b7,q591⟩:=al_ HR0.out a1
     cases e591
     obtain ⟨ad592,e592,hx592_0,b8,q592⟩:=ai_ HR591_0.out a0
     cases e592
     obtain ⟨ad593,b0,b1,e593,hx593_0,a8,HR593_0,d1,q593⟩:=al_ HR0.out a2
     obtain rfl:=ij_ e593
     obtain ⟨ad594,e594,hx594_0,d2,q594⟩:=ai_ HR593_0.out a0
     cases e594
     go_wp2
     go_roundg k1
     case measure=>have:=HK1.out;omega
     case rel=>exact ⟨(a5),(wrap64 (a0+1)),z15_0,z15_0,H',⟨(by have:=HK1.out;omega)⟩,z15_1⟩
    have H':=ak H
    clear H
    obtain ⟨ad591,a6,a7,e591,hx591_0,a4,HR591_0,b7,q591⟩:=al_ HR0.out a1
    cases e591
    obtain ⟨ad592,e592,hx592_0,b8,q592⟩:=ai_ HR591_0.out a0
    cases e592
    go_wp2
    go_roundg k1
    case measure=>have:=HK1.out;omega
    case rel=>exact ⟨(a5),(wrap64 (a0+1)),z15_0,z15_0,H',⟨(by have:=HK1.out;omega)⟩,z15_1⟩
   have H':=ak H
   clear H
   go_wp2
   go_loopg [9] k1 (fun kq v9 w'=>∃ (a3:Int),v9 = .int .i64 a3∧Aside0 (spec_l1Join.l1 kq l0 a1 a2 a5 a3=some r)∧Aside0 (kq≤k1)∧Drawn0 w w')
   case atStart=>exact ⟨(0),z15_0,H',⟨Nat.le_refl _⟩,z15_1⟩
   case round =>
    clear H'
    try clear c4
    try clear d9
    obtain ⟨a3,rfl,HA,HK2,⟨m2,rfl⟩⟩:=hrel
    cases gk with
    | zero=>exact absurd HA.out (by simp [spec_l1Join.l1])
    | succ k2 =>
     have H:=HA.out
     clear HA
     simp only [spec_l1Join.l1] at H
     replace H:=os_ H
     rcases H with ⟨e5,H⟩|⟨e5,H⟩
     ·
      replace H:=od4 H
      obtain ⟨g5,g6,g7,g8,H⟩:=H
      replace H:=oe2 H
      rcases H with ⟨⟨-,e6,e7⟩,H⟩|⟨⟨i2,e6,e7⟩,H⟩
      ·
       replace H:=od3 H
       obtain ⟨g9,h0,h1,H⟩:=H
       replace H:=oe2 H
       rcases H with ⟨⟨-,e8,e9⟩,H⟩|⟨⟨i3,e8,e9⟩,H⟩
       ·
        replace H:=od3 H
        obtain ⟨h2,h3,h4,H⟩:=H
        replace H:=oe2 H
        rcases H with ⟨⟨-,f0,f1⟩,H⟩|⟨⟨i4,f0,f1⟩,H⟩
        ·
         obtain rfl:=Option.some.inj H
         obtain ⟨ad597,b2,b3,e597,hx597_0,a9,HR597_0,d5,q597⟩:=al_ HR0.out a1
         cases e597
         obtain ⟨ad598,e598,hx598_0,d6,q598⟩:=ai_ HR597_0.out a3
         cases e598
         obtain ⟨ad599,b5,b6,e599,hx599_0,b4,HR599_0,f2,q599⟩:=al_ HR0.out a2
         obtain rfl:=ij_ e599
         obtain ⟨ad600,e600,hx600_0,f3,q600⟩:=ai_ HR599_0.out a3
         cases e600
         obtain ⟨ad601,d7,d8,e601,hx601_0,d0,HR601_0,f8,q601⟩:=al_ HR0.out a5
         obtain rfl:=ij_ e601
         obtain ⟨ad602,e602,hx602_0,f9,q602⟩:=ai_ HR601_0.out a3
         cases e602
         go_wp2
         go_ret
         exact ⟨z15_0,z15_1⟩
        have H':=ak H
        clear H
        obtain ⟨ad597,b2,b3,e597,hx597_0,a9,HR597_0,d5,q597⟩:=al_ HR0.out a1
        cases e597
        obtain ⟨ad598,e598,hx598_0,d6,q598⟩:=ai_ HR597_0.out a3
        cases e598
        obtain ⟨ad599,b5,b6,e599,hx599_0,b4,HR599_0,f2,q599⟩:=al_ HR0.out a2
        obtain rfl:=ij_ e599
        obtain ⟨ad600,e600,hx600_0,f3,q600⟩:=ai_ HR599_0.out a3
        cases e600
        obtain ⟨ad601,d7,d8,e601,hx601_0,d0,HR601_0,f8,q601⟩:=al_ HR0.out a5
        obtain rfl:=ij_ e601
        obtain ⟨ad602,e602,hx602_0,f9,q602⟩:=ai_ HR601_0.out a3
        cases e602
        go_wp2
        go_roundg k2
        case measure=>have:=HK1.out;have:=HK2.out;omega
        case rel=>exact ⟨(wrap64 (a3+1)),z15_0,H',⟨(by have:=HK1.out;have:=HK2.out;omega)⟩,z15_1⟩
       have H':=ak H
       clear H
       obtain ⟨ad597,b2,b3,e597,hx597_0,a9,HR597_0,d5,q597⟩:=al_ HR0.out a1
       cases e597
       obtain ⟨ad598,e598,hx598_0,d6,q598⟩:=ai_ HR597_0.out a3
       cases e598
       obtain ⟨ad599,b5,b6,e599,hx599_0,b4,HR599_0,f2,q599⟩:=al_ HR0.out a2
       obtain rfl:=ij_ e599
       obtain ⟨ad600,e600,hx600_0,f3,q600⟩:=ai_ HR599_0.out a3
       cases e600
       go_wp2
       go_roundg k2
       case measure=>have:=HK1.out;have:=HK2.out;omega
       case rel=>exact ⟨(wrap64 (a3+1)),z15_0,H',⟨(by have:=HK1.out;have:=HK2.out;omega)⟩,z15_1⟩
      have H':=ak H
      clear H
      obtain ⟨ad597,b2,b3,e597,hx597_0,a9,HR597_0,d5,q597⟩:=al_ HR0.out a1
      cases e597
      obtain ⟨ad598,e598,hx598_0,d6,q598⟩:=ai_ HR597_0.out a3
      cases e598
      go_wp2
      go_roundg k2
      case measure=>have:=HK1.out;have:=HK2.out;omega
      case rel=>exact ⟨(wrap64 (a3+1)),z15_0,H',⟨(by have:=HK1.out;have:=HK2.out;omega)⟩,z15_1⟩
     obtain rfl:=Option.some.inj H
     go_wp2
     go_ret
     exact ⟨z15_0,z15_1⟩

end Go.Proofs.Ytacifhahfamipaa.P

namespace Go.Proofs.Ytacifhahfamipaa.P
open Go.RowKit Go.Proofs.YtacifhahfamipaaW.PrintWords Go.Proofs.YtacifhahfamipaaW.PrintLast Go.Proofs.YtacifhahfamipaaW.PrintMore
attribute [local go_sem] max2_int min2_int max_two min_two max_three min_three max_four min_four
set_option linter.unusedVariables false
set_option linter.unusedSimpArgs false
theorem z1q_3 {p:Prop} (h:p:=by have:=HK1.out;have:=HK2.out;have:=HK3.out;first|omega|exact Nat.le_refl _):p:=h
theorem z1q_2 {p:Prop} (h:p:=by have:=HK1.out;have:=HK2.out;have:=HK3.out;have:=b3.out;have:=HK5.out;omega):p:=h
theorem z1q_1 {p:Prop} (h:p:=by first|rfl|(simp;done)|(simp [*];done)):p:=h
theorem z1q_0 {p:Prop} (h:p:=by repeat (first|exact Drawn0.refl _|apply Drawn0.step)):p:=h
set_option maxHeartbeats 8000000 in
set_option maxRecDepth 100000 in
theorem spec_OrderOk.calls (k:Nat) (A0:Option Addr) (c0:Nat) (l0:List (List Int)) (r:Bool) (w:World) (hr0:Kd.C (Kd.slice 3 (Kd.int .i64)) w A0 l0.length l0) (hc0:l0.length≤c0) (h:spec_OrderOk.f k l0=some r) :
 Calls Try.prog 112 #[.slice A0 l0.length c0] w fun e w'=>e = .returned (.bool r)∧Drawn0 w w':=by
 have HR0:=ak hr0
 have l8:=ak hc0
 clear hr0 hc0
 have H:((spec_l1In.f (l0.length:Int) 1 12).bind fun e5=>(if e5=true then (spec_OrderOk.l0 k l0 (l0.length:Int) 0) else (some false)))=some r:=h
 clear h
 obtain ⟨e5,A2,H⟩:=bd_ H
 try dsimp only at H
 replace H:=ox_ H
 rcases H with ⟨rfl,H⟩|⟨rfl,H⟩
 ·
  have H':=ak H
  clear H
  go_enter Try.func112,Try.ntmps112
  go_wp2_with (first|((with_reducible refine gate_callee (f:=72) rfl ?_);refine gl_ (some 12) Try.func72 #[.int .i64 (l0.length:Int),.int .i64 1,.int .i64 12] ?_;(with_reducible refine (spec_l1In.calls (l0.length:Int) 1 12 true _ A2.out).mono ?_);rintro e w' ⟨rfl,⟨nd,rfl⟩⟩;refine ⟨_,rfl,?_⟩))
  go_loopg [4] k (fun kq v4 w'=>∃ (a2:Int),v4 = .int .i64 a2∧Aside0 (spec_OrderOk.l0 kq l0 (l0.length:Int) a2=some r)∧Aside0 (kq≤k)∧Drawn0 w w')
  case atStart=>exact ⟨(0),z1q_1,H',⟨Nat.le_refl _⟩,z1q_0⟩
  case round =>
   clear H'
   try clear c3
   obtain ⟨a2,rfl,HA,HK1,⟨m1,rfl⟩⟩:=hrel
   cases gk with
   | zero=>exact absurd HA.out (by simp [spec_OrderOk.l0])
   | succ k1 =>
    have H:=HA.out
    clear HA
    simp only [spec_OrderOk.l0] at H
    replace H:=os_ H
    rcases H with ⟨b2,H⟩|⟨b2,H⟩
    ·
     replace H:=od2 H
     obtain ⟨g6,g7,H⟩:=H
     replace H:=oe2 H
     rcases H with ⟨⟨c7,e6,e7⟩,H⟩|⟨⟨c7,e6,e7⟩,H⟩
     ·
      have e8:((rd_L1 l0 a2).length==l0.length)=true:=by first|simpa using c7|(simp at c7 ⊢;omega)
      clear c7
      have H':=ak H
      clear H
      obtain ⟨ad604,d2,d3,e604,hx604_0,b7,HR604_0,e9,q604⟩:=al_ HR0.out a2
      cases e604
      go_wp2
      go_loopg [5] k1 (fun kq v5 w'=>∃ (a4:Int),v5 = .int .i64 a4∧Aside0 (spec_OrderOk.l1 kq l0 (l0.length:Int) a2 a4=some r)∧Aside0 (kq≤k1)∧Drawn0 w w')
      case atStart=>exact ⟨(0),z1q_1,H',⟨Nat.le_refl _⟩,z1q_0⟩
      case round =>
       clear H'
       try clear c3
       try clear c4
       try clear b2
       try clear c5
       try clear g6
       try clear c6
       try clear g7
       try clear c7
       try clear e6
       try clear e7
       try clear e8
       try clear hx604_0
       try clear e9
       try clear q604
       obtain ⟨a4,rfl,HA,HK2,⟨m2,rfl⟩⟩:=hrel
       cases gk with
       | zero=>exact absurd HA.out (by simp [spec_OrderOk.l1])
       | succ k2 =>
        have H:=HA.out
        clear HA
        simp only [spec_OrderOk.l1] at H
        replace H:=os_ H
        rcases H with ⟨g8,H⟩|⟨g8,H⟩
        ·
         replace H:=od4 H
         obtain ⟨k7,h9,i0,i1,H⟩:=H
         obtain ⟨k8,i2,H⟩:=bd_ H
         try dsimp only at H
         replace H:=ox_ H
         rcases H with ⟨rfl,H⟩|⟨rfl,H⟩
         ·
          have H':=ak H
          clear H
          obtain ⟨ad605,d4,d5,e605,hx605_0,b8,HR605_0,g9,q605⟩:=al_ HR0.out a2
          obtain rfl:=ij_ e605
          obtain ⟨ad606,e606,hx606_0,h0,q606⟩:=ai_ HR605_0.out a4
          cases e606
          go_wp2_with (first|((with_reducible refine gate_callee (f:=72) rfl ?_);refine gl_ (some 38) Try.func72 #[.int .i64 (rd (rd_L1 l0 a2) a4),.int .i64 0,.int .i64 1] ?_;(with_reducible refine (spec_l1In.calls (rd (rd_L1 l0 a2) a4) 0 1 true _ i2.out).mono ?_);rintro e w' ⟨rfl,⟨nd,rfl⟩⟩;refine ⟨_,rfl,?_⟩))
          go_roundg k2
          case measure=>have:=HK1.out;have:=HK2.out;omega
          case rel=>exact ⟨(wrap64 (a4+1)),z1q_1,H',⟨(by have:=HK1.out;have:=HK2.out;omega)⟩,z1q_0⟩
         obtain rfl:=Option.some.inj H
         obtain ⟨ad605,d4,d5,e605,hx605_0,b8,HR605_0,g9,q605⟩:=al_ HR0.out a2
         obtain rfl:=ij_ e605
         obtain ⟨ad606,e606,hx606_0,h0,q606⟩:=ai_ HR605_0.out a4
         cases e606
         go_wp2_with (first|((with_reducible refine gate_callee (f:=72) rfl ?_);refine gl_ (some 38) Try.func72 #[.int .i64 (rd (rd_L1 l0 a2) a4),.int .i64 0,.int .i64 1] ?_;(with_reducible refine (spec_l1In.calls (rd (rd_L1 l0 a2) a4) 0 1 false _ i2.out).mono ?_);rintro e w' ⟨rfl,⟨nd,rfl⟩⟩;refine ⟨_,rfl,?_⟩))
         go_ret
         exact ⟨z1q_1,z1q_0⟩
        have H':=ak H
        clear H
        go_wp2
        go_roundg k2
        case measure=>have:=HK1.out;have:=HK2.out;omega
        case rel=>exact ⟨(wrap64 (a2+1)),z1q_1,H',⟨(by have:=HK1.out;have:=HK2.out;omega)⟩,z1q_0⟩
     have e8:((rd_L1 l0 a2).length==l0.length)=false:=by first|simpa using c7|(simp at c7 ⊢;omega)
     obtain rfl:=Option.some.inj H
     obtain ⟨ad604,d2,d3,e604,hx604_0,b7,HR604_0,e9,q604⟩:=al_ HR0.out a2
     cases e604
     go_wp2
     go_ret
     exact ⟨z1q_1,z1q_0⟩
    have H':=ak H
    clear H
    go_wp2
    go_loopg [6] k1 (fun kq v6 w'=>∃ (a0:Int),v6 = .int .i64 a0∧Aside0 (spec_OrderOk.l2 kq l0 (l0.length:Int) a0=some r)∧Aside0 (kq≤k1)∧Drawn0 w w')
    case atStart=>exact ⟨(0),z1q_1,H',⟨Nat.le_refl _⟩,z1q_0⟩
    case round =>
     clear H'
     try clear c3
     try clear c4
     try clear b2
     obtain ⟨a0,rfl,HA,HK2,⟨m2,rfl⟩⟩:=hrel
     cases gk with
     | zero=>exact absurd HA.out (by simp [spec_OrderOk.l2])
     | succ k2 =>
      have H:=HA.out
      clear HA
      simp only [spec_OrderOk.l2] at H
      replace H:=os_ H
      rcases H with ⟨b0,H⟩|⟨b0,H⟩
      ·
       have H':=ak H
       clear H
       go_wp2
       go_loopg [7] k2 (fun kq v7 w'=>∃ (a1:Int),v7 = .int .i64 a1∧Aside0 (spec_OrderOk.l3 kq l0 (l0.length:Int) a0 a1=some r)∧Aside0 (kq≤k2)∧Drawn0 w w')
       case atStart=>exact ⟨(0),z1q_1,H',⟨Nat.le_refl _⟩,z1q_0⟩
       case round =>
        clear H'
        try clear c3
        try clear c4
        try clear b2
        try clear i3
        try clear b0
        obtain ⟨a1,rfl,HA,HK3,⟨m3,rfl⟩⟩:=hrel
        cases gk with
        | zero=>exact absurd HA.out (by simp [spec_OrderOk.l3])
        | succ k3 =>
         have H:=HA.out
         clear HA
         simp only [spec_OrderOk.l3] at H
         replace H:=os_ H
         rcases H with ⟨b4,H⟩|⟨b4,H⟩
         ·
          have d6:=ak H
          clear H
          go_upto_region 20 with (fail)
          go_cut [87] (fun k9 wc=>∃ (kq:Nat) (a7:Bool),k9 = .bool a7∧Aside0 (spec_OrderOk.j4 kq l0 (l0.length:Int) a0 a1 a7=some r)∧Aside0 (kq≤k3)∧Drawn0 w wc)
          case first =>
           have H:=d6.out
           clear d6
           replace H:=oe2 H
           rcases H with ⟨⟨-,a6,f0⟩,H⟩|⟨⟨l9,a6,f0⟩,H⟩
           ·
            (first|rw [a6]|(simp only [i64_w,i32_w];rw [a6])|skip)
            replace H:=od4 H
            obtain ⟨i4,i5,i6,i7,H⟩:=H
            replace H:=oe2 H
            rcases H with ⟨⟨-,f1,f2⟩,H⟩|⟨⟨m0,f1,f2⟩,H⟩
            ·
             have H':=ak H
             clear H
             obtain ⟨ad608,d7,d8,e608,hx608_0,b9,HR608_0,h1,q608⟩:=al_ HR0.out a0
             cases e608
             obtain ⟨ad609,e609,hx609_0,h2,q609⟩:=ai_ HR608_0.out a1
             cases e609
             go_wp2
             go_meet
             case rel=>exact ⟨_,(true),z1q_1,H',⟨z1q_3⟩,z1q_0⟩
            have H':=ak H
            clear H
            obtain ⟨ad608,d7,d8,e608,hx608_0,b9,HR608_0,h1,q608⟩:=al_ HR0.out a0
            cases e608
            obtain ⟨ad609,e609,hx609_0,h2,q609⟩:=ai_ HR608_0.out a1
            cases e609
            go_wp2
            go_meet
            case rel=>exact ⟨_,(false),z1q_1,H',⟨z1q_3⟩,z1q_0⟩
           (first|rw [a6]|(simp only [i64_w,i32_w];rw [a6])|skip)
           replace H:=od4 H
           obtain ⟨i8,i9,j0,j1,H⟩:=H
           replace H:=oe2 H
           rcases H with ⟨⟨-,f3,f4⟩,H⟩|⟨⟨m4,f3,f4⟩,H⟩
           ·
            replace H:=od2 H
            obtain ⟨j2,j3,H⟩:=H
            have H':=ak H
            clear H
            obtain ⟨ad610,d9,e0,e610,hx610_0,d0,HR610_0,h3,q610⟩:=al_ HR0.out a0
            cases e610
            obtain ⟨ad611,e611,hx611_0,h4,q611⟩:=ai_ HR610_0.out a1
            cases e611
            obtain ⟨ad612,h5,h6,e612,hx612_0,g5,HR612_0,l5,q612⟩:=al_ HR0.out a1
            obtain rfl:=ij_ e612
            obtain ⟨ad613,e613,hx613_0,l6,q613⟩:=ai_ HR612_0.out a0
            cases e613
            go_wp2
            go_meet
            case rel=>exact ⟨_,(((rd (rd_L1 l0 a1) a0)==1)),z1q_1,H',⟨z1q_3⟩,z1q_0⟩
           have H':=ak H
           clear H
           obtain ⟨ad610,d9,e0,e610,hx610_0,d0,HR610_0,h3,q610⟩:=al_ HR0.out a0
           cases e610
           obtain ⟨ad611,e611,hx611_0,h4,q611⟩:=ai_ HR610_0.out a1
           cases e611
           go_wp2
           go_meet
           case rel=>exact ⟨_,(false),z1q_1,H',⟨z1q_3⟩,z1q_0⟩
          case rest =>
           clear d6
           try clear c3
           try clear c4
           try clear b2
           try clear i3
           try clear b0
           try clear l7
           try clear b4
           obtain ⟨kq,a7,rfl,HA,b3,⟨mc16,rfl⟩⟩:=hcut
           cases kq with
           | zero=>exact absurd HA.out (by simp [spec_OrderOk.j4])
           | succ f5 =>
            have H:=HA.out
            clear HA
            simp only [spec_OrderOk.j4] at H
            replace H:=ox_ H
            rcases H with ⟨rfl,H⟩|⟨rfl,H⟩
            ·
             obtain rfl:=Option.some.inj H
             go_wp2
             go_ret
             exact ⟨z1q_1,z1q_0⟩
            have H':=ak H
            clear H
            go_wp2
            go_loopg [8] f5 (fun kq v8 w'=>∃ (a3:Int),v8 = .int .i64 a3∧Aside0 (spec_OrderOk.l4 kq l0 (l0.length:Int) a0 a1 a3=some r)∧Aside0 (kq≤f5)∧Drawn0 w w')
            case atStart=>exact ⟨(0),z1q_1,H',⟨Nat.le_refl _⟩,z1q_0⟩
            case round =>
             clear H'
             try clear c3
             try clear c4
             try clear b2
             try clear i3
             try clear b0
             try clear l7
             try clear b4
             try clear m6
             obtain ⟨a3,rfl,HA,HK5,⟨m5,rfl⟩⟩:=hrel
             cases gk with
             | zero=>exact absurd HA.out (by simp [spec_OrderOk.l4])
             | succ k5 =>
              have H:=HA.out
              clear HA
              simp only [spec_OrderOk.l4] at H
              replace H:=os_ H
              rcases H with ⟨f6,H⟩|⟨f6,H⟩
              ·
               replace H:=od4 H
               obtain ⟨j5,j6,j7,j8,H⟩:=H
               replace H:=oe2 H
               rcases H with ⟨⟨-,f7,f8⟩,H⟩|⟨⟨m7,f7,f8⟩,H⟩
               ·
                replace H:=od3 H
                obtain ⟨j9,k0,k4,H⟩:=H
                replace H:=oe2 H
                rcases H with ⟨⟨-,f9,g0⟩,H⟩|⟨⟨m8,f9,g0⟩,H⟩
                ·
                 replace H:=od_ H
                 obtain ⟨k6,H⟩:=H
                 replace H:=oe2 H
                 rcases H with ⟨⟨-,g1,g2⟩,H⟩|⟨⟨m9,g1,g2⟩,H⟩
                 ·
                  obtain rfl:=Option.some.inj H
                  obtain ⟨ad614,a8,a9,e614,hx614_0,a5,HR614_0,e1,q614⟩:=al_ HR0.out a0
                  cases e614
                  obtain ⟨ad615,e615,hx615_0,e2,q615⟩:=ai_ HR614_0.out a1
                  cases e615
                  obtain ⟨ad616,b5,b6,e616,hx616_0,b1,HR616_0,g3,q616⟩:=al_ HR0.out a1
                  obtain rfl:=ij_ e616
                  obtain ⟨ad617,e617,hx617_0,g4,q617⟩:=ai_ HR616_0.out a3
                  cases e617
                  obtain ⟨ad618,e3,e4,e618,hx618_0,d1,HR618_0,h7,q618⟩:=al_ HR0.out a0
                  obtain rfl:=ij_ e618
                  obtain ⟨rfl,rfl⟩:=is_ hx614_0 hx618_0
                  obtain ⟨ad619,e619,hx619_0,h8,q619⟩:=ai_ HR618_0.out a3
                  cases e619
                  go_wp2
                  go_ret
                  exact ⟨z1q_1,z1q_0⟩
                 have H':=ak H
                 clear H
                 obtain ⟨ad614,a8,a9,e614,hx614_0,a5,HR614_0,e1,q614⟩:=al_ HR0.out a0
                 cases e614
                 obtain ⟨ad615,e615,hx615_0,e2,q615⟩:=ai_ HR614_0.out a1
                 cases e615
                 obtain ⟨ad616,b5,b6,e616,hx616_0,b1,HR616_0,g3,q616⟩:=al_ HR0.out a1
                 obtain rfl:=ij_ e616
                 obtain ⟨ad617,e617,hx617_0,g4,q617⟩:=ai_ HR616_0.out a3
                 cases e617
                 obtain ⟨ad618,e3,e4,e618,hx618_0,d1,HR618_0,h7,q618⟩:=al_ HR0.out a0
                 obtain rfl:=ij_ e618
                 obtain ⟨rfl,rfl⟩:=is_ hx614_0 hx618_0
                 obtain ⟨ad619,e619,hx619_0,h8,q619⟩:=ai_ HR618_0.out a3
                 cases e619
                 go_wp2
                 go_roundg k5
                 case measure=>have:=HK1.out;have:=HK2.out;have:=HK3.out;have:=b3.out;have:=HK5.out;omega
                 case rel=>exact ⟨(wrap64 (a3+1)),z1q_1,H',⟨z1q_2⟩,z1q_0⟩
                have H':=ak H
                clear H
                obtain ⟨ad614,a8,a9,e614,hx614_0,a5,HR614_0,e1,q614⟩:=al_ HR0.out a0
                cases e614
                obtain ⟨ad615,e615,hx615_0,e2,q615⟩:=ai_ HR614_0.out a1
                cases e615
                obtain ⟨ad616,b5,b6,e616,hx616_0,b1,HR616_0,g3,q616⟩:=al_ HR0.out a1
                obtain rfl:=ij_ e616
                obtain ⟨ad617,e617,hx617_0,g4,q617⟩:=ai_ HR616_0.out a3
                cases e617
                go_wp2
                go_roundg k5
                case measure=>have:=HK1.out;have:=HK2.out;have:=HK3.out;have:=b3.out;have:=HK5.out;omega
                case rel=>exact ⟨(wrap64 (a3+1)),z1q_1,H',⟨z1q_2⟩,z1q_0⟩
               have H':=ak H
               clear H
               obtain ⟨ad614,a8,a9,e614,hx614_0,a5,HR614_0,e1,q614⟩:=al_ HR0.out a0
               cases e614
               obtain ⟨ad615,e615,hx615_0,e2,q615⟩:=ai_ HR614_0.out a1
               cases e615
               go_wp2
               go_roundg k5
               case measure=>have:=HK1.out;have:=HK2.out;have:=HK3.out;have:=b3.out;have:=HK5.out;omega
               case rel=>exact ⟨(wrap64 (a3+1)),z1q_1,H',⟨z1q_2⟩,z1q_0⟩
              have H':=ak H
              clear H
              go_wp2
              go_roundg k5
              case measure=>have:=HK1.out;have:=HK2.out;have:=HK3.out;have:=b3.out;have:=HK5.out;omega
              case rel=>exact ⟨(wrap64 (a1+1)),z1q_1,H',⟨z1q_2⟩,z1q_0⟩
         have H':=ak H
         clear H
         go_wp2
         go_roundg k3
         case measure=>have:=HK1.out;have:=HK2.out;have:=HK3.out;omega
         case rel=>exact ⟨(wrap64 (a0+1)),z1q_1,H',⟨(by have:=HK1.out;have:=HK2.out;have:=HK3.out;omega)⟩,z1q_0⟩
      obtain rfl:=Option.some.inj H
      go_wp2
      go_ret
      exact ⟨z1q_1,z1q_0⟩
 obtain rfl:=Option.some.inj H
 go_enter Try.func112,Try.ntmps112
 go_wp2_with (first|((with_reducible refine gate_callee (f:=72) rfl ?_);refine gl_ (some 12) Try.func72 #[.int .i64 (l0.length:Int),.int .i64 1,.int .i64 12] ?_;(with_reducible refine (spec_l1In.calls (l0.length:Int) 1 12 false _ A2.out).mono ?_);rintro e w' ⟨rfl,⟨nd,rfl⟩⟩;refine ⟨_,rfl,?_⟩))
 go_ret
 exact ⟨z1q_1,z1q_0⟩

end Go.Proofs.Ytacifhahfamipaa.P
