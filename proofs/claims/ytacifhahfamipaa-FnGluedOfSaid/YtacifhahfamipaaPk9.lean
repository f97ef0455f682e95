/- 1 texts of this seat joined: walks, and the laws of what they compute. -/
import Derived.Test.YtacifhahfamipaaPk2
import Derived.Test.YtacifhahfamipaaPk8
import Derived.Test.YtacifhahfamipaaPk4
import Derived.Test.YtacifhahfamipaaPk6
import Derived.Test.YtacifhahfamipaaPk7
namespace Go.Proofs.Ytacifhahfamipaa.P
open Go.RowKit Go.Proofs.YtacifhahfamipaaW.PrintWords Go.Proofs.YtacifhahfamipaaW.PrintLast Go.Proofs.YtacifhahfamipaaW.PrintMore
attribute [local go_sem] max2_int min2_int max_two min_two max_three min_three max_four min_four
set_option linter.unusedVariables false
set_option linter.unusedSimpArgs false
def laws_FnGluedOf.T11:Bool × List (List Nat × List Nat):=(true,[([],[]),([0],[0]),([1],[1]),([2],[2]),([3,2],[2,3]),([2,4],[2,4]),([5,2],[5]),([6],[6]),([7,6],[6,7]),([8,6],[6,8]),([6],[6]),([10,6],[6,10]),([11,6],[6,11]),([9,12,6],[6,9,12]),([6,13],[6,13]),([14,6],[14]),([15],[15]),([16,15,15],[15,16]),([17,15],[15,17]),([15,18],[15,18]),([19,17],[19]),([20],[20]),([21,20,20],[20,21]),([20],[20]),([23,20],[20,23]),([24,20],[20,24]),([25,20],[20,25]),([22,26,20],[20,22,26]),([20,27],[20,27])])
def laws_FnGluedOf.B11:List Nat:=[0,1,3,7,15,31,63,127,255,511,127,1151,3199,8191,16383,32767,65535,131071,262143,524287,1048575,2097151,4194303,2097151,10485759,27262975,60817407,134217727,268435455]
theorem laws_FnGluedOf.tab11:rtab .any (opsOf Try.f12 11)=laws_FnGluedOf.T11:=by kernel_rfl
theorem laws_FnGluedOf.bits11:waitsOk laws_FnGluedOf.T11.2 laws_FnGluedOf.B11=true:=by kernel_rfl
theorem zb_85 {p:Prop} (h:p:=by kernel_rfl):p:=h
theorem zb_84 {p:Prop} (h:p:=by first|rfl|(simp;done)|(simp [*];done)):p:=h
theorem zb_83 {p:Prop} (h:p:=by (with_reducible repeat (first|apply Kd.Q_alloc|apply Kd.Q_drewN|apply Kd.Q_drew));exact Kd.Q_mono h7.out (fun _ hk=>⟨hk.1.1,⟨hk.1.2,hk.2⟩⟩)):p:=h
theorem zb_82 {p:Prop} (h:p:=by (with_reducible repeat (first|apply Kd.Q_alloc|apply Kd.Q_drewN|apply Kd.Q_drew));exact Kd.Q_mono h8.out (fun _ hk=>⟨hk.1.1,⟨hk.1.2,hk.2⟩⟩)):p:=h
theorem zb_81 {p:Prop} (h:p:=by (with_reducible repeat (first|apply Kd.R_alloc|apply Kd.R_drewN|apply Kd.R_drew));exact Kd.R_mono j9.out (fun _ hk=>⟨hk.1.1.2,⟨hk.1.2,hk.2⟩⟩)):p:=h
theorem zb_80 {p:Prop} (h:p:=by (with_reducible repeat (first|apply Kd.R_alloc|apply Kd.R_drewN|apply Kd.R_drew));exact Kd.R_mono l1.out (fun _ hk=>⟨hk.1.1.2,⟨hk.1.2,hk.2⟩⟩)):p:=h
theorem zb_79 {p:Prop} (h:p:=by (with_reducible repeat (first|apply Kd.R_alloc|apply Kd.R_drewN|apply Kd.R_drew));exact Kd.R_mono k3.out (fun _ hk=>⟨hk.1.1.1.1.2,⟨hk.1.1.1.2,⟨hk.1.1.2,⟨hk.1.2,hk.2⟩⟩⟩⟩)):p:=h
theorem zb_78 {p:Prop} (h:p:=by (with_reducible repeat (first|apply Kd.R_alloc|apply Kd.R_drewN|apply Kd.R_drew));exact Kd.R_mono l7.out (fun _ hk=>⟨hk.1.1.1.1.2,⟨hk.1.1.1.2,⟨hk.1.1.2,⟨hk.1.2,hk.2⟩⟩⟩⟩)):p:=h
theorem zb_77 {p:Prop} (h:p:=by (with_reducible repeat (first|apply Kd.Q_alloc|apply Kd.Q_drewN|apply Kd.Q_drew));exact Kd.Q_mono a4.out (fun _ hk=>⟨hk.1.1.1,⟨hk.1.1.2.1,⟨hk.1.1.2.2,⟨hk.1.2,hk.2⟩⟩⟩⟩)):p:=h
theorem zb_76 {p:Prop} (h:p:=by (with_reducible repeat (first|apply Kd.Q_alloc|apply Kd.Q_drewN|apply Kd.Q_drew));exact Kd.Q_mono a6.out (fun _ hk=>⟨hk.1.1.1,⟨hk.1.1.2.1,⟨hk.1.1.2.2,⟨hk.1.2,hk.2⟩⟩⟩⟩)):p:=h
theorem zb_75 {p:Prop} (h:p:=by (with_reducible repeat (first|apply Kd.Q_alloc|apply Kd.Q_drewN|apply Kd.Q_drew));exact Kd.Q_mono a2.out (fun _ hk=>⟨hk.1.1.1,⟨hk.1.1.2.1,⟨hk.1.1.2.2,⟨hk.1.2,hk.2⟩⟩⟩⟩)):p:=h
theorem zb_74 {p:Prop} (h:p:=by (with_reducible repeat (first|apply Kd.Q_alloc|apply Kd.Q_drewN|apply Kd.Q_drew));exact Kd.Q_mono a7.out (fun _ hk=>⟨hk.1.1.1,⟨hk.1.1.2.1,⟨hk.1.1.2.2,⟨hk.1.2,hk.2⟩⟩⟩⟩)):p:=h
theorem zb_73 {p:Prop} (h:p:=by (with_reducible repeat (first|apply Kd.S_alloc|apply Kd.S_drewN|apply Kd.S_drew));exact Kd.S_mono h9.out (fun _ hk=>⟨hk.1.1.1.1.1,⟨hk.1.1.1.1.2.1,⟨hk.1.1.1.1.2.2,⟨hk.1.1.1.2,⟨hk.1.1.2,⟨hk.1.2,hk.2⟩⟩⟩⟩⟩⟩)):p:=h
theorem zb_72 {p:Prop} (h:p:=by (with_reducible repeat (first|apply Kd.S_alloc|apply Kd.S_drewN|apply Kd.S_drew));exact Kd.S_mono i0.out (fun _ hk=>⟨hk.1.1.1.1.1,⟨hk.1.1.1.1.2.1,⟨hk.1.1.1.1.2.2,⟨hk.1.1.1.2,⟨hk.1.1.2,⟨hk.1.2,hk.2⟩⟩⟩⟩⟩⟩)):p:=h
theorem zb_71 {p:Prop} (h:p:=by (with_reducible repeat (first|apply Kd.S_alloc|apply Kd.S_drewN|apply Kd.S_drew));exact Kd.S_mono k0.out (fun _ hk=>⟨hk.1.1.1.1.1.2,⟨hk.1.1.1.1.2,⟨hk.1.1.1.2,⟨hk.1.1.2,⟨hk.1.1.1.1.1.1,⟨hk.1.2,hk.2⟩⟩⟩⟩⟩⟩)):p:=h
theorem zb_70 {p:Prop} (h:p:=by (with_reducible repeat (first|apply Kd.S_alloc|apply Kd.S_drewN|apply Kd.S_drew));exact Kd.S_mono l2.out (fun _ hk=>⟨hk.1.1.1.1.1.2,⟨hk.1.1.1.1.2,⟨hk.1.1.1.2,⟨hk.1.1.2,⟨hk.1.2,⟨hk.2,hk.1.1.1.1.1.1⟩⟩⟩⟩⟩⟩)):p:=h
theorem zb_69 {p:Prop} (h:p:=by refine (Kd.R_reads' (e:=3) (base:=w.heap.size) (ok:=fun k_=>(((True∧some k_≠(.slice e6 b5.length e3:Value).ownBlock)∧some k_≠(.slice e9 d0.length e7:Value).ownBlock)∧some k_≠(.slice f1 b9.length f0:Value).ownBlock)) (n:=d4.length) (c:=f2) ?_).2.2;exact zb_15):p:=h
theorem zb_68 {p:Prop} (h:p:=by refine (Kd.R_reads' (e:=3) (base:=w.heap.size) (ok:=fun k_=>(((True∧some k_≠(.slice e6 b5.length e3:Value).ownBlock)∧some k_≠(.slice e9 d0.length e7:Value).ownBlock)∧some k_≠(.slice f3 d4.length f2:Value).ownBlock)) (n:=b9.length) (c:=f0) ?_).2.2;exact zb_16):p:=h
theorem zb_67 {p:Prop} (h:p:=by (with_reducible repeat (first|apply Kd.S_alloc|apply Kd.S_drewN|apply Kd.S_drew));exact Kd.S_mono k4.out (fun _ hk=>⟨hk.1.1.1.1.1.1.1.1.1.2,⟨hk.1.1.1.1.1.1.1.1.2,⟨hk.1.1.1.1.1.1.1.2,⟨hk.1.1.1.1.1.1.2,⟨hk.1.1.1.1.1.2,⟨hk.1.1.1.1.2,⟨hk.1.1.1.2,⟨hk.1.1.2,⟨hk.1.1.1.1.1.1.1.1.1.1,⟨hk.1.2,hk.2⟩⟩⟩⟩⟩⟩⟩⟩⟩⟩)):p:=h
theorem zb_66 {p:Prop} (h:p:=by (with_reducible repeat (first|apply Kd.S_alloc|apply Kd.S_drewN|apply Kd.S_drew));exact Kd.S_mono l8.out (fun _ hk=>⟨hk.1.1.1.1.1.1.1.1.1.2,⟨hk.1.1.1.1.1.1.1.1.2,⟨hk.1.1.1.1.1.1.1.2,⟨hk.1.1.1.1.1.1.2,⟨hk.1.1.1.1.1.2,⟨hk.1.1.1.1.2,⟨hk.1.1.1.2,⟨hk.1.1.2,⟨hk.1.2,⟨hk.2,hk.1.1.1.1.1.1.1.1.1.1⟩⟩⟩⟩⟩⟩⟩⟩⟩⟩)):p:=h
theorem zb_65 {p:Prop} (h:p:=by (with_reducible repeat (first|apply Kd.S_alloc|apply Kd.S_drewN|apply Kd.S_drew));exact Kd.S_mono a5.out (fun _ hk=>⟨hk.1.1.1.1.1,⟨hk.1.1.1.1.2.1,⟨hk.1.1.1.1.2.2.1,⟨hk.1.1.1.1.2.2.2.1,⟨hk.1.1.1.1.2.2.2.2.1,⟨hk.1.1.1.1.2.2.2.2.2.1,⟨hk.1.1.1.1.2.2.2.2.2.2,⟨hk.1.1.1.2,⟨hk.1.1.2,⟨hk.1.2,hk.2⟩⟩⟩⟩⟩⟩⟩⟩⟩⟩)):p:=h
theorem zb_64 {p:Prop} (h:p:=by (with_reducible repeat (first|apply Kd.S_alloc|apply Kd.S_drewN|apply Kd.S_drew));exact Kd.S_mono a8.out (fun _ hk=>⟨hk.1.1.1.1.1,⟨hk.1.1.1.1.2.1,⟨hk.1.1.1.1.2.2.1,⟨hk.1.1.1.1.2.2.2.1,⟨hk.1.1.1.1.2.2.2.2.1,⟨hk.1.1.1.1.2.2.2.2.2.1,⟨hk.1.1.1.1.2.2.2.2.2.2,⟨hk.1.1.1.2,⟨hk.1.1.2,⟨hk.1.2,hk.2⟩⟩⟩⟩⟩⟩⟩⟩⟩⟩)):p:=h
theorem zb_63 {p:Prop} (h:p:=by (with_reducible repeat (first|apply Kd.S_alloc|apply Kd.S_drewN|apply Kd.S_drew));exact Kd.S_mono a3.out (fun _ hk=>⟨hk.1.1.1.1.1,⟨hk.1.1.1.1.2.1,⟨hk.1.1.1.1.2.2.1,⟨hk.1.1.1.1.2.2.2.1,⟨hk.1.1.1.1.2.2.2.2.1,⟨hk.1.1.1.1.2.2.2.2.2.1,⟨hk.1.1.1.1.2.2.2.2.2.2,⟨hk.1.1.1.2,⟨hk.1.1.2,⟨hk.1.2,hk.2⟩⟩⟩⟩⟩⟩⟩⟩⟩⟩)):p:=h
theorem zb_62 {p:Prop} (h:p:=by (with_reducible repeat (first|apply Kd.S_alloc|apply Kd.S_drewN|apply Kd.S_drew));exact Kd.S_mono a9.out (fun _ hk=>⟨hk.1.1.1.1.1,⟨hk.1.1.1.1.2.1,⟨hk.1.1.1.1.2.2.1,⟨hk.1.1.1.1.2.2.2.1,⟨hk.1.1.1.1.2.2.2.2.1,⟨hk.1.1.1.1.2.2.2.2.2.1,⟨hk.1.1.1.1.2.2.2.2.2.2,⟨hk.1.1.1.2,⟨hk.1.1.2,⟨hk.1.2,hk.2⟩⟩⟩⟩⟩⟩⟩⟩⟩⟩)):p:=h
theorem zb_61 {p:Prop} (h:p:=by repeat (first|(with_reducible first|exact HB.out|apply below_alloc|apply pw_below_drewN|apply below_drew1|refine below_set ?_ l9.out)|exact HB.out)):p:=h
theorem zb_60 {p:Prop} (h:p:=by (with_reducible repeat (first|apply Kd.Q_alloc|apply Kd.Q_drewN|apply Kd.Q_drew));exact (Kd.Q_mono (Kd.Q_far (p:=⟨d9,1,none⟩) (Kd.Q_far (p:=⟨d9,0,none⟩) (Kd.Q_types h7.out b4.out (by decide)) (fun _ hk=>hk.2) (.slice g7 e4.length g6)) (fun _ hk=>hk.2) (.slice f3 d4.length f2)) (fun _ h_=>h_.1))):p:=h
theorem zb_59 {p:Prop} (h:p:=by (with_reducible repeat (first|apply Kd.Q_alloc|apply Kd.Q_drewN|apply Kd.Q_drew));exact (Kd.Q_mono (Kd.Q_far (p:=⟨d9,1,none⟩) (Kd.Q_far (p:=⟨d9,0,none⟩) (Kd.Q_types h8.out b4.out (by decide)) (fun _ hk=>hk.2) (.slice g7 e4.length g6)) (fun _ hk=>hk.2) (.slice f3 d4.length f2)) (fun _ h_=>h_.1))):p:=h
theorem zb_58 {p:Prop} (h:p:=by (with_reducible repeat (first|apply Kd.R_alloc|apply Kd.R_drewN|apply Kd.R_drew));exact (Kd.R_mono (Kd.R_far (p:=⟨d5,1,none⟩) (Kd.R_far (p:=⟨d5,0,none⟩) (Kd.R_types k3.out b6.out (by decide)) (fun _ hk=>hk.2) (.slice g8 e8.length g9)) (fun _ hk=>hk.2) (.slice g1 d8.length g2)) (fun _ h_=>h_.1))):p:=h
theorem zb_57 {p:Prop} (h:p:=by (with_reducible repeat (first|apply Kd.R_alloc|apply Kd.R_drewN|apply Kd.R_drew));exact (Kd.R_mono (Kd.R_far (p:=⟨d5,1,none⟩) (Kd.R_far (p:=⟨d5,0,none⟩) (Kd.R_types l7.out b6.out (by decide)) (fun _ hk=>hk.2) (.slice g8 e8.length g9)) (fun _ hk=>hk.2) (.slice g1 d8.length g2)) (fun _ h_=>h_.1))):p:=h
theorem zb_56 {p:Prop} (h:p:=by (with_reducible repeat (first|apply Kd.S_alloc|apply Kd.S_drewN|apply Kd.S_drew));exact (Kd.S_mono (Kd.S_far (p:=⟨e0,1,none⟩) (Kd.S_far (p:=⟨e0,0,none⟩) (Kd.S_types k0.out b0.out (by decide)) (fun _ hk=>hk.2) (.slice f9 d6.length f7)) (fun _ hk=>hk.2) (.slice f1 b9.length f0)) (fun _ h_=>h_.1))):p:=h
theorem zb_55 {p:Prop} (h:p:=by (with_reducible repeat (first|apply Kd.S_alloc|apply Kd.S_drewN|apply Kd.S_drew));exact (Kd.S_mono (Kd.S_far (p:=⟨d9,1,none⟩) (Kd.S_far (p:=⟨d9,0,none⟩) (Kd.S_types h9.out b4.out (by decide)) (fun _ hk=>hk.2) (.slice g7 e4.length g6)) (fun _ hk=>hk.2) (.slice f3 d4.length f2)) (fun _ h_=>h_.1))):p:=h
theorem zb_54 {p:Prop} (h:p:=by (with_reducible repeat (first|apply Kd.S_alloc|apply Kd.S_drewN|apply Kd.S_drew));exact (Kd.S_mono (Kd.S_far (p:=⟨d9,1,none⟩) (Kd.S_far (p:=⟨d9,0,none⟩) (Kd.S_types i0.out b4.out (by decide)) (fun _ hk=>hk.2) (.slice g7 e4.length g6)) (fun _ hk=>hk.2) (.slice f3 d4.length f2)) (fun _ h_=>h_.1))):p:=h
theorem zb_53 {p:Prop} (h:p:=by (with_reducible repeat (first|apply Kd.S_alloc|apply Kd.S_drewN|apply Kd.S_drew));exact (Kd.S_mono (Kd.S_far (p:=⟨d5,1,none⟩) (Kd.S_far (p:=⟨d5,0,none⟩) (Kd.S_types k4.out b6.out (by decide)) (fun _ hk=>hk.2) (.slice g8 e8.length g9)) (fun _ hk=>hk.2) (.slice g1 d8.length g2)) (fun _ h_=>h_.1))):p:=h
theorem zb_52 {p:Prop} (h:p:=by (with_reducible repeat (first|apply Kd.S_alloc|apply Kd.S_drewN|apply Kd.S_drew));exact (Kd.S_mono (Kd.S_far (p:=⟨d5,1,none⟩) (Kd.S_far (p:=⟨d5,0,none⟩) (Kd.S_types l8.out b6.out (by decide)) (fun _ hk=>hk.2) (.slice g8 e8.length g9)) (fun _ hk=>hk.2) (.slice g1 d8.length g2)) (fun _ h_=>h_.1))):p:=h
theorem zb_51 {p:Prop} (h:p:=by (with_reducible repeat (first|apply Kd.Q_alloc|apply Kd.Q_drewN|apply Kd.Q_drew));exact (Kd.Q_mono (Kd.Q_far (p:=⟨d5,1,none⟩) (Kd.Q_far (p:=⟨d5,0,none⟩) (Kd.Q_types a6.out b6.out (by decide)) (fun _ hk=>hk.2) (.slice g8 e8.length g9)) (fun _ hk=>hk.2) (.slice g1 d8.length g2)) (fun _ h_=>h_.1))):p:=h
theorem zb_50 {p:Prop} (h:p:=by (with_reducible repeat (first|apply Kd.Q_alloc|apply Kd.Q_drewN|apply Kd.Q_drew));exact (Kd.Q_mono (Kd.Q_far (p:=⟨d5,1,none⟩) (Kd.Q_far (p:=⟨d5,0,none⟩) (Kd.Q_types a2.out b6.out (by decide)) (fun _ hk=>hk.2) (.slice g8 e8.length g9)) (fun _ hk=>hk.2) (.slice g1 d8.length g2)) (fun _ h_=>h_.1))):p:=h
theorem zb_49 {p:Prop} (h:p:=by (with_reducible repeat (first|apply Kd.Q_alloc|apply Kd.Q_drewN|apply Kd.Q_drew));exact (Kd.Q_mono (Kd.Q_far (p:=⟨d5,1,none⟩) (Kd.Q_far (p:=⟨d5,0,none⟩) (Kd.Q_types a7.out b6.out (by decide)) (fun _ hk=>hk.2) (.slice g8 e8.length g9)) (fun _ hk=>hk.2) (.slice g1 d8.length g2)) (fun _ h_=>h_.1))):p:=h
theorem zb_48 {p:Prop} (h:p:=by (with_reducible repeat (first|apply Kd.S_alloc|apply Kd.S_drewN|apply Kd.S_drew));exact (Kd.S_mono (Kd.S_far (p:=⟨e2,1,none⟩) (Kd.S_far (p:=⟨e2,0,none⟩) (Kd.S_types a8.out d1.out (by decide)) (fun _ hk=>hk.2) (.slice h6 f4.length h2)) (fun _ hk=>hk.2) (.slice g5 e5.length g3)) (fun _ h_=>h_.1))):p:=h
theorem zb_47 {p:Prop} (h:p:=by (with_reducible repeat (first|apply Kd.S_alloc|apply Kd.S_drewN|apply Kd.S_drew));exact (Kd.S_mono (Kd.S_far (p:=⟨e2,1,none⟩) (Kd.S_far (p:=⟨e2,0,none⟩) (Kd.S_types a3.out d1.out (by decide)) (fun _ hk=>hk.2) (.slice h6 f4.length h2)) (fun _ hk=>hk.2) (.slice g5 e5.length g3)) (fun _ h_=>h_.1))):p:=h
theorem zb_46 {p:Prop} (h:p:=by (with_reducible repeat (first|apply Kd.S_alloc|apply Kd.S_drewN|apply Kd.S_drew));exact (Kd.S_mono (Kd.S_far (p:=⟨e2,1,none⟩) (Kd.S_far (p:=⟨e2,0,none⟩) (Kd.S_types a9.out d1.out (by decide)) (fun _ hk=>hk.2) (.slice h6 f4.length h2)) (fun _ hk=>hk.2) (.slice g5 e5.length g3)) (fun _ h_=>h_.1))):p:=h
theorem zb_45 {p:Prop} (h:p:=by (with_reducible repeat (first|apply Kd.S_alloc|apply Kd.S_drewN|apply Kd.S_drew));exact (Kd.S_mono (Kd.S_far (p:=⟨d5,1,none⟩) (Kd.S_far (p:=⟨d5,0,none⟩) (Kd.S_types a5.out b6.out (by decide)) (fun _ hk=>hk.2) (.slice g8 e8.length g9)) (fun _ hk=>hk.2) (.slice g1 d8.length g2)) (fun _ h_=>h_.1))):p:=h
theorem zb_44 {p:Prop} (h:p:=by (with_reducible repeat (first|apply Kd.S_alloc|apply Kd.S_drewN|apply Kd.S_drew));exact (Kd.S_mono (Kd.S_far (p:=⟨d5,1,none⟩) (Kd.S_far (p:=⟨d5,0,none⟩) (Kd.S_types a8.out b6.out (by decide)) (fun _ hk=>hk.2) (.slice g8 e8.length g9)) (fun _ hk=>hk.2) (.slice g1 d8.length g2)) (fun _ h_=>h_.1))):p:=h
theorem zb_43 {p:Prop} (h:p:=by (with_reducible repeat (first|apply Kd.S_alloc|apply Kd.S_drewN|apply Kd.S_drew));exact (Kd.S_mono (Kd.S_far (p:=⟨d5,1,none⟩) (Kd.S_far (p:=⟨d5,0,none⟩) (Kd.S_types a3.out b6.out (by decide)) (fun _ hk=>hk.2) (.slice g8 e8.length g9)) (fun _ hk=>hk.2) (.slice g1 d8.length g2)) (fun _ h_=>h_.1))):p:=h
theorem zb_42 {p:Prop} (h:p:=by (with_reducible repeat (first|apply Kd.S_alloc|apply Kd.S_drewN|apply Kd.S_drew));exact (Kd.S_mono (Kd.S_far (p:=⟨d5,1,none⟩) (Kd.S_far (p:=⟨d5,0,none⟩) (Kd.S_types a9.out b6.out (by decide)) (fun _ hk=>hk.2) (.slice g8 e8.length g9)) (fun _ hk=>hk.2) (.slice g1 d8.length g2)) (fun _ h_=>h_.1))):p:=h
theorem zb_41 {p:Prop} (h:p:=by (with_reducible repeat (first|refine blk_drewN ?_ _|refine blk_drew ?_|refine blk_alloc ?_ _));refine blk_far ?_ h3.out _;(with_reducible repeat (first|refine blk_drewN ?_ _|refine blk_drew ?_|refine blk_alloc ?_ _));refine blk_far ?_ h3.out _;(with_reducible repeat (first|refine blk_drewN ?_ _|refine blk_drew ?_|refine blk_alloc ?_ _));exact a1.out):p:=h
theorem zb_40 {p:Prop} (h:p:=by (with_reducible repeat (first|refine blk_drewN ?_ _|refine blk_drew ?_|refine blk_alloc ?_ _));refine blk_far ?_ j6.out _;(with_reducible repeat (first|refine blk_drewN ?_ _|refine blk_drew ?_|refine blk_alloc ?_ _));refine blk_far ?_ j6.out _;(with_reducible repeat (first|refine blk_drewN ?_ _|refine blk_drew ?_|refine blk_alloc ?_ _));exact a1.out):p:=h
theorem zb_39 {p:Prop} (h:p:=by (with_reducible repeat (first|refine blk_drewN ?_ _|refine blk_drew ?_|refine blk_alloc ?_ _));refine blk_far ?_ j7.out _;(with_reducible repeat (first|refine blk_drewN ?_ _|refine blk_drew ?_|refine blk_alloc ?_ _));refine blk_far ?_ j7.out _;(with_reducible repeat (first|refine blk_drewN ?_ _|refine blk_drew ?_|refine blk_alloc ?_ _));exact b3.out):p:=h
theorem zb_38 {p:Prop} (h:p:=by (with_reducible repeat (first|refine blk_drewN ?_ _|refine blk_drew ?_|refine blk_alloc ?_ _));refine blk_far ?_ k5.out _;(with_reducible repeat (first|refine blk_drewN ?_ _|refine blk_drew ?_|refine blk_alloc ?_ _));refine blk_far ?_ k5.out _;(with_reducible repeat (first|refine blk_drewN ?_ _|refine blk_drew ?_|refine blk_alloc ?_ _));exact b3.out):p:=h
theorem zb_37 {p:Prop} (h:p:=by (with_reducible repeat (first|refine blk_drewN ?_ _|refine blk_drew ?_|refine blk_alloc ?_ _));refine blk_far ?_ h4.out _;(with_reducible repeat (first|refine blk_drewN ?_ _|refine blk_drew ?_|refine blk_alloc ?_ _));refine blk_far ?_ h4.out _;(with_reducible repeat (first|refine blk_drewN ?_ _|refine blk_drew ?_|refine blk_alloc ?_ _));exact b0.out):p:=h
theorem zb_36 {p:Prop} (h:p:=by (with_reducible repeat (first|refine blk_drewN ?_ _|refine blk_drew ?_|refine blk_alloc ?_ _));refine blk_far ?_ i5.out _;(with_reducible repeat (first|refine blk_drewN ?_ _|refine blk_drew ?_|refine blk_alloc ?_ _));refine blk_far ?_ i5.out _;(with_reducible repeat (first|refine blk_drewN ?_ _|refine blk_drew ?_|refine blk_alloc ?_ _));exact b0.out):p:=h
theorem zb_35 {p:Prop} (h:p:=by (with_reducible repeat (first|refine blk_drewN ?_ _|refine blk_drew ?_|refine blk_alloc ?_ _));refine blk_far ?_ l4.out _;(with_reducible repeat (first|refine blk_drewN ?_ _|refine blk_drew ?_|refine blk_alloc ?_ _));refine blk_far ?_ l4.out _;(with_reducible repeat (first|refine blk_drewN ?_ _|refine blk_drew ?_|refine blk_alloc ?_ _));exact b4.out):p:=h
theorem zb_34 {p:Prop} (h:p:=by (with_reducible repeat (first|refine blk_drewN ?_ _|refine blk_drew ?_|refine blk_alloc ?_ _));refine blk_far ?_ l5.out _;(with_reducible repeat (first|refine blk_drewN ?_ _|refine blk_drew ?_|refine blk_alloc ?_ _));refine blk_far ?_ l5.out _;(with_reducible repeat (first|refine blk_drewN ?_ _|refine blk_drew ?_|refine blk_alloc ?_ _));exact d1.out):p:=h
theorem zb_33 {p:Prop} (h:p:=by refine (Kd.Q_reads' (e:=3) (base:=w.heap.size) (ok:=fun k_=>(((some k_≠(.slice e9 d0.length e7:Value).ownBlock∧(some k_≠(.slice f1 b9.length f0:Value).ownBlock∧some k_≠(.slice f3 d4.length f2:Value).ownBlock))∧some k_≠(.slice g5 e5.length g3:Value).ownBlock)∧some k_≠(.slice g1 d8.length g2:Value).ownBlock)) (n:=b5.length) (c:=e3) ?_).2.2;exact zb_9):p:=h
theorem zb_32 {p:Prop} (h:p:=by (with_reducible repeat (first|refine blk_drewN ?_ _|refine blk_drew ?_|refine blk_alloc ?_ _));refine blk_put (cs:=#[.slice g7 e4.length g6,.slice none 0 0]) ?_ 1 _ rfl;(with_reducible repeat (first|refine blk_drewN ?_ _|refine blk_drew ?_|refine blk_alloc ?_ _));refine blk_put (cs:=#[.slice none 0 0,.slice none 0 0]) ?_ 0 _ rfl;(with_reducible repeat (first|refine blk_drewN ?_ _|refine blk_drew ?_|refine blk_alloc ?_ _));exact b4.out):p:=h
theorem zb_31 {p:Prop} (h:p:=by (with_reducible repeat (first|refine blk_drewN ?_ _|refine blk_drew ?_|refine blk_alloc ?_ _));refine blk_put (cs:=#[.slice g8 e8.length g9,.slice none 0 0]) ?_ 1 _ rfl;(with_reducible repeat (first|refine blk_drewN ?_ _|refine blk_drew ?_|refine blk_alloc ?_ _));refine blk_put (cs:=#[.slice none 0 0,.slice none 0 0]) ?_ 0 _ rfl;(with_reducible repeat (first|refine blk_drewN ?_ _|refine blk_drew ?_|refine blk_alloc ?_ _));exact b6.out):p:=h
theorem zb_30 {p:Prop} (h:p:=by refine (Kd.S_reads' (e:=25) (base:=w.heap.size) (ok:=fun k_=>((((((some k_≠(.slice f1 b9.length f0:Value).ownBlock∧some k_≠(.slice f6 d3.length f5:Value).ownBlock)∧some k_≠(.slice e6 b5.length e3:Value).ownBlock)∧some k_≠(.slice g0 d7.length f8:Value).ownBlock)∧some k_≠(.slice e9 d0.length e7:Value).ownBlock)∧some k_≠(.slice g7 e4.length g6:Value).ownBlock)∧some k_≠(.slice f3 d4.length f2:Value).ownBlock)) (n:=d6.length) (c:=f7) ?_).2.2;exact zb_13):p:=h
theorem zb_29 {p:Prop} (h:p:=by refine (Kd.S_reads' (e:=25) (base:=w.heap.size) (ok:=fun k_=>((((((some k_≠(.slice f3 d4.length f2:Value).ownBlock∧some k_≠(.slice f6 d3.length f5:Value).ownBlock)∧some k_≠(.slice e6 b5.length e3:Value).ownBlock)∧some k_≠(.slice g0 d7.length f8:Value).ownBlock)∧some k_≠(.slice e9 d0.length e7:Value).ownBlock)∧some k_≠(.slice f9 d6.length f7:Value).ownBlock)∧some k_≠(.slice f1 b9.length f0:Value).ownBlock)) (n:=e4.length) (c:=g6) ?_).2.2;exact zb_12):p:=h
theorem zb_28 {p:Prop} (h:p:=by (with_reducible repeat (first|apply Kd.R_alloc|apply Kd.R_drewN|apply Kd.R_drew));exact (Kd.R_mono (Kd.R_far (p:=⟨e0,1,none⟩) (Kd.R_far (p:=⟨e0,0,none⟩) (Kd.R_types j9.out b0.out (by decide)) (fun _ hk=>hk.2) (.slice f9 d6.length f7)) (fun _ hk=>hk.2) (.slice f1 b9.length f0)) (fun _ h_=>h_.1))):p:=h
theorem zb_27 {p:Prop} (h:p:=by (with_reducible repeat (first|apply Kd.S_alloc|apply Kd.S_drewN|apply Kd.S_drew));exact (Kd.S_mono (Kd.S_far (p:=⟨e0,1,none⟩) (Kd.S_far (p:=⟨e0,0,none⟩) (Kd.S_types h9.out b0.out (by decide)) (fun _ hk=>hk.2) (.slice f9 d6.length f7)) (fun _ hk=>hk.2) (.slice f1 b9.length f0)) (fun _ h_=>h_.1))):p:=h
theorem zb_26 {p:Prop} (h:p:=by (with_reducible repeat (first|apply Kd.S_alloc|apply Kd.S_drewN|apply Kd.S_drew));exact (Kd.S_mono (Kd.S_far (p:=⟨e0,1,none⟩) (Kd.S_far (p:=⟨e0,0,none⟩) (Kd.S_types i0.out b0.out (by decide)) (fun _ hk=>hk.2) (.slice f9 d6.length f7)) (fun _ hk=>hk.2) (.slice f1 b9.length f0)) (fun _ h_=>h_.1))):p:=h
theorem zb_25 {p:Prop} (h:p:=by (with_reducible repeat (first|apply Kd.S_alloc|apply Kd.S_drewN|apply Kd.S_drew));exact (Kd.S_mono (Kd.S_far (p:=⟨e2,1,none⟩) (Kd.S_far (p:=⟨e2,0,none⟩) (Kd.S_types k4.out d1.out (by decide)) (fun _ hk=>hk.2) (.slice h6 f4.length h2)) (fun _ hk=>hk.2) (.slice g5 e5.length g3)) (fun _ h_=>h_.1))):p:=h
theorem zb_24 {p:Prop} (h:p:=by (with_reducible repeat (first|apply Kd.Q_alloc|apply Kd.Q_drewN|apply Kd.Q_drew));exact (Kd.Q_mono (Kd.Q_far (p:=⟨e2,1,none⟩) (Kd.Q_far (p:=⟨e2,0,none⟩) (Kd.Q_types a6.out d1.out (by decide)) (fun _ hk=>hk.2) (.slice h6 f4.length h2)) (fun _ hk=>hk.2) (.slice g5 e5.length g3)) (fun _ h_=>h_.1))):p:=h
theorem zb_23 {p:Prop} (h:p:=by (with_reducible repeat (first|apply Kd.Q_alloc|apply Kd.Q_drewN|apply Kd.Q_drew));exact (Kd.Q_mono (Kd.Q_far (p:=⟨e2,1,none⟩) (Kd.Q_far (p:=⟨e2,0,none⟩) (Kd.Q_types a2.out d1.out (by decide)) (fun _ hk=>hk.2) (.slice h6 f4.length h2)) (fun _ hk=>hk.2) (.slice g5 e5.length g3)) (fun _ h_=>h_.1))):p:=h
theorem zb_22 {p:Prop} (h:p:=by (with_reducible repeat (first|apply Kd.Q_alloc|apply Kd.Q_drewN|apply Kd.Q_drew));exact (Kd.Q_mono (Kd.Q_far (p:=⟨e2,1,none⟩) (Kd.Q_far (p:=⟨e2,0,none⟩) (Kd.Q_types a7.out d1.out (by decide)) (fun _ hk=>hk.2) (.slice h6 f4.length h2)) (fun _ hk=>hk.2) (.slice g5 e5.length g3)) (fun _ h_=>h_.1))):p:=h
theorem zb_21 {p:Prop} (h:p:=by (with_reducible repeat (first|apply Kd.S_alloc|apply Kd.S_drewN|apply Kd.S_drew));exact (Kd.S_mono (Kd.S_far (p:=⟨e2,1,none⟩) (Kd.S_far (p:=⟨e2,0,none⟩) (Kd.S_types a5.out d1.out (by decide)) (fun _ hk=>hk.2) (.slice h6 f4.length h2)) (fun _ hk=>hk.2) (.slice g5 e5.length g3)) (fun _ h_=>h_.1))):p:=h
theorem zb_20 {p:Prop} (h:p:=by first|rfl|(simp [errW_none,errW_some] <;> rfl)|(simp [*,errW_none,errW_some] <;> rfl)):p:=h
theorem zb_19 {p:Prop} (h:p:=by repeat (first|(with_reducible first|exact HB.out|apply below_alloc|apply pw_below_drewN|apply below_drew1|refine below_set ?_ l9.out|refine below_set ?_ m2.out)|exact HB.out)):p:=h
theorem zb_18 {p:Prop} (h:p:=by (with_reducible repeat (first|apply Kd.Q_alloc|apply Kd.Q_drewN|apply Kd.Q_drew));exact (Kd.Q_mono (Kd.Q_far (p:=⟨e0,1,none⟩) (Kd.Q_far (p:=⟨e0,0,none⟩) (Kd.Q_types h7.out b0.out (by decide)) (fun _ hk=>hk.2) (.slice f9 d6.length f7)) (fun _ hk=>hk.2) (.slice f1 b9.length f0)) (fun _ h_=>h_.1))):p:=h
theorem zb_17 {p:Prop} (h:p:=by (with_reducible repeat (first|apply Kd.Q_alloc|apply Kd.Q_drewN|apply Kd.Q_drew));exact (Kd.Q_mono (Kd.Q_far (p:=⟨e0,1,none⟩) (Kd.Q_far (p:=⟨e0,0,none⟩) (Kd.Q_types h8.out b0.out (by decide)) (fun _ hk=>hk.2) (.slice f9 d6.length f7)) (fun _ hk=>hk.2) (.slice f1 b9.length f0)) (fun _ h_=>h_.1))):p:=h
theorem zb_16 {p:Prop} (h:p:=by (with_reducible repeat (first|apply Kd.R_alloc|apply Kd.R_drewN|apply Kd.R_drew));exact (Kd.R_mono (Kd.R_far (p:=⟨d9,1,none⟩) (Kd.R_far (p:=⟨d9,0,none⟩) (Kd.R_types j9.out b4.out (by decide)) (fun _ hk=>hk.2) (.slice g7 e4.length g6)) (fun _ hk=>hk.2) (.slice f3 d4.length f2)) (fun _ h_=>h_.1))):p:=h
theorem zb_15 {p:Prop} (h:p:=by (with_reducible repeat (first|apply Kd.R_alloc|apply Kd.R_drewN|apply Kd.R_drew));exact (Kd.R_mono (Kd.R_far (p:=⟨d9,1,none⟩) (Kd.R_far (p:=⟨d9,0,none⟩) (Kd.R_types l1.out b4.out (by decide)) (fun _ hk=>hk.2) (.slice g7 e4.length g6)) (fun _ hk=>hk.2) (.slice f3 d4.length f2)) (fun _ h_=>h_.1))):p:=h
theorem zb_14 {p:Prop} (h:p:=by (with_reducible repeat (first|apply Kd.R_alloc|apply Kd.R_drewN|apply Kd.R_drew));exact (Kd.R_mono (Kd.R_far (p:=⟨e2,1,none⟩) (Kd.R_far (p:=⟨e2,0,none⟩) (Kd.R_types k3.out d1.out (by decide)) (fun _ hk=>hk.2) (.slice h6 f4.length h2)) (fun _ hk=>hk.2) (.slice g5 e5.length g3)) (fun _ h_=>h_.1))):p:=h
theorem zb_13 {p:Prop} (h:p:=by (with_reducible repeat (first|apply Kd.S_alloc|apply Kd.S_drewN|apply Kd.S_drew));exact (Kd.S_mono (Kd.S_far (p:=⟨d9,1,none⟩) (Kd.S_far (p:=⟨d9,0,none⟩) (Kd.S_types k0.out b4.out (by decide)) (fun _ hk=>hk.2) (.slice g7 e4.length g6)) (fun _ hk=>hk.2) (.slice f3 d4.length f2)) (fun _ h_=>h_.1))):p:=h
theorem zb_12 {p:Prop} (h:p:=by (with_reducible repeat (first|apply Kd.S_alloc|apply Kd.S_drewN|apply Kd.S_drew));exact (Kd.S_mono (Kd.S_far (p:=⟨d9,1,none⟩) (Kd.S_far (p:=⟨d9,0,none⟩) (Kd.S_types l2.out b4.out (by decide)) (fun _ hk=>hk.2) (.slice g7 e4.length g6)) (fun _ hk=>hk.2) (.slice f3 d4.length f2)) (fun _ h_=>h_.1))):p:=h
theorem zb_11 {p:Prop} (h:p:=by repeat (first|(with_reducible first|exact HB.out|apply below_alloc|apply pw_below_drewN|apply below_drew1)|exact HB.out)):p:=h
theorem zb_10 {p:Prop} (h:p:=by (with_reducible repeat (first|apply Kd.Q_alloc|apply Kd.Q_drewN|apply Kd.Q_drew));exact (Kd.Q_mono (Kd.Q_far (p:=⟨e2,1,none⟩) (Kd.Q_far (p:=⟨e2,0,none⟩) (Kd.Q_types a4.out d1.out (by decide)) (fun _ hk=>hk.2) (.slice h6 f4.length h2)) (fun _ hk=>hk.2) (.slice g5 e5.length g3)) (fun _ h_=>h_.1))):p:=h
theorem zb_9 {p:Prop} (h:p:=by (with_reducible repeat (first|apply Kd.Q_alloc|apply Kd.Q_drewN|apply Kd.Q_drew));exact (Kd.Q_mono (Kd.Q_far (p:=⟨d5,1,none⟩) (Kd.Q_far (p:=⟨d5,0,none⟩) (Kd.Q_types a4.out b6.out (by decide)) (fun _ hk=>hk.2) (.slice g8 e8.length g9)) (fun _ hk=>hk.2) (.slice g1 d8.length g2)) (fun _ h_=>h_.1))):p:=h
theorem zb_8 {p:Prop} (h:p:=by repeat (first|(with_reducible first|exact HB.out|apply below_alloc|apply pw_below_drewN|apply below_drew1|refine below_set ?_ l9.out|refine below_set ?_ m2.out|refine below_set ?_ m4.out)|exact HB.out)):p:=h
theorem zb_7 {p:Prop} (h:p:=by refine (Kd.S_reads' (e:=25) (base:=w.heap.size) (ok:=fun k_=>(((((some k_≠(.slice e6 b5.length e3:Value).ownBlock∧(some k_≠(.slice g0 d7.length f8:Value).ownBlock∧(some k_≠(.slice e9 d0.length e7:Value).ownBlock∧(some k_≠(.slice f9 d6.length f7:Value).ownBlock∧(some k_≠(.slice f1 b9.length f0:Value).ownBlock∧(some k_≠(.slice g7 e4.length g6:Value).ownBlock∧some k_≠(.slice f3 d4.length f2:Value).ownBlock))))))∧some k_≠(.slice h6 f4.length h2:Value).ownBlock)∧some k_≠(.slice g5 e5.length g3:Value).ownBlock)∧some k_≠(.slice g8 e8.length g9:Value).ownBlock)∧some k_≠(.slice g1 d8.length g2:Value).ownBlock)) (n:=d3.length) (c:=f5) ?_).2.2;exact (by (with_reducible repeat (first|apply Kd.S_alloc|apply Kd.S_drewN|apply Kd.S_drew));exact (Kd.S_mono (Kd.S_far (p:=⟨d5,1,none⟩) (Kd.S_far (p:=⟨d5,0,none⟩) (Kd.S_types a5.out b6.out (by decide)) (fun _ hk=>hk.2) (.slice g8 e8.length g9)) (fun _ hk=>hk.2) (.slice g1 d8.length g2)) (fun _ h_=>h_.1)))):p:=h
theorem zb_6 {p:Prop} (h:p:=by (with_reducible repeat (first|apply Kd.S_alloc|apply Kd.S_drewN|apply Kd.S_drew));exact (Kd.S_mono (Kd.S_mono (Kd.S_far (p:=⟨e1,1,none⟩) (Kd.S_far (p:=⟨e1,0,none⟩) (Kd.S_far (p:=⟨d2,1,none⟩) (Kd.S_far (p:=⟨d2,0,none⟩) (Kd.S_types (Kd.S_types h9.out a1.out (by decide)) b3.out (by decide)) (fun _ hk=>hk.1.2) (.slice f6 d3.length f5)) (fun _ hk=>hk.1.2) (.slice e6 b5.length e3)) (fun _ hk=>hk.2) (.slice g0 d7.length f8)) (fun _ hk=>hk.2) (.slice e9 d0.length e7)) (fun _ h_=>h_.1)) (fun _ h_=>h_.1))):p:=h
theorem zb_5 {p:Prop} (h:p:=by (with_reducible repeat (first|apply Kd.S_alloc|apply Kd.S_drewN|apply Kd.S_drew));exact (Kd.S_mono (Kd.S_mono (Kd.S_far (p:=⟨e1,1,none⟩) (Kd.S_far (p:=⟨e1,0,none⟩) (Kd.S_far (p:=⟨d2,1,none⟩) (Kd.S_far (p:=⟨d2,0,none⟩) (Kd.S_types (Kd.S_types i0.out a1.out (by decide)) b3.out (by decide)) (fun _ hk=>hk.1.2) (.slice f6 d3.length f5)) (fun _ hk=>hk.1.2) (.slice e6 b5.length e3)) (fun _ hk=>hk.2) (.slice g0 d7.length f8)) (fun _ hk=>hk.2) (.slice e9 d0.length e7)) (fun _ h_=>h_.1)) (fun _ h_=>h_.1))):p:=h
theorem zb_4 {p:Prop} (h:p:=by repeat (first|(with_reducible first|exact HB.out|apply below_alloc|apply pw_below_drewN|apply below_drew1|refine below_set ?_ l9.out|refine below_set ?_ m2.out|refine below_set ?_ m4.out|refine below_set ?_ m9.out|refine below_set ?_ n3.out)|exact HB.out)):p:=h
theorem zb_3 {p:Prop} (h:p:=by (with_reducible repeat (first|apply Kd.Q_alloc|apply Kd.Q_drewN|apply Kd.Q_drew));exact (Kd.Q_mono (Kd.Q_mono (Kd.Q_far (p:=⟨e1,1,none⟩) (Kd.Q_far (p:=⟨e1,0,none⟩) (Kd.Q_far (p:=⟨d2,1,none⟩) (Kd.Q_far (p:=⟨d2,0,none⟩) (Kd.Q_types (Kd.Q_types h7.out a1.out (by decide)) b3.out (by decide)) (fun _ hk=>hk.1.2) (.slice f6 d3.length f5)) (fun _ hk=>hk.1.2) (.slice e6 b5.length e3)) (fun _ hk=>hk.2) (.slice g0 d7.length f8)) (fun _ hk=>hk.2) (.slice e9 d0.length e7)) (fun _ h_=>h_.1)) (fun _ h_=>h_.1))):p:=h
theorem zb_2 {p:Prop} (h:p:=by (with_reducible repeat (first|apply Kd.Q_alloc|apply Kd.Q_drewN|apply Kd.Q_drew));exact (Kd.Q_mono (Kd.Q_mono (Kd.Q_far (p:=⟨e1,1,none⟩) (Kd.Q_far (p:=⟨e1,0,none⟩) (Kd.Q_far (p:=⟨d2,1,none⟩) (Kd.Q_far (p:=⟨d2,0,none⟩) (Kd.Q_types (Kd.Q_types h8.out a1.out (by decide)) b3.out (by decide)) (fun _ hk=>hk.1.2) (.slice f6 d3.length f5)) (fun _ hk=>hk.1.2) (.slice e6 b5.length e3)) (fun _ hk=>hk.2) (.slice g0 d7.length f8)) (fun _ hk=>hk.2) (.slice e9 d0.length e7)) (fun _ h_=>h_.1)) (fun _ h_=>h_.1))):p:=h
theorem zb_1 {p:Prop} (h:p:=by repeat (first|(with_reducible first|exact HB.out|apply below_alloc|apply pw_below_drewN|apply below_drew1|refine below_set ?_ l9.out|refine below_set ?_ m2.out|refine below_set ?_ m4.out|refine below_set ?_ m9.out)|exact HB.out)):p:=h
theorem zb_0 {p:Prop} (h:p:=by repeat (first|(with_reducible first|exact HB.out|apply below_alloc|apply pw_below_drewN|apply below_drew1|refine below_set ?_ l9.out|refine below_set ?_ m2.out|refine below_set ?_ m4.out|refine below_set ?_ m9.out|refine below_set ?_ n3.out|refine below_set ?_ o1.out)|exact HB.out)):p:=h
set_option maxHeartbeats 8000000 in
set_option maxRecDepth 100000 in
theorem laws_FnGluedOf.calls (k:Nat) (A0:Option Addr) (c0:Nat) (l0:List Int) (r:Bool) (w:World) (hr0:Kd.C (Kd.int .u8) w A0 l0.length l0) (hc0:l0.length≤c0) (h:laws_FnGluedOf.f k l0=some r) :
 Calls Try.prog 12 #[.slice A0 l0.length c0] w fun e w'=>e = .returned (.bool r)∧Below w.heap.size w w':=by
 have hu27:=Try.underlying27
 have HR0:=ak hr0
 have M9:=ak hc0
 clear hr0 hc0
 have HB:=ak (Below.refl w.heap.size w)
 have H:(if (l0.length:Int)>1048576 then (some true) else ((spec_DrawGluedOf.f k l0).bind fun j5=>((impl_GluedOf.f j5.1 j5.2.1 j5.2.2.1 j5.2.2.2).bind fun l3=>((spec_GluedOf.f j5.1 j5.2.1 j5.2.2.1 j5.2.2.2).bind fun n0=>((laws_sameLogic.f k l3.1 l3.2.1 n0.1 n0.2.1).bind fun n6=>(if n6=true then (laws_FnGluedOf.j0 k l3.2.2 (l3.2.2 != n0.2.2) j5.1 j5.2.1 j5.2.2.1 j5.2.2.2 l3.1 l3.2.1) else (laws_FnGluedOf.j0 k l3.2.2 true j5.1 j5.2.1 j5.2.2.1 j5.2.2.2 l3.1 l3.2.1)))))))=some r:=h
 clear h
 replace H:=op_ H
 rcases H with ⟨c2,H⟩|⟨c2,H⟩
 ·
  have o2:decide (1048576<(l0.length:Int))=true:=dT_ c2
  have o3:decide (1048576<l0.length)=true:=dT_ (by omega)
  clear c2
  obtain rfl:=Option.some.inj H
  go_enter Try.func12,Try.ntmps12
  go_wp2
  go_ret
  exact ⟨zb_20,zb_11⟩
 have o2:decide (1048576<(l0.length:Int))=false:=dF_ c2
 have o3:decide (1048576<l0.length)=false:=dF_ (by omega)
 clear c2
 replace H:=bd_ H
 obtain ⟨⟨d3,b5,d7,d0⟩,A3,H⟩:=H
 try dsimp only at H
 replace H:=bd_ H
 obtain ⟨⟨d6,b9,m5⟩,A4,H⟩:=H
 try dsimp only at H
 replace H:=bd_ H
 obtain ⟨⟨e4,d4,n7⟩,A5,H⟩:=H
 try dsimp only at H
 have s0:=ak H
 clear H
 go_enter Try.func12,Try.ntmps12
 go_upto_region 6 with (first|((with_reducible refine gate_callee (f:=52) rfl ?_);refine gl_ (some 18) Try.func52 #[.slice A0 l0.length c0] ?_;(with_reducible refine (spec_DrawGluedOf.calls k _ _ l0 d3 b5 d7 d0 _ (y4 HR0.out) M9.out A3.out).mono ?_);rintro e w' ⟨C6,C7,C8,C9,rfl,ho0,ho1,ho2,ho3,hb⟩;refine ⟨_,rfl,?_⟩;have h9:=ak (Kd.S_lower ho0 (below_size zb_11));have h7:=ak (Kd.Q_lower ho1 (below_size zb_11));have i0:=ak (Kd.S_lower ho2 (below_size zb_11));have h8:=ak (Kd.Q_lower ho3 (below_size zb_11));replace HB:=ak (below_step zb_11 hb);(try clear hb);(try clear hb2);(try clear hk);(try clear hi);(try clear ho0);(try clear ho1);(try clear ho2);(try clear ho3))|((with_reducible refine gate_dst (N:=3) rfl ?_);(try (refine gate_guard (by rfl) ?_;dsimp only));refine box_event ?hg (N:=3) ?hd (cs:=#[.slice none 0 0,.slice none 0 0]) (t:=27) ?hr ?_;(case hd=>rfl);(case hg=>rfl);(case hr=>first|(go_simp;done)|(go_simp;rfl));intro d2 hg w8 hbox hb;replace h9:=ak (Kd.S_below (xS h9.out) hb);replace h7:=ak (Kd.Q_below (xQ h7.out) hb);replace i0:=ak (Kd.S_below (xS i0.out) hb);replace h8:=ak (Kd.Q_below (xQ h8.out) hb);have a1:=ak (hbox);have s1:=ak ((by rw [hg];exact (below_size zb_11):w.heap.size≤d2));have l9:=ak ((by rw [hg];exact (below_size zb_11):w.heap.size≤d2));replace HB:=ak (below_step zb_11 hb);clear hb hbox hg)|((with_reducible refine gate_dst (N:=4) rfl ?_);(try (refine gate_guard (by rfl) ?_;dsimp only));refine box_event ?hg (N:=4) ?hd (cs:=#[.slice none 0 0,.slice none 0 0]) (t:=27) ?hr ?_;(case hd=>rfl);(case hg=>rfl);(case hr=>first|(go_simp;done)|(go_simp;rfl));intro e1 hg w9 hbox hb;replace h9:=ak (Kd.S_below (xS h9.out) hb);replace h7:=ak (Kd.Q_below (xQ h7.out) hb);replace i0:=ak (Kd.S_below (xS i0.out) hb);replace h8:=ak (Kd.Q_below (xQ h8.out) hb);have b3:=ak (hbox);have s2:=ak ((by rw [hg];exact (below_size zb_61):w.heap.size≤e1));have m2:=ak ((by rw [hg];exact (below_size zb_61):w.heap.size≤e1));replace HB:=ak (below_step zb_61 hb);have i6:=ak ((by rw [hg];exact Nat.ne_of_lt (blk_lt (g:=d2) (o:=.cells #[.slice none 0 0,.slice none 0 0] 27 (0,0)) (xb a1.out)):d2≠e1));have i7:=ak ((by rw [hg];exact Nat.ne_of_gt (blk_lt (g:=d2) (o:=.cells #[.slice none 0 0,.slice none 0 0] 27 (0,0)) (xb a1.out)):e1≠d2));replace a1:=ak (blk_below (g:=d2) (o:=.cells #[.slice none 0 0,.slice none 0 0] 27 (0,0)) (xb a1.out) hb);clear hb hbox hg;obtain ⟨f6,f5,s3⟩:=Kd.S_slice h9.out;subst s3;have D0:=i6.out;have D1:=i7.out;have i1:=cz20 a1.out;have i2:=cz21 a1.out;have i3:=blk_frozen a1.out 0;have i4:=blk_frozen a1.out 1;obtain ⟨e6,e3,s4,_⟩:=Kd.Q_slice h7.out;subst s4;obtain ⟨g0,f8,s5⟩:=Kd.S_slice i0.out;subst s5;have i1:=cz20 b3.out;have i2:=cz21 b3.out;have i3:=blk_frozen b3.out 0;have i4:=blk_frozen b3.out 1;obtain ⟨e9,e7,s6,_⟩:=Kd.Q_slice h8.out;subst s6)|((with_reducible refine gate_callee (f:=29) rfl ?_);refine gl_ (some 24) Try.func29 #[.agg #[.slice f6 d3.length f5,.slice e6 b5.length e3],.agg #[.slice g0 d7.length f8,.slice e9 d0.length e7]] ?_;(with_reducible refine (impl_GluedOf.calls _ _ d3 _ _ b5 _ _ d7 _ _ d0 d6 b9 m5 _ (by refine (Kd.S_reads' (e:=25) (base:=w.heap.size) (ok:=fun k_=>(some k_≠(.slice e6 b5.length e3:Value).ownBlock∧(some k_≠(.slice g0 d7.length f8:Value).ownBlock∧some k_≠(.slice e9 d0.length e7:Value).ownBlock))) (n:=d3.length) (c:=f5) ?_).2.2;exact zb_6) (y2 h9.out) (by refine (Kd.Q_reads' (e:=3) (base:=w.heap.size) (ok:=fun k_=>some k_≠(.slice e9 d0.length e7:Value).ownBlock) (n:=b5.length) (c:=e3) ?_).2.2;exact zb_3) (y2 h7.out) (by refine (Kd.S_reads' (e:=25) (base:=w.heap.size) (ok:=fun k_=>(some k_≠(.slice f6 d3.length f5:Value).ownBlock∧(some k_≠(.slice e6 b5.length e3:Value).ownBlock∧some k_≠(.slice e9 d0.length e7:Value).ownBlock))) (n:=d7.length) (c:=f8) ?_).2.2;exact zb_5) (y2 i0.out) (by refine (Kd.Q_reads' (e:=3) (base:=w.heap.size) (ok:=fun k_=>some k_≠(.slice e6 b5.length e3:Value).ownBlock) (n:=d0.length) (c:=e7) ?_).2.2;exact zb_2) (y2 h8.out) A4.out).mono ?_);rintro e w' ⟨D2,D3,rfl,ho0,ho1,hb⟩;refine ⟨_,rfl,?_⟩;have k0:=ak (Kd.S_lower (Kd.S_new' (Kd.S_new' (Kd.S_new' (Kd.S_new' ho0 (Kd.S_lt zb_6)) (Kd.Q_lt zb_3)) (Kd.S_lt zb_5)) (Kd.Q_lt zb_2)) (below_size zb_19));replace h9:=ak (Kd.S_mono (Kd.S_told (Kd.S_told (Kd.S_old zb_6 hb) (Kd.S_base ho0)) (Kd.R_base ho1)) (fun _ h_=>h_.1));replace i0:=ak (Kd.S_mono (Kd.S_told (Kd.S_told (Kd.S_old zb_5 hb) (Kd.S_base ho0)) (Kd.R_base ho1)) (fun _ h_=>h_.1));have j9:=ak (Kd.R_lower (Kd.R_new' (Kd.R_new' ho1 (Kd.Q_lt zb_3)) (Kd.Q_lt zb_2)) (below_size zb_19));replace h7:=ak (Kd.Q_elder' zb_3 (Kd.R_base ho1) hb);replace h8:=ak (Kd.Q_elder' zb_2 (Kd.R_base ho1) hb);replace a1:=ak (blk_below (g:=d2) (o:=.cells #[.slice f6 d3.length f5,.slice e6 b5.length e3] 27 (0,0)) (by (with_reducible repeat (first|refine blk_drewN ?_ _|refine blk_drew ?_|refine blk_alloc ?_ _));refine blk_far ?_ i6.out _;(with_reducible repeat (first|refine blk_drewN ?_ _|refine blk_drew ?_|refine blk_alloc ?_ _));refine blk_far ?_ i6.out _;(with_reducible repeat (first|refine blk_drewN ?_ _|refine blk_drew ?_|refine blk_alloc ?_ _));refine blk_put (cs:=#[.slice f6 d3.length f5,.slice none 0 0]) ?_ 1 _ rfl;(with_reducible repeat (first|refine blk_drewN ?_ _|refine blk_drew ?_|refine blk_alloc ?_ _));refine blk_put (cs:=#[.slice none 0 0,.slice none 0 0]) ?_ 0 _ rfl;(with_reducible repeat (first|refine blk_drewN ?_ _|refine blk_drew ?_|refine blk_alloc ?_ _));exact a1.out) hb);replace b3:=ak (blk_below (g:=e1) (o:=.cells #[.slice g0 d7.length f8,.slice e9 d0.length e7] 27 (0,0)) (by (with_reducible repeat (first|refine blk_drewN ?_ _|refine blk_drew ?_|refine blk_alloc ?_ _));refine blk_put (cs:=#[.slice g0 d7.length f8,.slice none 0 0]) ?_ 1 _ rfl;(with_reducible repeat (first|refine blk_drewN ?_ _|refine blk_drew ?_|refine blk_alloc ?_ _));refine blk_put (cs:=#[.slice none 0 0,.slice none 0 0]) ?_ 0 _ rfl;(with_reducible repeat (first|refine blk_drewN ?_ _|refine blk_drew ?_|refine blk_alloc ?_ _));refine blk_far ?_ i7.out _;(with_reducible repeat (first|refine blk_drewN ?_ _|refine blk_drew ?_|refine blk_alloc ?_ _));refine blk_far ?_ i7.out _;(with_reducible repeat (first|refine blk_drewN ?_ _|refine blk_drew ?_|refine blk_alloc ?_ _));exact b3.out) hb);replace HB:=ak (below_step zb_19 hb);(try clear hb);(try clear hb2);(try clear hk);(try clear hi);(try clear ho0);(try clear ho1))|((with_reducible refine gate_dst (N:=5) rfl ?_);(try (refine gate_guard (by rfl) ?_;dsimp only));refine box_event ?hg (N:=5) ?hd (cs:=#[.slice none 0 0,.slice none 0 0]) (t:=27) ?hr ?_;(case hd=>rfl);(case hg=>rfl);(case hr=>first|(go_simp;done)|(go_simp;rfl));intro e0 hg O3 hbox hb;replace h9:=ak (Kd.S_below (xS h9.out) hb);replace h7:=ak (Kd.Q_below (xQ h7.out) hb);replace i0:=ak (Kd.S_below (xS i0.out) hb);replace h8:=ak (Kd.Q_below (xQ h8.out) hb);replace k0:=ak (Kd.S_below (xS k0.out) hb);replace j9:=ak (Kd.R_below (xR j9.out) hb);have b0:=ak (hbox);have s7:=ak ((by rw [hg];exact (below_size zb_19):w.heap.size≤e0));have m4:=ak ((by rw [hg];exact (below_size zb_19):w.heap.size≤e0));replace HB:=ak (below_step zb_19 hb);have g4:=ak ((by rw [hg];exact Nat.ne_of_lt (blk_lt (g:=d2) (o:=.cells #[.slice f6 d3.length f5,.slice e6 b5.length e3] 27 (0,0)) (xb a1.out)):d2≠e0));have h0:=ak ((by rw [hg];exact Nat.ne_of_gt (blk_lt (g:=d2) (o:=.cells #[.slice f6 d3.length f5,.slice e6 b5.length e3] 27 (0,0)) (xb a1.out)):e0≠d2));replace a1:=ak (blk_below (g:=d2) (o:=.cells #[.slice f6 d3.length f5,.slice e6 b5.length e3] 27 (0,0)) (xb a1.out) hb);have h5:=ak ((by rw [hg];exact Nat.ne_of_lt (blk_lt (g:=e1) (o:=.cells #[.slice g0 d7.length f8,.slice e9 d0.length e7] 27 (0,0)) (xb b3.out)):e1≠e0));have i8:=ak ((by rw [hg];exact Nat.ne_of_gt (blk_lt (g:=e1) (o:=.cells #[.slice g0 d7.length f8,.slice e9 d0.length e7] 27 (0,0)) (xb b3.out)):e0≠e1));replace b3:=ak (blk_below (g:=e1) (o:=.cells #[.slice g0 d7.length f8,.slice e9 d0.length e7] 27 (0,0)) (xb b3.out) hb);clear hb hbox hg;obtain ⟨f9,f7,s8⟩:=Kd.S_slice k0.out;subst s8;have D4:=h0.out;have D5:=g4.out;have D6:=i8.out;have D7:=h5.out;have i1:=cz20 b0.out;have i2:=cz21 b0.out;have i3:=blk_frozen b0.out 0;have i4:=blk_frozen b0.out 1;obtain ⟨f1,f0,s9⟩:=Kd.R_slice j9.out;subst s9;have i1:=cz20 a1.out;have i2:=cz21 a1.out;have i3:=blk_frozen a1.out 0;have i4:=blk_frozen a1.out 1;have i1:=cz20 b3.out;have i2:=cz21 b3.out;have i3:=blk_frozen b3.out 0;have i4:=blk_frozen b3.out 1)|((with_reducible refine gate_callee (f:=53) rfl ?_);refine gl_ (some 30) Try.func53 #[.agg #[.slice f6 d3.length f5,.slice e6 b5.length e3],.agg #[.slice g0 d7.length f8,.slice e9 d0.length e7]] ?_;(with_reducible refine (spec_GluedOf.calls _ _ d3 _ _ b5 _ _ d7 _ _ d0 e4 d4 n7 _ (by refine (Kd.S_reads' (e:=25) (base:=w.heap.size) (ok:=fun k_=>(((some k_≠(.slice e6 b5.length e3:Value).ownBlock∧(some k_≠(.slice g0 d7.length f8:Value).ownBlock∧some k_≠(.slice e9 d0.length e7:Value).ownBlock))∧some k_≠(.slice f9 d6.length f7:Value).ownBlock)∧some k_≠(.slice f1 b9.length f0:Value).ownBlock)) (n:=d3.length) (c:=f5) ?_).2.2;exact zb_27) (y2 h9.out) (by refine (Kd.Q_reads' (e:=3) (base:=w.heap.size) (ok:=fun k_=>(some k_≠(.slice e9 d0.length e7:Value).ownBlock∧some k_≠(.slice f1 b9.length f0:Value).ownBlock)) (n:=b5.length) (c:=e3) ?_).2.2;exact zb_18) (y2 h7.out) (by refine (Kd.S_reads' (e:=25) (base:=w.heap.size) (ok:=fun k_=>(((some k_≠(.slice f6 d3.length f5:Value).ownBlock∧(some k_≠(.slice e6 b5.length e3:Value).ownBlock∧some k_≠(.slice e9 d0.length e7:Value).ownBlock))∧some k_≠(.slice f9 d6.length f7:Value).ownBlock)∧some k_≠(.slice f1 b9.length f0:Value).ownBlock)) (n:=d7.length) (c:=f8) ?_).2.2;exact zb_26) (y2 i0.out) (by refine (Kd.Q_reads' (e:=3) (base:=w.heap.size) (ok:=fun k_=>(some k_≠(.slice e6 b5.length e3:Value).ownBlock∧some k_≠(.slice f1 b9.length f0:Value).ownBlock)) (n:=d0.length) (c:=e7) ?_).2.2;exact zb_17) (y2 h8.out) A5.out).mono ?_);rintro e w' ⟨D8,D9,rfl,ho0,ho1,hb⟩;refine ⟨_,rfl,?_⟩;have l2:=ak (Kd.S_lower (Kd.S_new' (Kd.S_new' (Kd.S_new' (Kd.S_new' (Kd.S_new' (Kd.S_new' ho0 (Kd.S_lt zb_27)) (Kd.Q_lt zb_18)) (Kd.S_lt zb_26)) (Kd.Q_lt zb_17)) (Kd.S_lt zb_56)) (Kd.R_lt zb_28)) (below_size zb_8));replace h9:=ak (Kd.S_mono (Kd.S_told (Kd.S_told (Kd.S_old zb_27 hb) (Kd.S_base ho0)) (Kd.R_base ho1)) (fun _ h_=>h_.1));replace i0:=ak (Kd.S_mono (Kd.S_told (Kd.S_told (Kd.S_old zb_26 hb) (Kd.S_base ho0)) (Kd.R_base ho1)) (fun _ h_=>h_.1));replace k0:=ak (Kd.S_mono (Kd.S_told (Kd.S_told (Kd.S_old zb_56 hb) (Kd.S_base ho0)) (Kd.R_base ho1)) (fun _ h_=>h_.1));have l1:=ak (Kd.R_lower (Kd.R_new' (Kd.R_new' (Kd.R_new' ho1 (Kd.Q_lt zb_18)) (Kd.Q_lt zb_17)) (Kd.R_lt zb_28)) (below_size zb_8));replace h7:=ak (Kd.Q_elder' zb_18 (Kd.R_base ho1) hb);replace h8:=ak (Kd.Q_elder' zb_17 (Kd.R_base ho1) hb);replace j9:=ak (Kd.R_elder' zb_28 (Kd.R_base ho1) hb);replace a1:=ak (blk_below (g:=d2) (o:=.cells #[.slice f6 d3.length f5,.slice e6 b5.length e3] 27 (0,0)) (by (with_reducible repeat (first|refine blk_drewN ?_ _|refine blk_drew ?_|refine blk_alloc ?_ _));refine blk_far ?_ g4.out _;(with_reducible repeat (first|refine blk_drewN ?_ _|refine blk_drew ?_|refine blk_alloc ?_ _));refine blk_far ?_ g4.out _;(with_reducible repeat (first|refine blk_drewN ?_ _|refine blk_drew ?_|refine blk_alloc ?_ _));exact a1.out) hb);replace b3:=ak (blk_below (g:=e1) (o:=.cells #[.slice g0 d7.length f8,.slice e9 d0.length e7] 27 (0,0)) (by (with_reducible repeat (first|refine blk_drewN ?_ _|refine blk_drew ?_|refine blk_alloc ?_ _));refine blk_far ?_ h5.out _;(with_reducible repeat (first|refine blk_drewN ?_ _|refine blk_drew ?_|refine blk_alloc ?_ _));refine blk_far ?_ h5.out _;(with_reducible repeat (first|refine blk_drewN ?_ _|refine blk_drew ?_|refine blk_alloc ?_ _));exact b3.out) hb);replace b0:=ak (blk_below (g:=e0) (o:=.cells #[.slice f9 d6.length f7,.slice f1 b9.length f0] 27 (0,0)) (by (with_reducible repeat (first|refine blk_drewN ?_ _|refine blk_drew ?_|refine blk_alloc ?_ _));refine blk_put (cs:=#[.slice f9 d6.length f7,.slice none 0 0]) ?_ 1 _ rfl;(with_reducible repeat (first|refine blk_drewN ?_ _|refine blk_drew ?_|refine blk_alloc ?_ _));refine blk_put (cs:=#[.slice none 0 0,.slice none 0 0]) ?_ 0 _ rfl;(with_reducible repeat (first|refine blk_drewN ?_ _|refine blk_drew ?_|refine blk_alloc ?_ _));exact b0.out) hb);replace HB:=ak (below_step zb_8 hb);(try clear hb);(try clear hb2);(try clear hk);(try clear hi);(try clear ho0);(try clear ho1))|((with_reducible refine gate_dst (N:=7) rfl ?_);(try (refine gate_guard (by rfl) ?_;dsimp only));refine box_event ?hg (N:=7) ?hd (cs:=#[.slice none 0 0,.slice none 0 0]) (t:=27) ?hr ?_;(case hd=>rfl);(case hg=>rfl);(case hr=>first|(go_simp;done)|(go_simp;rfl));intro d9 hg O4 hbox hb;replace h9:=ak (Kd.S_below (xS h9.out) hb);replace h7:=ak (Kd.Q_below (xQ h7.out) hb);replace i0:=ak (Kd.S_below (xS i0.out) hb);replace h8:=ak (Kd.Q_below (xQ h8.out) hb);replace k0:=ak (Kd.S_below (xS k0.out) hb);replace j9:=ak (Kd.R_below (xR j9.out) hb);replace l2:=ak (Kd.S_below (xS l2.out) hb);replace l1:=ak (Kd.R_below (xR l1.out) hb);have b4:=ak (hbox);have u0:=ak ((by rw [hg];exact (below_size zb_8):w.heap.size≤d9));have m9:=ak ((by rw [hg];exact (below_size zb_8):w.heap.size≤d9));replace HB:=ak (below_step zb_8 hb);have h3:=ak ((by rw [hg];exact Nat.ne_of_lt (blk_lt (g:=d2) (o:=.cells #[.slice f6 d3.length f5,.slice e6 b5.length e3] 27 (0,0)) (xb a1.out)):d2≠d9));have i9:=ak ((by rw [hg];exact Nat.ne_of_gt (blk_lt (g:=d2) (o:=.cells #[.slice f6 d3.length f5,.slice e6 b5.length e3] 27 (0,0)) (xb a1.out)):d9≠d2));replace a1:=ak (blk_below (g:=d2) (o:=.cells #[.slice f6 d3.length f5,.slice e6 b5.length e3] 27 (0,0)) (xb a1.out) hb);have j7:=ak ((by rw [hg];exact Nat.ne_of_lt (blk_lt (g:=e1) (o:=.cells #[.slice g0 d7.length f8,.slice e9 d0.length e7] 27 (0,0)) (xb b3.out)):e1≠d9));have k6:=ak ((by rw [hg];exact Nat.ne_of_gt (blk_lt (g:=e1) (o:=.cells #[.slice g0 d7.length f8,.slice e9 d0.length e7] 27 (0,0)) (xb b3.out)):d9≠e1));replace b3:=ak (blk_below (g:=e1) (o:=.cells #[.slice g0 d7.length f8,.slice e9 d0.length e7] 27 (0,0)) (xb b3.out) hb);have h4:=ak ((by rw [hg];exact Nat.ne_of_lt (blk_lt (g:=e0) (o:=.cells #[.slice f9 d6.length f7,.slice f1 b9.length f0] 27 (0,0)) (xb b0.out)):e0≠d9));have j3:=ak ((by rw [hg];exact Nat.ne_of_gt (blk_lt (g:=e0) (o:=.cells #[.slice f9 d6.length f7,.slice f1 b9.length f0] 27 (0,0)) (xb b0.out)):d9≠e0));replace b0:=ak (blk_below (g:=e0) (o:=.cells #[.slice f9 d6.length f7,.slice f1 b9.length f0] 27 (0,0)) (xb b0.out) hb);clear hb hbox hg;obtain ⟨g7,g6,u1⟩:=Kd.S_slice l2.out;subst u1;have E0:=i9.out;have E1:=h3.out;have E2:=k6.out;have E3:=j7.out;have E4:=j3.out;have E5:=h4.out;have i1:=cz20 b4.out;have i2:=cz21 b4.out;have i3:=blk_frozen b4.out 0;have i4:=blk_frozen b4.out 1;obtain ⟨f3,f2,u2⟩:=Kd.R_slice l1.out;subst u2))
 (try simp only [Act.put,List.setIfInBounds_toArray,List.set_cons_zero,List.set_cons_succ])
 go_cut [41] (fun N0 wc=>∃ (kq:Nat) (n4:Bool),N0 = .bool n4∧Aside0 (laws_FnGluedOf.j0 kq m5 n4 d3 b5 d7 d0 d6 b9=some r)∧Aside0 (kq≤k)∧Aside0 (Kd.S (Kd.slice 3 (Kd.int .i64)) 25 wc w.heap.size (fun k_=>some k_≠((.slice e6 b5.length e3):Value).ownBlock∧some k_≠((.slice g0 d7.length f8):Value).ownBlock∧some k_≠((.slice e9 d0.length e7):Value).ownBlock∧some k_≠((.slice f9 d6.length f7):Value).ownBlock∧some k_≠((.slice f1 b9.length f0):Value).ownBlock∧some k_≠((.slice g7 e4.length g6):Value).ownBlock∧some k_≠((.slice f3 d4.length f2):Value).ownBlock) (.slice f6 d3.length f5) d3)∧Aside0 (Kd.Q (Kd.int .i64) 3 wc w.heap.size (fun k_=>some k_≠((.slice e9 d0.length e7):Value).ownBlock∧some k_≠((.slice f1 b9.length f0):Value).ownBlock∧some k_≠((.slice f3 d4.length f2):Value).ownBlock) (.slice e6 b5.length e3) b5)∧Aside0 (Kd.S (Kd.slice 3 (Kd.int .i64)) 25 wc w.heap.size (fun k_=>some k_≠((.slice f6 d3.length f5):Value).ownBlock∧some k_≠((.slice e6 b5.length e3):Value).ownBlock∧some k_≠((.slice e9 d0.length e7):Value).ownBlock∧some k_≠((.slice f9 d6.length f7):Value).ownBlock∧some k_≠((.slice f1 b9.length f0):Value).ownBlock∧some k_≠((.slice g7 e4.length g6):Value).ownBlock∧some k_≠((.slice f3 d4.length f2):Value).ownBlock) (.slice g0 d7.length f8) d7)∧Aside0 (Kd.Q (Kd.int .i64) 3 wc w.heap.size (fun k_=>some k_≠((.slice e6 b5.length e3):Value).ownBlock∧some k_≠((.slice f1 b9.length f0):Value).ownBlock∧some k_≠((.slice f3 d4.length f2):Value).ownBlock) (.slice e9 d0.length e7) d0)∧Aside0 (Kd.S (Kd.slice 3 (Kd.int .i64)) 25 wc w.heap.size (fun k_=>some k_≠((.slice f6 d3.length f5):Value).ownBlock∧some k_≠((.slice e6 b5.length e3):Value).ownBlock∧some k_≠((.slice g0 d7.length f8):Value).ownBlock∧some k_≠((.slice e9 d0.length e7):Value).ownBlock∧some k_≠((.slice f1 b9.length f0):Value).ownBlock∧some k_≠((.slice g7 e4.length g6):Value).ownBlock∧some k_≠((.slice f3 d4.length f2):Value).ownBlock) (.slice f9 d6.length f7) d6)∧Aside0 (Kd.Q (Kd.int .i64) 3 wc w.heap.size (fun k_=>some k_≠((.slice e6 b5.length e3):Value).ownBlock∧some k_≠((.slice e9 d0.length e7):Value).ownBlock∧some k_≠((.slice f3 d4.length f2):Value).ownBlock) (.slice f1 b9.length f0) b9)∧Aside0 (Kd.S (Kd.slice 3 (Kd.int .i64)) 25 wc w.heap.size (fun k_=>some k_≠((.slice f6 d3.length f5):Value).ownBlock∧some k_≠((.slice e6 b5.length e3):Value).ownBlock∧some k_≠((.slice g0 d7.length f8):Value).ownBlock∧some k_≠((.slice e9 d0.length e7):Value).ownBlock∧some k_≠((.slice f9 d6.length f7):Value).ownBlock∧some k_≠((.slice f1 b9.length f0):Value).ownBlock∧some k_≠((.slice f3 d4.length f2):Value).ownBlock) (.slice g7 e4.length g6) e4)∧Aside0 (Kd.Q (Kd.int .i64) 3 wc w.heap.size (fun k_=>some k_≠((.slice e6 b5.length e3):Value).ownBlock∧some k_≠((.slice e9 d0.length e7):Value).ownBlock∧some k_≠((.slice f1 b9.length f0):Value).ownBlock) (.slice f3 d4.length f2) d4)∧Aside0 (wc.heap[d2]?=some (.cells #[(.slice f6 d3.length f5),(.slice e6 b5.length e3)] 27 (0,0)))∧Aside0 (wc.heap[e1]?=some (.cells #[(.slice g0 d7.length f8),(.slice e9 d0.length e7)] 27 (0,0)))∧Aside0 (wc.heap[e0]?=some (.cells #[(.slice f9 d6.length f7),(.slice f1 b9.length f0)] 27 (0,0)))∧Aside0 (wc.heap[d9]?=some (.cells #[(.slice g7 e4.length g6),(.slice f3 d4.length f2)] 27 (0,0)))∧Aside0 (Below w.heap.size w wc))
 case first =>
  have H:=s0.out
  clear s0
  replace H:=bd_ H
  obtain ⟨n6,E6,H⟩:=H
  try dsimp only at H
  replace H:=ox_ H
  rcases H with ⟨rfl,H⟩|⟨rfl,H⟩
  ·
   have H':=ak H
   clear H
   have E7:=h0.out
   have E8:=g4.out
   have E9:=i8.out
   have F0:=h5.out
   have F1:=h4.out
   have F2:=j3.out
   have i1:=cz20 b0.out
   have i2:=cz21 b0.out
   have i3:=blk_frozen b0.out 0
   have i4:=blk_frozen b0.out 1
   have F3:=i9.out
   have F4:=h3.out
   have F5:=k6.out
   have F6:=j7.out
   have i1:=cz20 b4.out
   have i2:=cz21 b4.out
   have i3:=blk_frozen b4.out 0
   have i4:=blk_frozen b4.out 1
   go_wp2_with (first|((with_reducible refine gate_callee (f:=17) rfl ?_);refine gl_ (some 35) Try.func17 #[.agg #[.slice f9 d6.length f7,.slice f1 b9.length f0],.agg #[.slice g7 e4.length g6,.slice f3 d4.length f2]] ?_;(with_reducible refine (laws_sameLogic.calls k _ _ d6 _ _ b9 _ _ e4 _ _ d4 true _ zb_30 (y2 k0.out) zb_68 (y2 j9.out) zb_29 (y2 l2.out) zb_69 (y2 l1.out) E6.out).mono ?_);rintro e w' ⟨rfl,hb⟩;refine ⟨_,rfl,?_⟩;replace h9:=ak (Kd.S_below zb_55 hb);replace h7:=ak (Kd.Q_below zb_60 hb);replace i0:=ak (Kd.S_below zb_54 hb);replace h8:=ak (Kd.Q_below zb_59 hb);replace k0:=ak (Kd.S_below zb_13 hb);replace j9:=ak (Kd.R_below zb_16 hb);replace l2:=ak (Kd.S_below zb_12 hb);replace l1:=ak (Kd.R_below zb_15 hb);replace a1:=ak (blk_below (g:=d2) (o:=.cells #[.slice f6 d3.length f5,.slice e6 b5.length e3] 27 (0,0)) zb_41 hb);replace b3:=ak (blk_below (g:=e1) (o:=.cells #[.slice g0 d7.length f8,.slice e9 d0.length e7] 27 (0,0)) zb_39 hb);replace b0:=ak (blk_below (g:=e0) (o:=.cells #[.slice f9 d6.length f7,.slice f1 b9.length f0] 27 (0,0)) zb_37 hb);replace b4:=ak (blk_below (g:=d9) (o:=.cells #[.slice g7 e4.length g6,.slice f3 d4.length f2] 27 (0,0)) zb_32 hb);replace HB:=ak (below_step zb_1 hb);(try clear hb);(try clear hb2);(try clear hk);(try clear hi)))
   go_meet
   case rel=>exact ⟨_,((m5 != n7)),zb_84,H',⟨(by first|omega|exact Nat.le_refl _)⟩,⟨zb_73⟩,⟨zb_83⟩,⟨zb_72⟩,⟨zb_82⟩,⟨zb_71⟩,⟨Kd.Q_of_R zb_81⟩,⟨zb_70⟩,⟨Kd.Q_of_R zb_80⟩,⟨(xb a1.out)⟩,⟨(xb b3.out)⟩,⟨(xb b0.out)⟩,⟨(xb b4.out)⟩,⟨zb_1⟩⟩
  have H':=ak H
  clear H
  have F7:=h0.out
  have F8:=g4.out
  have F9:=i8.out
  have G0:=h5.out
  have G1:=h4.out
  have G2:=j3.out
  have i1:=cz20 b0.out
  have i2:=cz21 b0.out
  have i3:=blk_frozen b0.out 0
  have i4:=blk_frozen b0.out 1
  have G3:=i9.out
  have G4:=h3.out
  have G5:=k6.out
  have G6:=j7.out
  have i1:=cz20 b4.out
  have i2:=cz21 b4.out
  have i3:=blk_frozen b4.out 0
  have i4:=blk_frozen b4.out 1
  go_wp2_with (first|((with_reducible refine gate_callee (f:=17) rfl ?_);refine gl_ (some 35) Try.func17 #[.agg #[.slice f9 d6.length f7,.slice f1 b9.length f0],.agg #[.slice g7 e4.length g6,.slice f3 d4.length f2]] ?_;(with_reducible refine (laws_sameLogic.calls k _ _ d6 _ _ b9 _ _ e4 _ _ d4 false _ zb_30 (y2 k0.out) zb_68 (y2 j9.out) zb_29 (y2 l2.out) zb_69 (y2 l1.out) E6.out).mono ?_);rintro e w' ⟨rfl,hb⟩;refine ⟨_,rfl,?_⟩;replace h9:=ak (Kd.S_below zb_55 hb);replace h7:=ak (Kd.Q_below zb_60 hb);replace i0:=ak (Kd.S_below zb_54 hb);replace h8:=ak (Kd.Q_below zb_59 hb);replace k0:=ak (Kd.S_below zb_13 hb);replace j9:=ak (Kd.R_below zb_16 hb);replace l2:=ak (Kd.S_below zb_12 hb);replace l1:=ak (Kd.R_below zb_15 hb);replace a1:=ak (blk_below (g:=d2) (o:=.cells #[.slice f6 d3.length f5,.slice e6 b5.length e3] 27 (0,0)) zb_41 hb);replace b3:=ak (blk_below (g:=e1) (o:=.cells #[.slice g0 d7.length f8,.slice e9 d0.length e7] 27 (0,0)) zb_39 hb);replace b0:=ak (blk_below (g:=e0) (o:=.cells #[.slice f9 d6.length f7,.slice f1 b9.length f0] 27 (0,0)) zb_37 hb);replace b4:=ak (blk_below (g:=d9) (o:=.cells #[.slice g7 e4.length g6,.slice f3 d4.length f2] 27 (0,0)) zb_32 hb);replace HB:=ak (below_step zb_1 hb);(try clear hb);(try clear hb2);(try clear hk);(try clear hi)))
  go_meet
  case rel=>exact ⟨_,(true),zb_84,H',⟨(by first|omega|exact Nat.le_refl _)⟩,⟨zb_73⟩,⟨zb_83⟩,⟨zb_72⟩,⟨zb_82⟩,⟨zb_71⟩,⟨Kd.Q_of_R zb_81⟩,⟨zb_70⟩,⟨Kd.Q_of_R zb_80⟩,⟨(xb a1.out)⟩,⟨(xb b3.out)⟩,⟨(xb b0.out)⟩,⟨(xb b4.out)⟩,⟨zb_1⟩⟩
 case rest =>
  clear s0
  try clear c2
  try clear o2
  try clear o3
  try clear i1
  try clear i2
  try clear i3
  try clear i4
  obtain ⟨kq,n4,rfl,HA,q9,a5,a4,a8,a6,a3,a2,a9,a7,a1,b3,b0,b4,HB⟩:=hcut
  cases kq with
  | zero=>exact absurd HA.out (by simp [laws_FnGluedOf.j0])
  | succ u3 =>
   have H:=HA.out
   clear HA
   simp only [laws_FnGluedOf.j0] at H
   replace H:=ox_ H
   rcases H with ⟨rfl,H⟩|⟨rfl,H⟩
   ·
    obtain rfl:=Option.some.inj H
    go_wp2
    go_ret
    exact ⟨zb_20,zb_1⟩
   replace H:=bd_ H
   obtain ⟨⟨f4,e5,n8⟩,N1,H⟩:=H
   try dsimp only at H
   replace H:=bd_ H
   obtain ⟨⟨e8,d8,n9⟩,N2,H⟩:=H
   try dsimp only at H
   have o4:=ak H
   clear H
   go_upto_region 10 with (first|((with_reducible refine gate_callee (f:=23) rfl ?_);refine gl_ (some 43) Try.func23 #[.int .i64 1] ?_;(with_reducible refine (impl_SetsOf.calls 1 f4 e5 n8 _ N1.out).mono ?_);rintro e w' ⟨G7,G8,rfl,ho0,ho1,hb⟩;refine ⟨_,rfl,?_⟩;have k4:=ak (Kd.S_lower (Kd.S_new' (Kd.S_new' (Kd.S_new' (Kd.S_new' (Kd.S_new' (Kd.S_new' (Kd.S_new' (Kd.S_new' ho0 (Kd.S_lt (xS a5.out))) (Kd.Q_lt (xQ a4.out))) (Kd.S_lt (xS a8.out))) (Kd.Q_lt (xQ a6.out))) (Kd.S_lt (xS a3.out))) (Kd.Q_lt (xQ a2.out))) (Kd.S_lt (xS a9.out))) (Kd.Q_lt (xQ a7.out))) (below_size zb_1));replace a5:=ak (Kd.S_mono (Kd.S_told (Kd.S_told (Kd.S_old (xS a5.out) hb) (Kd.S_base ho0)) (Kd.R_base ho1)) (fun _ h_=>h_.1));replace a8:=ak (Kd.S_mono (Kd.S_told (Kd.S_told (Kd.S_old (xS a8.out) hb) (Kd.S_base ho0)) (Kd.R_base ho1)) (fun _ h_=>h_.1));replace a3:=ak (Kd.S_mono (Kd.S_told (Kd.S_told (Kd.S_old (xS a3.out) hb) (Kd.S_base ho0)) (Kd.R_base ho1)) (fun _ h_=>h_.1));replace a9:=ak (Kd.S_mono (Kd.S_told (Kd.S_told (Kd.S_old (xS a9.out) hb) (Kd.S_base ho0)) (Kd.R_base ho1)) (fun _ h_=>h_.1));have k3:=ak (Kd.R_lower (Kd.R_new' (Kd.R_new' (Kd.R_new' (Kd.R_new' ho1 (Kd.Q_lt (xQ a4.out))) (Kd.Q_lt (xQ a6.out))) (Kd.Q_lt (xQ a2.out))) (Kd.Q_lt (xQ a7.out))) (below_size zb_1));replace a4:=ak (Kd.Q_elder' (xQ a4.out) (Kd.R_base ho1) hb);replace a6:=ak (Kd.Q_elder' (xQ a6.out) (Kd.R_base ho1) hb);replace a2:=ak (Kd.Q_elder' (xQ a2.out) (Kd.R_base ho1) hb);replace a7:=ak (Kd.Q_elder' (xQ a7.out) (Kd.R_base ho1) hb);replace a1:=ak (blk_below (g:=d2) (o:=.cells #[.slice f6 d3.length f5,.slice e6 b5.length e3] 27 (0,0)) (xb a1.out) hb);replace b3:=ak (blk_below (g:=e1) (o:=.cells #[.slice g0 d7.length f8,.slice e9 d0.length e7] 27 (0,0)) (xb b3.out) hb);replace b0:=ak (blk_below (g:=e0) (o:=.cells #[.slice f9 d6.length f7,.slice f1 b9.length f0] 27 (0,0)) (xb b0.out) hb);replace b4:=ak (blk_below (g:=d9) (o:=.cells #[.slice g7 e4.length g6,.slice f3 d4.length f2] 27 (0,0)) (xb b4.out) hb);replace HB:=ak (below_step zb_1 hb);(try clear hb);(try clear hb2);(try clear hk);(try clear hi);(try clear ho0);(try clear ho1))|((with_reducible refine gate_dst (N:=9) rfl ?_);(try (refine gate_guard (by rfl) ?_;dsimp only));refine box_event ?hg (N:=9) ?hd (cs:=#[.slice none 0 0,.slice none 0 0]) (t:=27) ?hr ?_;(case hd=>rfl);(case hg=>rfl);(case hr=>first|(go_simp;done)|(go_simp;rfl));intro e2 hg O5 hbox hb;replace a5:=ak (Kd.S_below (xS a5.out) hb);replace a4:=ak (Kd.Q_below (xQ a4.out) hb);replace a8:=ak (Kd.S_below (xS a8.out) hb);replace a6:=ak (Kd.Q_below (xQ a6.out) hb);replace a3:=ak (Kd.S_below (xS a3.out) hb);replace a2:=ak (Kd.Q_below (xQ a2.out) hb);replace a9:=ak (Kd.S_below (xS a9.out) hb);replace a7:=ak (Kd.Q_below (xQ a7.out) hb);replace k4:=ak (Kd.S_below (xS k4.out) hb);replace k3:=ak (Kd.R_below (xR k3.out) hb);have d1:=ak (hbox);have u4:=ak ((by rw [hg];exact (below_size zb_1):w.heap.size≤e2));have n3:=ak ((by rw [hg];exact (below_size zb_1):w.heap.size≤e2));replace HB:=ak (below_step zb_1 hb);have j8:=ak ((by rw [hg];exact Nat.ne_of_lt (blk_lt (g:=d2) (o:=.cells #[.slice f6 d3.length f5,.slice e6 b5.length e3] 27 (0,0)) (xb a1.out)):d2≠e2));have k7:=ak ((by rw [hg];exact Nat.ne_of_gt (blk_lt (g:=d2) (o:=.cells #[.slice f6 d3.length f5,.slice e6 b5.length e3] 27 (0,0)) (xb a1.out)):e2≠d2));replace a1:=ak (blk_below (g:=d2) (o:=.cells #[.slice f6 d3.length f5,.slice e6 b5.length e3] 27 (0,0)) (xb a1.out) hb);have k8:=ak ((by rw [hg];exact Nat.ne_of_lt (blk_lt (g:=e1) (o:=.cells #[.slice g0 d7.length f8,.slice e9 d0.length e7] 27 (0,0)) (xb b3.out)):e1≠e2));have m0:=ak ((by rw [hg];exact Nat.ne_of_gt (blk_lt (g:=e1) (o:=.cells #[.slice g0 d7.length f8,.slice e9 d0.length e7] 27 (0,0)) (xb b3.out)):e2≠e1));replace b3:=ak (blk_below (g:=e1) (o:=.cells #[.slice g0 d7.length f8,.slice e9 d0.length e7] 27 (0,0)) (xb b3.out) hb);have j4:=ak ((by rw [hg];exact Nat.ne_of_lt (blk_lt (g:=e0) (o:=.cells #[.slice f9 d6.length f7,.slice f1 b9.length f0] 27 (0,0)) (xb b0.out)):e0≠e2));have k1:=ak ((by rw [hg];exact Nat.ne_of_gt (blk_lt (g:=e0) (o:=.cells #[.slice f9 d6.length f7,.slice f1 b9.length f0] 27 (0,0)) (xb b0.out)):e2≠e0));replace b0:=ak (blk_below (g:=e0) (o:=.cells #[.slice f9 d6.length f7,.slice f1 b9.length f0] 27 (0,0)) (xb b0.out) hb);have l6:=ak ((by rw [hg];exact Nat.ne_of_lt (blk_lt (g:=d9) (o:=.cells #[.slice g7 e4.length g6,.slice f3 d4.length f2] 27 (0,0)) (xb b4.out)):d9≠e2));have m6:=ak ((by rw [hg];exact Nat.ne_of_gt (blk_lt (g:=d9) (o:=.cells #[.slice g7 e4.length g6,.slice f3 d4.length f2] 27 (0,0)) (xb b4.out)):e2≠d9));replace b4:=ak (blk_below (g:=d9) (o:=.cells #[.slice g7 e4.length g6,.slice f3 d4.length f2] 27 (0,0)) (xb b4.out) hb);clear hb hbox hg;obtain ⟨h6,h2,u5⟩:=Kd.S_slice k4.out;subst u5;have G9:=k7.out;have I0:=j8.out;have I1:=m0.out;have I2:=k8.out;have I3:=k1.out;have I4:=j4.out;have I5:=m6.out;have I6:=l6.out;have i1:=cz20 d1.out;have i2:=cz21 d1.out;have i3:=blk_frozen d1.out 0;have i4:=blk_frozen d1.out 1;obtain ⟨g5,g3,u6⟩:=Kd.R_slice k3.out;subst u6;have I7:=i6.out;have I8:=i7.out;have I9:=g4.out;have J0:=h0.out;have J1:=h3.out;have J2:=i9.out;have i1:=cz20 a1.out;have i2:=cz21 a1.out;have i3:=blk_frozen a1.out 0;have i4:=blk_frozen a1.out 1)|((with_reducible refine gate_callee (f:=29) rfl ?_);refine gl_ (some 49) Try.func29 #[.agg #[.slice f6 d3.length f5,.slice e6 b5.length e3],.agg #[.slice h6 f4.length h2,.slice g5 e5.length g3]] ?_;(with_reducible refine (impl_GluedOf.calls _ _ d3 _ _ b5 _ _ f4 _ _ e5 e8 d8 n9 _ (by refine (Kd.S_reads' (e:=25) (base:=w.heap.size) (ok:=fun k_=>(((some k_≠(.slice e6 b5.length e3:Value).ownBlock∧(some k_≠(.slice g0 d7.length f8:Value).ownBlock∧(some k_≠(.slice e9 d0.length e7:Value).ownBlock∧(some k_≠(.slice f9 d6.length f7:Value).ownBlock∧(some k_≠(.slice f1 b9.length f0:Value).ownBlock∧(some k_≠(.slice g7 e4.length g6:Value).ownBlock∧some k_≠(.slice f3 d4.length f2:Value).ownBlock))))))∧some k_≠(.slice h6 f4.length h2:Value).ownBlock)∧some k_≠(.slice g5 e5.length g3:Value).ownBlock)) (n:=d3.length) (c:=f5) ?_).2.2;exact zb_21) (y2 a5.out) (by refine (Kd.Q_reads' (e:=3) (base:=w.heap.size) (ok:=fun k_=>((some k_≠(.slice e9 d0.length e7:Value).ownBlock∧(some k_≠(.slice f1 b9.length f0:Value).ownBlock∧some k_≠(.slice f3 d4.length f2:Value).ownBlock))∧some k_≠(.slice g5 e5.length g3:Value).ownBlock)) (n:=b5.length) (c:=e3) ?_).2.2;exact zb_10) (y2 a4.out) (by refine (Kd.S_reads' (e:=25) (base:=w.heap.size) (ok:=fun k_=>((((((((some k_≠(.slice g5 e5.length g3:Value).ownBlock∧some k_≠(.slice f6 d3.length f5:Value).ownBlock)∧some k_≠(.slice e6 b5.length e3:Value).ownBlock)∧some k_≠(.slice g0 d7.length f8:Value).ownBlock)∧some k_≠(.slice e9 d0.length e7:Value).ownBlock)∧some k_≠(.slice f9 d6.length f7:Value).ownBlock)∧some k_≠(.slice f1 b9.length f0:Value).ownBlock)∧some k_≠(.slice g7 e4.length g6:Value).ownBlock)∧some k_≠(.slice f3 d4.length f2:Value).ownBlock)) (n:=f4.length) (c:=h2) ?_).2.2;exact zb_25) (y2 k4.out) (by refine (Kd.R_reads' (e:=3) (base:=w.heap.size) (ok:=fun k_=>((((True∧some k_≠(.slice e6 b5.length e3:Value).ownBlock)∧some k_≠(.slice e9 d0.length e7:Value).ownBlock)∧some k_≠(.slice f1 b9.length f0:Value).ownBlock)∧some k_≠(.slice f3 d4.length f2:Value).ownBlock)) (n:=e5.length) (c:=g3) ?_).2.2;exact zb_14) (y2 k3.out) N2.out).mono ?_);rintro e w' ⟨J3,J4,rfl,ho0,ho1,hb⟩;refine ⟨_,rfl,?_⟩;have l8:=ak (Kd.S_lower (Kd.S_new' (Kd.S_new' (Kd.S_new' (Kd.S_new' (Kd.S_new' (Kd.S_new' (Kd.S_new' (Kd.S_new' (Kd.S_new' (Kd.S_new' ho0 (Kd.S_lt zb_21)) (Kd.Q_lt zb_10)) (Kd.S_lt zb_48)) (Kd.Q_lt zb_24)) (Kd.S_lt zb_47)) (Kd.Q_lt zb_23)) (Kd.S_lt zb_46)) (Kd.Q_lt zb_22)) (Kd.S_lt zb_25)) (Kd.R_lt zb_14)) (below_size zb_4));replace a5:=ak (Kd.S_mono (Kd.S_told (Kd.S_told (Kd.S_old zb_21 hb) (Kd.S_base ho0)) (Kd.R_base ho1)) (fun _ h_=>h_.1));replace a8:=ak (Kd.S_mono (Kd.S_told (Kd.S_told (Kd.S_old zb_48 hb) (Kd.S_base ho0)) (Kd.R_base ho1)) (fun _ h_=>h_.1));replace a3:=ak (Kd.S_mono (Kd.S_told (Kd.S_told (Kd.S_old zb_47 hb) (Kd.S_base ho0)) (Kd.R_base ho1)) (fun _ h_=>h_.1));replace a9:=ak (Kd.S_mono (Kd.S_told (Kd.S_told (Kd.S_old zb_46 hb) (Kd.S_base ho0)) (Kd.R_base ho1)) (fun _ h_=>h_.1));replace k4:=ak (Kd.S_mono (Kd.S_told (Kd.S_told (Kd.S_old zb_25 hb) (Kd.S_base ho0)) (Kd.R_base ho1)) (fun _ h_=>h_.1));have l7:=ak (Kd.R_lower (Kd.R_new' (Kd.R_new' (Kd.R_new' (Kd.R_new' (Kd.R_new' ho1 (Kd.Q_lt zb_10)) (Kd.Q_lt zb_24)) (Kd.Q_lt zb_23)) (Kd.Q_lt zb_22)) (Kd.R_lt zb_14)) (below_size zb_4));replace a4:=ak (Kd.Q_elder' zb_10 (Kd.R_base ho1) hb);replace a6:=ak (Kd.Q_elder' zb_24 (Kd.R_base ho1) hb);replace a2:=ak (Kd.Q_elder' zb_23 (Kd.R_base ho1) hb);replace a7:=ak (Kd.Q_elder' zb_22 (Kd.R_base ho1) hb);replace k3:=ak (Kd.R_elder' zb_14 (Kd.R_base ho1) hb);replace a1:=ak (blk_below (g:=d2) (o:=.cells #[.slice f6 d3.length f5,.slice e6 b5.length e3] 27 (0,0)) (by (with_reducible repeat (first|refine blk_drewN ?_ _|refine blk_drew ?_|refine blk_alloc ?_ _));refine blk_far ?_ j8.out _;(with_reducible repeat (first|refine blk_drewN ?_ _|refine blk_drew ?_|refine blk_alloc ?_ _));refine blk_far ?_ j8.out _;(with_reducible repeat (first|refine blk_drewN ?_ _|refine blk_drew ?_|refine blk_alloc ?_ _));exact a1.out) hb);replace b3:=ak (blk_below (g:=e1) (o:=.cells #[.slice g0 d7.length f8,.slice e9 d0.length e7] 27 (0,0)) (by (with_reducible repeat (first|refine blk_drewN ?_ _|refine blk_drew ?_|refine blk_alloc ?_ _));refine blk_far ?_ k8.out _;(with_reducible repeat (first|refine blk_drewN ?_ _|refine blk_drew ?_|refine blk_alloc ?_ _));refine blk_far ?_ k8.out _;(with_reducible repeat (first|refine blk_drewN ?_ _|refine blk_drew ?_|refine blk_alloc ?_ _));exact b3.out) hb);replace b0:=ak (blk_below (g:=e0) (o:=.cells #[.slice f9 d6.length f7,.slice f1 b9.length f0] 27 (0,0)) (by (with_reducible repeat (first|refine blk_drewN ?_ _|refine blk_drew ?_|refine blk_alloc ?_ _));refine blk_far ?_ j4.out _;(with_reducible repeat (first|refine blk_drewN ?_ _|refine blk_drew ?_|refine blk_alloc ?_ _));refine blk_far ?_ j4.out _;(with_reducible repeat (first|refine blk_drewN ?_ _|refine blk_drew ?_|refine blk_alloc ?_ _));exact b0.out) hb);replace b4:=ak (blk_below (g:=d9) (o:=.cells #[.slice g7 e4.length g6,.slice f3 d4.length f2] 27 (0,0)) (by (with_reducible repeat (first|refine blk_drewN ?_ _|refine blk_drew ?_|refine blk_alloc ?_ _));refine blk_far ?_ l6.out _;(with_reducible repeat (first|refine blk_drewN ?_ _|refine blk_drew ?_|refine blk_alloc ?_ _));refine blk_far ?_ l6.out _;(with_reducible repeat (first|refine blk_drewN ?_ _|refine blk_drew ?_|refine blk_alloc ?_ _));exact b4.out) hb);replace d1:=ak (blk_below (g:=e2) (o:=.cells #[.slice h6 f4.length h2,.slice g5 e5.length g3] 27 (0,0)) (by (with_reducible repeat (first|refine blk_drewN ?_ _|refine blk_drew ?_|refine blk_alloc ?_ _));refine blk_put (cs:=#[.slice h6 f4.length h2,.slice none 0 0]) ?_ 1 _ rfl;(with_reducible repeat (first|refine blk_drewN ?_ _|refine blk_drew ?_|refine blk_alloc ?_ _));refine blk_put (cs:=#[.slice none 0 0,.slice none 0 0]) ?_ 0 _ rfl;(with_reducible repeat (first|refine blk_drewN ?_ _|refine blk_drew ?_|refine blk_alloc ?_ _));exact d1.out) hb);replace HB:=ak (below_step zb_4 hb);(try clear hb);(try clear hb2);(try clear hk);(try clear hi);(try clear ho0);(try clear ho1))|((with_reducible refine gate_dst (N:=11) rfl ?_);(try (refine gate_guard (by rfl) ?_;dsimp only));refine box_event ?hg (N:=11) ?hd (cs:=#[.slice none 0 0,.slice none 0 0]) (t:=27) ?hr ?_;(case hd=>rfl);(case hg=>rfl);(case hr=>first|(go_simp;done)|(go_simp;rfl));intro d5 hg O6 hbox hb;replace a5:=ak (Kd.S_below (xS a5.out) hb);replace a4:=ak (Kd.Q_below (xQ a4.out) hb);replace a8:=ak (Kd.S_below (xS a8.out) hb);replace a6:=ak (Kd.Q_below (xQ a6.out) hb);replace a3:=ak (Kd.S_below (xS a3.out) hb);replace a2:=ak (Kd.Q_below (xQ a2.out) hb);replace a9:=ak (Kd.S_below (xS a9.out) hb);replace a7:=ak (Kd.Q_below (xQ a7.out) hb);replace k4:=ak (Kd.S_below (xS k4.out) hb);replace k3:=ak (Kd.R_below (xR k3.out) hb);replace l8:=ak (Kd.S_below (xS l8.out) hb);replace l7:=ak (Kd.R_below (xR l7.out) hb);have b6:=ak (hbox);have u7:=ak ((by rw [hg];exact (below_size zb_4):w.heap.size≤d5));have o1:=ak ((by rw [hg];exact (below_size zb_4):w.heap.size≤d5));replace HB:=ak (below_step zb_4 hb);have j6:=ak ((by rw [hg];exact Nat.ne_of_lt (blk_lt (g:=d2) (o:=.cells #[.slice f6 d3.length f5,.slice e6 b5.length e3] 27 (0,0)) (xb a1.out)):d2≠d5));have k9:=ak ((by rw [hg];exact Nat.ne_of_gt (blk_lt (g:=d2) (o:=.cells #[.slice f6 d3.length f5,.slice e6 b5.length e3] 27 (0,0)) (xb a1.out)):d5≠d2));replace a1:=ak (blk_below (g:=d2) (o:=.cells #[.slice f6 d3.length f5,.slice e6 b5.length e3] 27 (0,0)) (xb a1.out) hb);have k5:=ak ((by rw [hg];exact Nat.ne_of_lt (blk_lt (g:=e1) (o:=.cells #[.slice g0 d7.length f8,.slice e9 d0.length e7] 27 (0,0)) (xb b3.out)):e1≠d5));have m1:=ak ((by rw [hg];exact Nat.ne_of_gt (blk_lt (g:=e1) (o:=.cells #[.slice g0 d7.length f8,.slice e9 d0.length e7] 27 (0,0)) (xb b3.out)):d5≠e1));replace b3:=ak (blk_below (g:=e1) (o:=.cells #[.slice g0 d7.length f8,.slice e9 d0.length e7] 27 (0,0)) (xb b3.out) hb);have i5:=ak ((by rw [hg];exact Nat.ne_of_lt (blk_lt (g:=e0) (o:=.cells #[.slice f9 d6.length f7,.slice f1 b9.length f0] 27 (0,0)) (xb b0.out)):e0≠d5));have k2:=ak ((by rw [hg];exact Nat.ne_of_gt (blk_lt (g:=e0) (o:=.cells #[.slice f9 d6.length f7,.slice f1 b9.length f0] 27 (0,0)) (xb b0.out)):d5≠e0));replace b0:=ak (blk_below (g:=e0) (o:=.cells #[.slice f9 d6.length f7,.slice f1 b9.length f0] 27 (0,0)) (xb b0.out) hb);have l4:=ak ((by rw [hg];exact Nat.ne_of_lt (blk_lt (g:=d9) (o:=.cells #[.slice g7 e4.length g6,.slice f3 d4.length f2] 27 (0,0)) (xb b4.out)):d9≠d5));have m7:=ak ((by rw [hg];exact Nat.ne_of_gt (blk_lt (g:=d9) (o:=.cells #[.slice g7 e4.length g6,.slice f3 d4.length f2] 27 (0,0)) (xb b4.out)):d5≠d9));replace b4:=ak (blk_below (g:=d9) (o:=.cells #[.slice g7 e4.length g6,.slice f3 d4.length f2] 27 (0,0)) (xb b4.out) hb);have l5:=ak ((by rw [hg];exact Nat.ne_of_lt (blk_lt (g:=e2) (o:=.cells #[.slice h6 f4.length h2,.slice g5 e5.length g3] 27 (0,0)) (xb d1.out)):e2≠d5));have m8:=ak ((by rw [hg];exact Nat.ne_of_gt (blk_lt (g:=e2) (o:=.cells #[.slice h6 f4.length h2,.slice g5 e5.length g3] 27 (0,0)) (xb d1.out)):d5≠e2));replace d1:=ak (blk_below (g:=e2) (o:=.cells #[.slice h6 f4.length h2,.slice g5 e5.length g3] 27 (0,0)) (xb d1.out) hb);clear hb hbox hg;obtain ⟨g8,g9,u9⟩:=Kd.S_slice l8.out;subst u9;have J5:=k9.out;have J6:=j6.out;have J7:=m1.out;have J8:=k5.out;have J9:=k2.out;have K0:=i5.out;have K1:=m7.out;have K2:=l4.out;have K3:=m8.out;have K4:=l5.out;have i1:=cz20 b6.out;have i2:=cz21 b6.out;have i3:=blk_frozen b6.out 0;have i4:=blk_frozen b6.out 1;obtain ⟨g1,g2,v0⟩:=Kd.R_slice l7.out;subst v0))
   (try simp only [Act.put,List.setIfInBounds_toArray,List.set_cons_zero,List.set_cons_succ])
   go_cut [59] (fun N3 wc=>∃ (kq:Nat) (n1:Bool),N3 = .bool n1∧Aside0 (laws_FnGluedOf.j1 kq m5 n8 n9 n1 d3 b5 d7 d0 d6 b9 e8 d8=some r)∧Aside0 (kq≤u3)∧Aside0 (Kd.S (Kd.slice 3 (Kd.int .i64)) 25 wc w.heap.size (fun k_=>some k_≠((.slice e6 b5.length e3):Value).ownBlock∧some k_≠((.slice g0 d7.length f8):Value).ownBlock∧some k_≠((.slice e9 d0.length e7):Value).ownBlock∧some k_≠((.slice f9 d6.length f7):Value).ownBlock∧some k_≠((.slice f1 b9.length f0):Value).ownBlock∧some k_≠((.slice g7 e4.length g6):Value).ownBlock∧some k_≠((.slice f3 d4.length f2):Value).ownBlock∧some k_≠((.slice h6 f4.length h2):Value).ownBlock∧some k_≠((.slice g5 e5.length g3):Value).ownBlock∧some k_≠((.slice g8 e8.length g9):Value).ownBlock∧some k_≠((.slice g1 d8.length g2):Value).ownBlock) (.slice f6 d3.length f5) d3)∧Aside0 (Kd.Q (Kd.int .i64) 3 wc w.heap.size (fun k_=>some k_≠((.slice e9 d0.length e7):Value).ownBlock∧some k_≠((.slice f1 b9.length f0):Value).ownBlock∧some k_≠((.slice f3 d4.length f2):Value).ownBlock∧some k_≠((.slice g5 e5.length g3):Value).ownBlock∧some k_≠((.slice g1 d8.length g2):Value).ownBlock) (.slice e6 b5.length e3) b5)∧Aside0 (Kd.S (Kd.slice 3 (Kd.int .i64)) 25 wc w.heap.size (fun k_=>some k_≠((.slice f6 d3.length f5):Value).ownBlock∧some k_≠((.slice e6 b5.length e3):Value).ownBlock∧some k_≠((.slice e9 d0.length e7):Value).ownBlock∧some k_≠((.slice f9 d6.length f7):Value).ownBlock∧some k_≠((.slice f1 b9.length f0):Value).ownBlock∧some k_≠((.slice g7 e4.length g6):Value).ownBlock∧some k_≠((.slice f3 d4.length f2):Value).ownBlock∧some k_≠((.slice h6 f4.length h2):Value).ownBlock∧some k_≠((.slice g5 e5.length g3):Value).ownBlock∧some k_≠((.slice g8 e8.length g9):Value).ownBlock∧some k_≠((.slice g1 d8.length g2):Value).ownBlock) (.slice g0 d7.length f8) d7)∧Aside0 (Kd.Q (Kd.int .i64) 3 wc w.heap.size (fun k_=>some k_≠((.slice e6 b5.length e3):Value).ownBlock∧some k_≠((.slice f1 b9.length f0):Value).ownBlock∧some k_≠((.slice f3 d4.length f2):Value).ownBlock∧some k_≠((.slice g5 e5.length g3):Value).ownBlock∧some k_≠((.slice g1 d8.length g2):Value).ownBlock) (.slice e9 d0.length e7) d0)∧Aside0 (Kd.S (Kd.slice 3 (Kd.int .i64)) 25 wc w.heap.size (fun k_=>some k_≠((.slice f6 d3.length f5):Value).ownBlock∧some k_≠((.slice e6 b5.length e3):Value).ownBlock∧some k_≠((.slice g0 d7.length f8):Value).ownBlock∧some k_≠((.slice e9 d0.length e7):Value).ownBlock∧some k_≠((.slice f1 b9.length f0):Value).ownBlock∧some k_≠((.slice g7 e4.length g6):Value).ownBlock∧some k_≠((.slice f3 d4.length f2):Value).ownBlock∧some k_≠((.slice h6 f4.length h2):Value).ownBlock∧some k_≠((.slice g5 e5.length g3):Value).ownBlock∧some k_≠((.slice g8 e8.length g9):Value).ownBlock∧some k_≠((.slice g1 d8.length g2):Value).ownBlock) (.slice f9 d6.length f7) d6)∧Aside0 (Kd.Q (Kd.int .i64) 3 wc w.heap.size (fun k_=>some k_≠((.slice e6 b5.length e3):Value).ownBlock∧some k_≠((.slice e9 d0.length e7):Value).ownBlock∧some k_≠((.slice f3 d4.length f2):Value).ownBlock∧some k_≠((.slice g5 e5.length g3):Value).ownBlock∧some k_≠((.slice g1 d8.length g2):Value).ownBlock) (.slice f1 b9.length f0) b9)∧Aside0 (Kd.S (Kd.slice 3 (Kd.int .i64)) 25 wc w.heap.size (fun k_=>some k_≠((.slice f6 d3.length f5):Value).ownBlock∧some k_≠((.slice e6 b5.length e3):Value).ownBlock∧some k_≠((.slice g0 d7.length f8):Value).ownBlock∧some k_≠((.slice e9 d0.length e7):Value).ownBlock∧some k_≠((.slice f9 d6.length f7):Value).ownBlock∧some k_≠((.slice f1 b9.length f0):Value).ownBlock∧some k_≠((.slice f3 d4.length f2):Value).ownBlock∧some k_≠((.slice h6 f4.length h2):Value).ownBlock∧some k_≠((.slice g5 e5.length g3):Value).ownBlock∧some k_≠((.slice g8 e8.length g9):Value).ownBlock∧some k_≠((.slice g1 d8.length g2):Value).ownBlock) (.slice g7 e4.length g6) e4)∧Aside0 (Kd.Q (Kd.int .i64) 3 wc w.heap.size (fun k_=>some k_≠((.slice e6 b5.length e3):Value).ownBlock∧some k_≠((.slice e9 d0.length e7):Value).ownBlock∧some k_≠((.slice f1 b9.length f0):Value).ownBlock∧some k_≠((.slice g5 e5.length g3):Value).ownBlock∧some k_≠((.slice g1 d8.length g2):Value).ownBlock) (.slice f3 d4.length f2) d4)∧Aside0 (Kd.S (Kd.slice 3 (Kd.int .i64)) 25 wc w.heap.size (fun k_=>some k_≠((.slice f6 d3.length f5):Value).ownBlock∧some k_≠((.slice e6 b5.length e3):Value).ownBlock∧some k_≠((.slice g0 d7.length f8):Value).ownBlock∧some k_≠((.slice e9 d0.length e7):Value).ownBlock∧some k_≠((.slice f9 d6.length f7):Value).ownBlock∧some k_≠((.slice f1 b9.length f0):Value).ownBlock∧some k_≠((.slice g7 e4.length g6):Value).ownBlock∧some k_≠((.slice f3 d4.length f2):Value).ownBlock∧some k_≠((.slice g5 e5.length g3):Value).ownBlock∧some k_≠((.slice g8 e8.length g9):Value).ownBlock∧some k_≠((.slice g1 d8.length g2):Value).ownBlock) (.slice h6 f4.length h2) f4)∧Aside0 (Kd.Q (Kd.int .i64) 3 wc w.heap.size (fun k_=>some k_≠((.slice e6 b5.length e3):Value).ownBlock∧some k_≠((.slice e9 d0.length e7):Value).ownBlock∧some k_≠((.slice f1 b9.length f0):Value).ownBlock∧some k_≠((.slice f3 d4.length f2):Value).ownBlock∧some k_≠((.slice g1 d8.length g2):Value).ownBlock) (.slice g5 e5.length g3) e5)∧Aside0 (Kd.S (Kd.slice 3 (Kd.int .i64)) 25 wc w.heap.size (fun k_=>some k_≠((.slice f6 d3.length f5):Value).ownBlock∧some k_≠((.slice e6 b5.length e3):Value).ownBlock∧some k_≠((.slice g0 d7.length f8):Value).ownBlock∧some k_≠((.slice e9 d0.length e7):Value).ownBlock∧some k_≠((.slice f9 d6.length f7):Value).ownBlock∧some k_≠((.slice f1 b9.length f0):Value).ownBlock∧some k_≠((.slice g7 e4.length g6):Value).ownBlock∧some k_≠((.slice f3 d4.length f2):Value).ownBlock∧some k_≠((.slice h6 f4.length h2):Value).ownBlock∧some k_≠((.slice g5 e5.length g3):Value).ownBlock∧some k_≠((.slice g1 d8.length g2):Value).ownBlock) (.slice g8 e8.length g9) e8)∧Aside0 (Kd.Q (Kd.int .i64) 3 wc w.heap.size (fun k_=>some k_≠((.slice e6 b5.length e3):Value).ownBlock∧some k_≠((.slice e9 d0.length e7):Value).ownBlock∧some k_≠((.slice f1 b9.length f0):Value).ownBlock∧some k_≠((.slice f3 d4.length f2):Value).ownBlock∧some k_≠((.slice g5 e5.length g3):Value).ownBlock) (.slice g1 d8.length g2) d8)∧Aside0 (wc.heap[d2]?=some (.cells #[(.slice f6 d3.length f5),(.slice e6 b5.length e3)] 27 (0,0)))∧Aside0 (wc.heap[e1]?=some (.cells #[(.slice g0 d7.length f8),(.slice e9 d0.length e7)] 27 (0,0)))∧Aside0 (wc.heap[e0]?=some (.cells #[(.slice f9 d6.length f7),(.slice f1 b9.length f0)] 27 (0,0)))∧Aside0 (wc.heap[d9]?=some (.cells #[(.slice g7 e4.length g6),(.slice f3 d4.length f2)] 27 (0,0)))∧Aside0 (wc.heap[e2]?=some (.cells #[(.slice h6 f4.length h2),(.slice g5 e5.length g3)] 27 (0,0)))∧Aside0 (wc.heap[d5]?=some (.cells #[(.slice g8 e8.length g9),(.slice g1 d8.length g2)] 27 (0,0)))∧Aside0 (Below w.heap.size w wc))
   case first =>
    have H:=o4.out
    clear o4
    replace H:=bd_ H
    obtain ⟨K5,K6,H⟩:=H
    try dsimp only at H
    replace H:=ox_ H
    rcases H with ⟨rfl,H⟩|⟨rfl,H⟩
    ·
     have H':=ak H
     clear H
     have K7:=i6.out
     have K8:=i7.out
     have K9:=g4.out
     have L0:=h0.out
     have L1:=h3.out
     have L2:=i9.out
     have L3:=j8.out
     have L4:=k7.out
     have L5:=j6.out
     have L6:=k9.out
     have i1:=cz20 a1.out
     have i2:=cz21 a1.out
     have i3:=blk_frozen a1.out 0
     have i4:=blk_frozen a1.out 1
     go_wp2_with (first|((with_reducible refine gate_callee (f:=30) rfl ?_);refine gl_ (some 53) Try.func30 #[.agg #[.slice f6 d3.length f5,.slice e6 b5.length e3]] ?_;(with_reducible refine (spec_LogicOk.calls u3 _ _ d3 _ _ b5 true _ zb_7 (y2 a5.out) zb_33 (y2 a4.out) K6.out).mono ?_);rintro e w' ⟨rfl,hb⟩;refine ⟨_,rfl,?_⟩;replace a5:=ak (Kd.S_below zb_45 hb);replace a4:=ak (Kd.Q_below zb_9 hb);replace a8:=ak (Kd.S_below zb_44 hb);replace a6:=ak (Kd.Q_below zb_51 hb);replace a3:=ak (Kd.S_below zb_43 hb);replace a2:=ak (Kd.Q_below zb_50 hb);replace a9:=ak (Kd.S_below zb_42 hb);replace a7:=ak (Kd.Q_below zb_49 hb);replace k4:=ak (Kd.S_below zb_53 hb);replace k3:=ak (Kd.R_below zb_58 hb);replace l8:=ak (Kd.S_below zb_52 hb);replace l7:=ak (Kd.R_below zb_57 hb);replace a1:=ak (blk_below (g:=d2) (o:=.cells #[.slice f6 d3.length f5,.slice e6 b5.length e3] 27 (0,0)) zb_40 hb);replace b3:=ak (blk_below (g:=e1) (o:=.cells #[.slice g0 d7.length f8,.slice e9 d0.length e7] 27 (0,0)) zb_38 hb);replace b0:=ak (blk_below (g:=e0) (o:=.cells #[.slice f9 d6.length f7,.slice f1 b9.length f0] 27 (0,0)) zb_36 hb);replace b4:=ak (blk_below (g:=d9) (o:=.cells #[.slice g7 e4.length g6,.slice f3 d4.length f2] 27 (0,0)) zb_35 hb);replace d1:=ak (blk_below (g:=e2) (o:=.cells #[.slice h6 f4.length h2,.slice g5 e5.length g3] 27 (0,0)) zb_34 hb);replace b6:=ak (blk_below (g:=d5) (o:=.cells #[.slice g8 e8.length g9,.slice g1 d8.length g2] 27 (0,0)) zb_31 hb);replace HB:=ak (below_step zb_0 hb);(try clear hb);(try clear hb2);(try clear hk);(try clear hi);have i1:=cz20 a1.out;have i2:=cz21 a1.out;have i3:=blk_frozen a1.out 0;have i4:=blk_frozen a1.out 1))
     go_meet
     case rel=>exact ⟨_,(decide ((b5.length:Int)≥2)),zb_84,H',⟨(by have:=q9.out;first|omega|exact Nat.le_refl _)⟩,⟨zb_65⟩,⟨zb_77⟩,⟨zb_64⟩,⟨zb_76⟩,⟨zb_63⟩,⟨zb_75⟩,⟨zb_62⟩,⟨zb_74⟩,⟨zb_67⟩,⟨Kd.Q_of_R zb_79⟩,⟨zb_66⟩,⟨Kd.Q_of_R zb_78⟩,⟨(xb a1.out)⟩,⟨(xb b3.out)⟩,⟨(xb b0.out)⟩,⟨(xb b4.out)⟩,⟨(xb d1.out)⟩,⟨(xb b6.out)⟩,⟨zb_0⟩⟩
    have H':=ak H
    clear H
    have L7:=i6.out
    have L8:=i7.out
    have L9:=g4.out
    have M0:=h0.out
    have M1:=h3.out
    have M2:=i9.out
    have M3:=j8.out
    have M4:=k7.out
    have M5:=j6.out
    have M6:=k9.out
    have i1:=cz20 a1.out
    have i2:=cz21 a1.out
    have i3:=blk_frozen a1.out 0
    have i4:=blk_frozen a1.out 1
    go_wp2_with (first|((with_reducible refine gate_callee (f:=30) rfl ?_);refine gl_ (some 53) Try.func30 #[.agg #[.slice f6 d3.length f5,.slice e6 b5.length e3]] ?_;(with_reducible refine (spec_LogicOk.calls u3 _ _ d3 _ _ b5 false _ zb_7 (y2 a5.out) zb_33 (y2 a4.out) K6.out).mono ?_);rintro e w' ⟨rfl,hb⟩;refine ⟨_,rfl,?_⟩;replace a5:=ak (Kd.S_below zb_45 hb);replace a4:=ak (Kd.Q_below zb_9 hb);replace a8:=ak (Kd.S_below zb_44 hb);replace a6:=ak (Kd.Q_below zb_51 hb);replace a3:=ak (Kd.S_below zb_43 hb);replace a2:=ak (Kd.Q_below zb_50 hb);replace a9:=ak (Kd.S_below zb_42 hb);replace a7:=ak (Kd.Q_below zb_49 hb);replace k4:=ak (Kd.S_below zb_53 hb);replace k3:=ak (Kd.R_below zb_58 hb);replace l8:=ak (Kd.S_below zb_52 hb);replace l7:=ak (Kd.R_below zb_57 hb);replace a1:=ak (blk_below (g:=d2) (o:=.cells #[.slice f6 d3.length f5,.slice e6 b5.length e3] 27 (0,0)) zb_40 hb);replace b3:=ak (blk_below (g:=e1) (o:=.cells #[.slice g0 d7.length f8,.slice e9 d0.length e7] 27 (0,0)) zb_38 hb);replace b0:=ak (blk_below (g:=e0) (o:=.cells #[.slice f9 d6.length f7,.slice f1 b9.length f0] 27 (0,0)) zb_36 hb);replace b4:=ak (blk_below (g:=d9) (o:=.cells #[.slice g7 e4.length g6,.slice f3 d4.length f2] 27 (0,0)) zb_35 hb);replace d1:=ak (blk_below (g:=e2) (o:=.cells #[.slice h6 f4.length h2,.slice g5 e5.length g3] 27 (0,0)) zb_34 hb);replace b6:=ak (blk_below (g:=d5) (o:=.cells #[.slice g8 e8.length g9,.slice g1 d8.length g2] 27 (0,0)) zb_31 hb);replace HB:=ak (below_step zb_0 hb);(try clear hb);(try clear hb2);(try clear hk);(try clear hi)))
    go_meet
    case rel=>exact ⟨_,(false),zb_84,H',⟨(by have:=q9.out;first|omega|exact Nat.le_refl _)⟩,⟨zb_65⟩,⟨zb_77⟩,⟨zb_64⟩,⟨zb_76⟩,⟨zb_63⟩,⟨zb_75⟩,⟨zb_62⟩,⟨zb_74⟩,⟨zb_67⟩,⟨Kd.Q_of_R zb_79⟩,⟨zb_66⟩,⟨Kd.Q_of_R zb_78⟩,⟨(xb a1.out)⟩,⟨(xb b3.out)⟩,⟨(xb b0.out)⟩,⟨(xb b4.out)⟩,⟨(xb d1.out)⟩,⟨(xb b6.out)⟩,⟨zb_0⟩⟩
   case rest =>
    clear o4
    try clear c2
    try clear o2
    try clear o3
    try clear O7
    try clear i1
    try clear i2
    try clear i3
    try clear i4
    obtain ⟨kq,n1,rfl,HA,q4,a5,a4,a8,a6,a3,a2,a9,a7,b7,b8,b1,b2,a1,b3,b0,b4,d1,b6,HB⟩:=hcut
    cases kq with
    | zero=>exact absurd HA.out (by simp [laws_FnGluedOf.j1])
    | succ v1 =>
     have H:=HA.out
     clear HA
     simp only [laws_FnGluedOf.j1] at H
     have o5:=ak H
     clear H
     go_upto_if 59 with (fail)
     go_cut [] (fun wc=>∃ (kq:Nat),Aside0 (laws_FnGluedOf.j2 kq m5 d3 b5 d7 d0 d6 b9=some r)∧Aside0 (kq≤v1)∧Aside0 (Kd.S (Kd.slice 3 (Kd.int .i64)) 25 wc w.heap.size (fun k_=>some k_≠((.slice e6 b5.length e3):Value).ownBlock∧some k_≠((.slice g0 d7.length f8):Value).ownBlock∧some k_≠((.slice e9 d0.length e7):Value).ownBlock∧some k_≠((.slice f9 d6.length f7):Value).ownBlock∧some k_≠((.slice f1 b9.length f0):Value).ownBlock∧some k_≠((.slice g7 e4.length g6):Value).ownBlock∧some k_≠((.slice f3 d4.length f2):Value).ownBlock∧some k_≠((.slice h6 f4.length h2):Value).ownBlock∧some k_≠((.slice g5 e5.length g3):Value).ownBlock∧some k_≠((.slice g8 e8.length g9):Value).ownBlock∧some k_≠((.slice g1 d8.length g2):Value).ownBlock) (.slice f6 d3.length f5) d3)∧Aside0 (Kd.Q (Kd.int .i64) 3 wc w.heap.size (fun k_=>some k_≠((.slice e9 d0.length e7):Value).ownBlock∧some k_≠((.slice f1 b9.length f0):Value).ownBlock∧some k_≠((.slice f3 d4.length f2):Value).ownBlock∧some k_≠((.slice g5 e5.length g3):Value).ownBlock∧some k_≠((.slice g1 d8.length g2):Value).ownBlock) (.slice e6 b5.length e3) b5)∧Aside0 (Kd.S (Kd.slice 3 (Kd.int .i64)) 25 wc w.heap.size (fun k_=>some k_≠((.slice f6 d3.length f5):Value).ownBlock∧some k_≠((.slice e6 b5.length e3):Value).ownBlock∧some k_≠((.slice e9 d0.length e7):Value).ownBlock∧some k_≠((.slice f9 d6.length f7):Value).ownBlock∧some k_≠((.slice f1 b9.length f0):Value).ownBlock∧some k_≠((.slice g7 e4.length g6):Value).ownBlock∧some k_≠((.slice f3 d4.length f2):Value).ownBlock∧some k_≠((.slice h6 f4.length h2):Value).ownBlock∧some k_≠((.slice g5 e5.length g3):Value).ownBlock∧some k_≠((.slice g8 e8.length g9):Value).ownBlock∧some k_≠((.slice g1 d8.length g2):Value).ownBlock) (.slice g0 d7.length f8) d7)∧Aside0 (Kd.Q (Kd.int .i64) 3 wc w.heap.size (fun k_=>some k_≠((.slice e6 b5.length e3):Value).ownBlock∧some k_≠((.slice f1 b9.length f0):Value).ownBlock∧some k_≠((.slice f3 d4.length f2):Value).ownBlock∧some k_≠((.slice g5 e5.length g3):Value).ownBlock∧some k_≠((.slice g1 d8.length g2):Value).ownBlock) (.slice e9 d0.length e7) d0)∧Aside0 (Kd.S (Kd.slice 3 (Kd.int .i64)) 25 wc w.heap.size (fun k_=>some k_≠((.slice f6 d3.length f5):Value).ownBlock∧some k_≠((.slice e6 b5.length e3):Value).ownBlock∧some k_≠((.slice g0 d7.length f8):Value).ownBlock∧some k_≠((.slice e9 d0.length e7):Value).ownBlock∧some k_≠((.slice f1 b9.length f0):Value).ownBlock∧some k_≠((.slice g7 e4.length g6):Value).ownBlock∧some k_≠((.slice f3 d4.length f2):Value).ownBlock∧some k_≠((.slice h6 f4.length h2):Value).ownBlock∧some k_≠((.slice g5 e5.length g3):Value).ownBlock∧some k_≠((.slice g8 e8.length g9):Value).ownBlock∧some k_≠((.slice g1 d8.length g2):Value).ownBlock) (.slice f9 d6.length f7) d6)∧Aside0 (Kd.Q (Kd.int .i64) 3 wc w.heap.size (fun k_=>some k_≠((.slice e6 b5.length e3):Value).ownBlock∧some k_≠((.slice e9 d0.length e7):Value).ownBlock∧some k_≠((.slice f3 d4.length f2):Value).ownBlock∧some k_≠((.slice g5 e5.length g3):Value).ownBlock∧some k_≠((.slice g1 d8.length g2):Value).ownBlock) (.slice f1 b9.length f0) b9)∧Aside0 (Kd.S (Kd.slice 3 (Kd.int .i64)) 25 wc w.heap.size (fun k_=>some k_≠((.slice f6 d3.length f5):Value).ownBlock∧some k_≠((.slice e6 b5.length e3):Value).ownBlock∧some k_≠((.slice g0 d7.length f8):Value).ownBlock∧some k_≠((.slice e9 d0.length e7):Value).ownBlock∧some k_≠((.slice f9 d6.length f7):Value).ownBlock∧some k_≠((.slice f1 b9.length f0):Value).ownBlock∧some k_≠((.slice f3 d4.length f2):Value).ownBlock∧some k_≠((.slice h6 f4.length h2):Value).ownBlock∧some k_≠((.slice g5 e5.length g3):Value).ownBlock∧some k_≠((.slice g8 e8.length g9):Value).ownBlock∧some k_≠((.slice g1 d8.length g2):Value).ownBlock) (.slice g7 e4.length g6) e4)∧Aside0 (Kd.Q (Kd.int .i64) 3 wc w.heap.size (fun k_=>some k_≠((.slice e6 b5.length e3):Value).ownBlock∧some k_≠((.slice e9 d0.length e7):Value).ownBlock∧some k_≠((.slice f1 b9.length f0):Value).ownBlock∧some k_≠((.slice g5 e5.length g3):Value).ownBlock∧some k_≠((.slice g1 d8.length g2):Value).ownBlock) (.slice f3 d4.length f2) d4)∧Aside0 (Kd.S (Kd.slice 3 (Kd.int .i64)) 25 wc w.heap.size (fun k_=>some k_≠((.slice f6 d3.length f5):Value).ownBlock∧some k_≠((.slice e6 b5.length e3):Value).ownBlock∧some k_≠((.slice g0 d7.length f8):Value).ownBlock∧some k_≠((.slice e9 d0.length e7):Value).ownBlock∧some k_≠((.slice f9 d6.length f7):Value).ownBlock∧some k_≠((.slice f1 b9.length f0):Value).ownBlock∧some k_≠((.slice g7 e4.length g6):Value).ownBlock∧some k_≠((.slice f3 d4.length f2):Value).ownBlock∧some k_≠((.slice g5 e5.length g3):Value).ownBlock∧some k_≠((.slice g8 e8.length g9):Value).ownBlock∧some k_≠((.slice g1 d8.length g2):Value).ownBlock) (.slice h6 f4.length h2) f4)∧Aside0 (Kd.Q (Kd.int .i64) 3 wc w.heap.size (fun k_=>some k_≠((.slice e6 b5.length e3):Value).ownBlock∧some k_≠((.slice e9 d0.length e7):Value).ownBlock∧some k_≠((.slice f1 b9.length f0):Value).ownBlock∧some k_≠((.slice f3 d4.length f2):Value).ownBlock∧some k_≠((.slice g1 d8.length g2):Value).ownBlock) (.slice g5 e5.length g3) e5)∧Aside0 (Kd.S (Kd.slice 3 (Kd.int .i64)) 25 wc w.heap.size (fun k_=>some k_≠((.slice f6 d3.length f5):Value).ownBlock∧some k_≠((.slice e6 b5.length e3):Value).ownBlock∧some k_≠((.slice g0 d7.length f8):Value).ownBlock∧some k_≠((.slice e9 d0.length e7):Value).ownBlock∧some k_≠((.slice f9 d6.length f7):Value).ownBlock∧some k_≠((.slice f1 b9.length f0):Value).ownBlock∧some k_≠((.slice g7 e4.length g6):Value).ownBlock∧some k_≠((.slice f3 d4.length f2):Value).ownBlock∧some k_≠((.slice h6 f4.length h2):Value).ownBlock∧some k_≠((.slice g5 e5.length g3):Value).ownBlock∧some k_≠((.slice g1 d8.length g2):Value).ownBlock) (.slice g8 e8.length g9) e8)∧Aside0 (Kd.Q (Kd.int .i64) 3 wc w.heap.size (fun k_=>some k_≠((.slice e6 b5.length e3):Value).ownBlock∧some k_≠((.slice e9 d0.length e7):Value).ownBlock∧some k_≠((.slice f1 b9.length f0):Value).ownBlock∧some k_≠((.slice f3 d4.length f2):Value).ownBlock∧some k_≠((.slice g5 e5.length g3):Value).ownBlock) (.slice g1 d8.length g2) d8)∧Aside0 (wc.heap[d2]?=some (.cells #[(.slice f6 d3.length f5),(.slice e6 b5.length e3)] 27 (0,0)))∧Aside0 (wc.heap[e1]?=some (.cells #[(.slice g0 d7.length f8),(.slice e9 d0.length e7)] 27 (0,0)))∧Aside0 (wc.heap[e0]?=some (.cells #[(.slice f9 d6.length f7),(.slice f1 b9.length f0)] 27 (0,0)))∧Aside0 (wc.heap[d9]?=some (.cells #[(.slice g7 e4.length g6),(.slice f3 d4.length f2)] 27 (0,0)))∧Aside0 (wc.heap[e2]?=some (.cells #[(.slice h6 f4.length h2),(.slice g5 e5.length g3)] 27 (0,0)))∧Aside0 (wc.heap[d5]?=some (.cells #[(.slice g8 e8.length g9),(.slice g1 d8.length g2)] 27 (0,0)))∧Aside0 (Below w.heap.size w wc))
     case first =>
      have H:=o5.out
      clear o5
      replace H:=ox_ H
      rcases H with ⟨rfl,H⟩|⟨rfl,H⟩
      ·
       replace H:=ox_ H
       rcases H with ⟨rfl,H⟩|⟨rfl,H⟩
       ·
        replace H:=ox_ H
        rcases H with ⟨rfl,H⟩|⟨rfl,H⟩
        ·
         replace H:=oe2 H
         rcases H with ⟨⟨n2,m3,o6⟩,H⟩|⟨⟨n2,m3,o6⟩,H⟩
         ·
          have o7:(d8.length==b5.length)=true:=by first|simpa using n2|(simp at n2 ⊢;omega)
          clear n2
          (first|rw [m3]|(simp only [i64_w,i32_w];rw [m3])|skip)
          replace H:=bd_ H
          obtain ⟨n5,o8,H⟩:=H
          try dsimp only at H
          replace H:=oe2 H
          rcases H with ⟨⟨-,o9,q0⟩,H⟩|⟨⟨N4,o9,q0⟩,H⟩
          ·
           replace H:=bd_ H
           obtain ⟨o0,q5,H⟩:=H
           try dsimp only at H
           replace H:=oe2 H
           rcases H with ⟨⟨-,q1,q2⟩,H⟩|⟨⟨N5,q1,q2⟩,H⟩
           ·
            have H':=ak H
            clear H
            try go_wp2
            replace a5:=ak (Kd.S_drew a5.out)
            replace a4:=ak (Kd.Q_drew a4.out)
            replace a8:=ak (Kd.S_drew a8.out)
            replace a6:=ak (Kd.Q_drew a6.out)
            replace a3:=ak (Kd.S_drew a3.out)
            replace a2:=ak (Kd.Q_drew a2.out)
            replace a9:=ak (Kd.S_drew a9.out)
            replace a7:=ak (Kd.Q_drew a7.out)
            replace b7:=ak (Kd.S_drew b7.out)
            replace b8:=ak (Kd.Q_drew b8.out)
            replace b1:=ak (Kd.S_drew b1.out)
            replace b2:=ak (Kd.Q_drew b2.out)
            replace a1:=ak (blk_drew a1.out)
            replace b3:=ak (blk_drew b3.out)
            replace b0:=ak (blk_drew b0.out)
            replace b4:=ak (blk_drew b4.out)
            replace d1:=ak (blk_drew d1.out)
            replace b6:=ak (blk_drew b6.out)
            replace HB:=ak (below_drew1 HB.out)
            refine start_ (n:=29) (S:=fun w'=>w'.cell? ⟨d5,0,none⟩=some (.slice g8 e8.length g9)∧w'.cell? ⟨d5,1,none⟩=some (.slice g1 d8.length g2)∧w'.cell? ⟨d2,0,none⟩=some (.slice f6 d3.length f5)∧w'.cell? ⟨d2,1,none⟩=some (.slice e6 b5.length e3)) (ds:=[]) (bA 29 0) zb_85 rfl rfl ⟨(blk_cell b6.out 0).trans rfl,(blk_cell b6.out 1).trans rfl,(blk_cell a1.out 0).trans rfl,(blk_cell a1.out 1).trans rfl⟩ (fun hHeld=>?_);refine with_tabW laws_FnGluedOf.tab11 laws_FnGluedOf.bits11 (fun HT_ HW_=>?_)
            generalize wc.drew=N6 at a5 a4 a8 a6 a3 a2 a9 a7 b7 b8 b1 b2 a1 b3 b0 b4 d1 b6 HB hHeld ⊢
            refine pu_ (i:=0) (N:=some 60) (bA 29 1) ?_
            refine pu_ (i:=1) (N:=some 61) (bA 29 3) ?_
            refine pu_ (i:=2) (N:=some 62) (bA 29 7) ?_
            refine pu_ (i:=3) (N:=some 63) (bA 29 15) ?_
            refine pu_ (i:=4) (N:=some 64) (bA 29 31) ?_
            refine pu_ (i:=5) (N:=some 65) (bA 29 63) ?_
            refine pu_ (i:=6) (N:=some 66) (bA 29 127) ?_
            refine pu_ (i:=7) (N:=some 67) (bA 29 255) ?_
            refine pu_ (i:=10) (N:=some 70) (bA 29 1279) ?_
            refine tk_ (i:=8) (N:=some 68) (bA 29 1535) ?_
            refine pu_ (i:=9) (N:=some 69) (bA 29 2047) ?_
            refine tk_ (i:=11) (N:=some 71) (bA 29 4095) ?_
            refine pu_ (i:=12) (N:=some 72) (bA 29 8191) ?_
            refine pu_ (i:=13) (N:=some 73) (bA 29 16383) ?_
            refine pu_ (i:=14) (N:=some 74) (bA 29 32767) ?_
            refine pu_ (i:=15) (N:=some 75) (bA 29 65535) ?_
            refine tk_ (i:=16) (N:=some 76) (bA 29 131071) ?_
            refine one_ (i:=17) (N:=some 77) (bA 29 262143) rfl rfl (one_of HT_.out zb_85) (by decide) (fun K hK=>?_)
            refine ge_ Try.func54 #[.agg #[.slice g8 e8.length g9,.slice g1 d8.length g2]] ?_
            with_reducible refine (impl_NoOf.calls _ _ e8 _ _ d8 n5 _ ?side1 ?side2 ?side3 ?side4 o8.out).mono ?_
            (case side1=>repeat (first|exact (Kd.S_reads' b1.out).2.2|(with_reducible refine Kd.C_alloc ?_ _)|(with_reducible refine Kd.C_drewN ?_ _)|(with_reducible refine Kd.C_drew ?_)))
            (case side2=>exact (Kd.S_reads' b1.out).2.1)
            (case side3=>repeat (first|exact (Kd.Q_reads' b2.out).2.2|(with_reducible refine Kd.C_alloc ?_ _)|(with_reducible refine Kd.C_drewN ?_ _)|(with_reducible refine Kd.C_drew ?_)))
            (case side4=>exact (Kd.Q_reads' b2.out).2.1)
            rintro e w' ⟨rfl,hb⟩
            refine ⟨_,rfl,?_⟩
            replace a5:=ak (Kd.S_below (xS a5.out) hb)
            replace a4:=ak (Kd.Q_below (xQ a4.out) hb)
            replace a8:=ak (Kd.S_below (xS a8.out) hb)
            replace a6:=ak (Kd.Q_below (xQ a6.out) hb)
            replace a3:=ak (Kd.S_below (xS a3.out) hb)
            replace a2:=ak (Kd.Q_below (xQ a2.out) hb)
            replace a9:=ak (Kd.S_below (xS a9.out) hb)
            replace a7:=ak (Kd.Q_below (xQ a7.out) hb)
            replace b7:=ak (Kd.S_below (xS b7.out) hb)
            replace b8:=ak (Kd.Q_below (xQ b8.out) hb)
            replace b1:=ak (Kd.S_below (xS b1.out) hb)
            replace b2:=ak (Kd.Q_below (xQ b2.out) hb)
            replace a1:=ak (blk_below (g:=d2) (o:=.cells #[.slice f6 d3.length f5,.slice e6 b5.length e3] 27 (0,0)) (xb a1.out) hb)
            replace b3:=ak (blk_below (g:=e1) (o:=.cells #[.slice g0 d7.length f8,.slice e9 d0.length e7] 27 (0,0)) (xb b3.out) hb)
            replace b0:=ak (blk_below (g:=e0) (o:=.cells #[.slice f9 d6.length f7,.slice f1 b9.length f0] 27 (0,0)) (xb b0.out) hb)
            replace b4:=ak (blk_below (g:=d9) (o:=.cells #[.slice g7 e4.length g6,.slice f3 d4.length f2] 27 (0,0)) (xb b4.out) hb)
            replace d1:=ak (blk_below (g:=e2) (o:=.cells #[.slice h6 f4.length h2,.slice g5 e5.length g3] 27 (0,0)) (xb d1.out) hb)
            replace b6:=ak (blk_below (g:=d5) (o:=.cells #[.slice g8 e8.length g9,.slice g1 d8.length g2] 27 (0,0)) (xb b6.out) hb)
            replace HB:=ak (below_step zb_0 hb)
            (try clear hb)
            (try clear hb2)
            (try clear hk)
            (try clear hi)
            refine hK.out _ _ ⟨(blk_cell b6.out 0).trans rfl,(blk_cell b6.out 1).trans rfl,(blk_cell a1.out 0).trans rfl,(blk_cell a1.out 1).trans rfl⟩ (fun hHeld=>?_)
            clear hK K
            refine no_ (N:=some 77) ?_
            refine pu_ (i:=18) (N:=some 78) (bA 29 524287) ?_
            refine pu_ (i:=19) (N:=some 79) (bA 29 1048575) ?_
            refine pu_ (i:=20) (N:=some 80) (bA 29 2097151) ?_
            refine pu_ (i:=23) (N:=some 83) (bA 29 10485759) ?_
            refine tk_ (i:=21) (N:=some 81) (bA 29 12582911) ?_
            refine tk_ (i:=24) (N:=some 84) (bA 29 29360127) ?_
            refine pu_ (i:=25) (N:=some 85) (bA 29 62914559) ?_
            refine pu_ (i:=26) (N:=some 86) (bA 29 130023423) ?_
            refine one_ (i:=22) (N:=some 82) (bA 29 134217727) rfl rfl (one_of HT_.out zb_85) (by decide) (fun K hK=>?_)
            refine ge_ Try.func55 #[.agg #[.slice g8 e8.length g9,.slice g1 d8.length g2]] ?_
            with_reducible refine (impl_YesOf.calls _ _ e8 _ _ d8 o0 _ ?side1 ?side2 ?side3 ?side4 q5.out).mono ?_
            (case side1=>repeat (first|exact (Kd.S_reads' b1.out).2.2|(with_reducible refine Kd.C_alloc ?_ _)|(with_reducible refine Kd.C_drewN ?_ _)|(with_reducible refine Kd.C_drew ?_)))
            (case side2=>exact (Kd.S_reads' b1.out).2.1)
            (case side3=>repeat (first|exact (Kd.Q_reads' b2.out).2.2|(with_reducible refine Kd.C_alloc ?_ _)|(with_reducible refine Kd.C_drewN ?_ _)|(with_reducible refine Kd.C_drew ?_)))
            (case side4=>exact (Kd.Q_reads' b2.out).2.1)
            rintro e w' ⟨rfl,hb⟩
            refine ⟨_,rfl,?_⟩
            replace a5:=ak (Kd.S_below (xS a5.out) hb)
            replace a4:=ak (Kd.Q_below (xQ a4.out) hb)
            replace a8:=ak (Kd.S_below (xS a8.out) hb)
            replace a6:=ak (Kd.Q_below (xQ a6.out) hb)
            replace a3:=ak (Kd.S_below (xS a3.out) hb)
            replace a2:=ak (Kd.Q_below (xQ a2.out) hb)
            replace a9:=ak (Kd.S_below (xS a9.out) hb)
            replace a7:=ak (Kd.Q_below (xQ a7.out) hb)
            replace b7:=ak (Kd.S_below (xS b7.out) hb)
            replace b8:=ak (Kd.Q_below (xQ b8.out) hb)
            replace b1:=ak (Kd.S_below (xS b1.out) hb)
            replace b2:=ak (Kd.Q_below (xQ b2.out) hb)
            replace a1:=ak (blk_below (g:=d2) (o:=.cells #[.slice f6 d3.length f5,.slice e6 b5.length e3] 27 (0,0)) (xb a1.out) hb)
            replace b3:=ak (blk_below (g:=e1) (o:=.cells #[.slice g0 d7.length f8,.slice e9 d0.length e7] 27 (0,0)) (xb b3.out) hb)
            replace b0:=ak (blk_below (g:=e0) (o:=.cells #[.slice f9 d6.length f7,.slice f1 b9.length f0] 27 (0,0)) (xb b0.out) hb)
            replace b4:=ak (blk_below (g:=d9) (o:=.cells #[.slice g7 e4.length g6,.slice f3 d4.length f2] 27 (0,0)) (xb b4.out) hb)
            replace d1:=ak (blk_below (g:=e2) (o:=.cells #[.slice h6 f4.length h2,.slice g5 e5.length g3] 27 (0,0)) (xb d1.out) hb)
            replace b6:=ak (blk_below (g:=d5) (o:=.cells #[.slice g8 e8.length g9,.slice g1 d8.length g2] 27 (0,0)) (xb b6.out) hb)
            replace HB:=ak (below_step zb_0 hb)
            (try clear hb)
            (try clear hb2)
            (try clear hk)
            (try clear hi)
            refine hK.out _ _ ⟨(blk_cell b6.out 0).trans rfl,(blk_cell b6.out 1).trans rfl,(blk_cell a1.out 0).trans rfl,(blk_cell a1.out 1).trans rfl⟩ (fun hHeld=>?_)
            clear hK K
            refine no_ (N:=some 82) ?_
            refine pu_ (i:=27) (N:=some 87) (bA 29 268435455) ?_
            refine pu_ (i:=28) (N:=some 88) (bA 29 536870911) ?_
            refine done_ (done_of HT_.out zb_85) ?_
            try go_wp2
            go_meet
            case rel=>exact ⟨_,H',⟨(by have:=q9.out;have:=q4.out;first|omega|exact Nat.le_refl _)⟩,⟨(xS a5.out)⟩,⟨(xQ a4.out)⟩,⟨(xS a8.out)⟩,⟨(xQ a6.out)⟩,⟨(xS a3.out)⟩,⟨(xQ a2.out)⟩,⟨(xS a9.out)⟩,⟨(xQ a7.out)⟩,⟨(xS b7.out)⟩,⟨(xQ b8.out)⟩,⟨(xS b1.out)⟩,⟨(xQ b2.out)⟩,⟨(xb a1.out)⟩,⟨(xb b3.out)⟩,⟨(xb b0.out)⟩,⟨(xb b4.out)⟩,⟨(xb d1.out)⟩,⟨(xb b6.out)⟩,⟨zb_0⟩⟩
           obtain rfl:=Option.some.inj H
           try go_wp2
           replace a5:=ak (Kd.S_drew a5.out)
           replace a4:=ak (Kd.Q_drew a4.out)
           replace a8:=ak (Kd.S_drew a8.out)
           replace a6:=ak (Kd.Q_drew a6.out)
           replace a3:=ak (Kd.S_drew a3.out)
           replace a2:=ak (Kd.Q_drew a2.out)
           replace a9:=ak (Kd.S_drew a9.out)
           replace a7:=ak (Kd.Q_drew a7.out)
           replace b7:=ak (Kd.S_drew b7.out)
           replace b8:=ak (Kd.Q_drew b8.out)
           replace b1:=ak (Kd.S_drew b1.out)
           replace b2:=ak (Kd.Q_drew b2.out)
           replace a1:=ak (blk_drew a1.out)
           replace b3:=ak (blk_drew b3.out)
           replace b0:=ak (blk_drew b0.out)
           replace b4:=ak (blk_drew b4.out)
           replace d1:=ak (blk_drew d1.out)
           replace b6:=ak (blk_drew b6.out)
           replace HB:=ak (below_drew1 HB.out)
           refine start_ (n:=29) (S:=fun w'=>w'.cell? ⟨d5,0,none⟩=some (.slice g8 e8.length g9)∧w'.cell? ⟨d5,1,none⟩=some (.slice g1 d8.length g2)∧w'.cell? ⟨d2,0,none⟩=some (.slice f6 d3.length f5)∧w'.cell? ⟨d2,1,none⟩=some (.slice e6 b5.length e3)) (ds:=[]) (bA 29 0) zb_85 rfl rfl ⟨(blk_cell b6.out 0).trans rfl,(blk_cell b6.out 1).trans rfl,(blk_cell a1.out 0).trans rfl,(blk_cell a1.out 1).trans rfl⟩ (fun hHeld=>?_);refine with_tabW laws_FnGluedOf.tab11 laws_FnGluedOf.bits11 (fun HT_ HW_=>?_)
           generalize wc.drew=N7 at a5 a4 a8 a6 a3 a2 a9 a7 b7 b8 b1 b2 a1 b3 b0 b4 d1 b6 HB hHeld ⊢
           refine pu_ (i:=0) (N:=some 60) (bA 29 1) ?_
           refine pu_ (i:=1) (N:=some 61) (bA 29 3) ?_
           refine pu_ (i:=2) (N:=some 62) (bA 29 7) ?_
           refine pu_ (i:=3) (N:=some 63) (bA 29 15) ?_
           refine pu_ (i:=4) (N:=some 64) (bA 29 31) ?_
           refine pu_ (i:=5) (N:=some 65) (bA 29 63) ?_
           refine pu_ (i:=6) (N:=some 66) (bA 29 127) ?_
           refine pu_ (i:=7) (N:=some 67) (bA 29 255) ?_
           refine pu_ (i:=10) (N:=some 70) (bA 29 1279) ?_
           refine tk_ (i:=8) (N:=some 68) (bA 29 1535) ?_
           refine pu_ (i:=9) (N:=some 69) (bA 29 2047) ?_
           refine tk_ (i:=11) (N:=some 71) (bA 29 4095) ?_
           refine pu_ (i:=12) (N:=some 72) (bA 29 8191) ?_
           refine pu_ (i:=13) (N:=some 73) (bA 29 16383) ?_
           refine pu_ (i:=14) (N:=some 74) (bA 29 32767) ?_
           refine pu_ (i:=15) (N:=some 75) (bA 29 65535) ?_
           refine tk_ (i:=16) (N:=some 76) (bA 29 131071) ?_
           refine one_ (i:=17) (N:=some 77) (bA 29 262143) rfl rfl (one_of HT_.out zb_85) (by decide) (fun K hK=>?_)
           refine ge_ Try.func54 #[.agg #[.slice g8 e8.length g9,.slice g1 d8.length g2]] ?_
           with_reducible refine (impl_NoOf.calls _ _ e8 _ _ d8 n5 _ ?side1 ?side2 ?side3 ?side4 o8.out).mono ?_
           (case side1=>repeat (first|exact (Kd.S_reads' b1.out).2.2|(with_reducible refine Kd.C_alloc ?_ _)|(with_reducible refine Kd.C_drewN ?_ _)|(with_reducible refine Kd.C_drew ?_)))
           (case side2=>exact (Kd.S_reads' b1.out).2.1)
           (case side3=>repeat (first|exact (Kd.Q_reads' b2.out).2.2|(with_reducible refine Kd.C_alloc ?_ _)|(with_reducible refine Kd.C_drewN ?_ _)|(with_reducible refine Kd.C_drew ?_)))
           (case side4=>exact (Kd.Q_reads' b2.out).2.1)
           rintro e w' ⟨rfl,hb⟩
           refine ⟨_,rfl,?_⟩
           replace a5:=ak (Kd.S_below (xS a5.out) hb)
           replace a4:=ak (Kd.Q_below (xQ a4.out) hb)
           replace a8:=ak (Kd.S_below (xS a8.out) hb)
           replace a6:=ak (Kd.Q_below (xQ a6.out) hb)
           replace a3:=ak (Kd.S_below (xS a3.out) hb)
           replace a2:=ak (Kd.Q_below (xQ a2.out) hb)
           replace a9:=ak (Kd.S_below (xS a9.out) hb)
           replace a7:=ak (Kd.Q_below (xQ a7.out) hb)
           replace b7:=ak (Kd.S_below (xS b7.out) hb)
           replace b8:=ak (Kd.Q_below (xQ b8.out) hb)
           replace b1:=ak (Kd.S_below (xS b1.out) hb)
           replace b2:=ak (Kd.Q_below (xQ b2.out) hb)
           replace a1:=ak (blk_below (g:=d2) (o:=.cells #[.slice f6 d3.length f5,.slice e6 b5.length e3] 27 (0,0)) (xb a1.out) hb)
           replace b3:=ak (blk_below (g:=e1) (o:=.cells #[.slice g0 d7.length f8,.slice e9 d0.length e7] 27 (0,0)) (xb b3.out) hb)
           replace b0:=ak (blk_below (g:=e0) (o:=.cells #[.slice f9 d6.length f7,.slice f1 b9.length f0] 27 (0,0)) (xb b0.out) hb)
           replace b4:=ak (blk_below (g:=d9) (o:=.cells #[.slice g7 e4.length g6,.slice f3 d4.length f2] 27 (0,0)) (xb b4.out) hb)
           replace d1:=ak (blk_below (g:=e2) (o:=.cells #[.slice h6 f4.length h2,.slice g5 e5.length g3] 27 (0,0)) (xb d1.out) hb)
           replace b6:=ak (blk_below (g:=d5) (o:=.cells #[.slice g8 e8.length g9,.slice g1 d8.length g2] 27 (0,0)) (xb b6.out) hb)
           replace HB:=ak (below_step zb_0 hb)
           (try clear hb)
           (try clear hb2)
           (try clear hk)
           (try clear hi)
           refine hK.out _ _ ⟨(blk_cell b6.out 0).trans rfl,(blk_cell b6.out 1).trans rfl,(blk_cell a1.out 0).trans rfl,(blk_cell a1.out 1).trans rfl⟩ (fun hHeld=>?_)
           clear hK K
           refine no_ (N:=some 77) ?_
           refine pu_ (i:=18) (N:=some 78) (bA 29 524287) ?_
           refine pu_ (i:=19) (N:=some 79) (bA 29 1048575) ?_
           refine pu_ (i:=20) (N:=some 80) (bA 29 2097151) ?_
           refine pu_ (i:=23) (N:=some 83) (bA 29 10485759) ?_
           refine tk_ (i:=21) (N:=some 81) (bA 29 12582911) ?_
           refine tk_ (i:=24) (N:=some 84) (bA 29 29360127) ?_
           refine pu_ (i:=25) (N:=some 85) (bA 29 62914559) ?_
           refine pu_ (i:=26) (N:=some 86) (bA 29 130023423) ?_
           refine one_ (i:=22) (N:=some 82) (bA 29 134217727) rfl rfl (one_of HT_.out zb_85) (by decide) (fun K hK=>?_)
           refine ge_ Try.func55 #[.agg #[.slice g8 e8.length g9,.slice g1 d8.length g2]] ?_
           with_reducible refine (impl_YesOf.calls _ _ e8 _ _ d8 o0 _ ?side1 ?side2 ?side3 ?side4 q5.out).mono ?_
           (case side1=>repeat (first|exact (Kd.S_reads' b1.out).2.2|(with_reducible refine Kd.C_alloc ?_ _)|(with_reducible refine Kd.C_drewN ?_ _)|(with_reducible refine Kd.C_drew ?_)))
           (case side2=>exact (Kd.S_reads' b1.out).2.1)
           (case side3=>repeat (first|exact (Kd.Q_reads' b2.out).2.2|(with_reducible refine Kd.C_alloc ?_ _)|(with_reducible refine Kd.C_drewN ?_ _)|(with_reducible refine Kd.C_drew ?_)))
           (case side4=>exact (Kd.Q_reads' b2.out).2.1)
           rintro e w' ⟨rfl,hb⟩
           refine ⟨_,rfl,?_⟩
           replace a5:=ak (Kd.S_below (xS a5.out) hb)
           replace a4:=ak (Kd.Q_below (xQ a4.out) hb)
           replace a8:=ak (Kd.S_below (xS a8.out) hb)
           replace a6:=ak (Kd.Q_below (xQ a6.out) hb)
           replace a3:=ak (Kd.S_below (xS a3.out) hb)
           replace a2:=ak (Kd.Q_below (xQ a2.out) hb)
           replace a9:=ak (Kd.S_below (xS a9.out) hb)
           replace a7:=ak (Kd.Q_below (xQ a7.out) hb)
           replace b7:=ak (Kd.S_below (xS b7.out) hb)
           replace b8:=ak (Kd.Q_below (xQ b8.out) hb)
           replace b1:=ak (Kd.S_below (xS b1.out) hb)
           replace b2:=ak (Kd.Q_below (xQ b2.out) hb)
           replace a1:=ak (blk_below (g:=d2) (o:=.cells #[.slice f6 d3.length f5,.slice e6 b5.length e3] 27 (0,0)) (xb a1.out) hb)
           replace b3:=ak (blk_below (g:=e1) (o:=.cells #[.slice g0 d7.length f8,.slice e9 d0.length e7] 27 (0,0)) (xb b3.out) hb)
           replace b0:=ak (blk_below (g:=e0) (o:=.cells #[.slice f9 d6.length f7,.slice f1 b9.length f0] 27 (0,0)) (xb b0.out) hb)
           replace b4:=ak (blk_below (g:=d9) (o:=.cells #[.slice g7 e4.length g6,.slice f3 d4.length f2] 27 (0,0)) (xb b4.out) hb)
           replace d1:=ak (blk_below (g:=e2) (o:=.cells #[.slice h6 f4.length h2,.slice g5 e5.length g3] 27 (0,0)) (xb d1.out) hb)
           replace b6:=ak (blk_below (g:=d5) (o:=.cells #[.slice g8 e8.length g9,.slice g1 d8.length g2] 27 (0,0)) (xb b6.out) hb)
           replace HB:=ak (below_step zb_0 hb)
           (try clear hb)
           (try clear hb2)
           (try clear hk)
           (try clear hi)
           refine hK.out _ _ ⟨(blk_cell b6.out 0).trans rfl,(blk_cell b6.out 1).trans rfl,(blk_cell a1.out 0).trans rfl,(blk_cell a1.out 1).trans rfl⟩ (fun hHeld=>?_)
           clear hK K
           refine no_ (N:=some 82) ?_
           refine pu_ (i:=27) (N:=some 87) (bA 29 268435455) ?_
           refine pu_ (i:=28) (N:=some 88) (bA 29 536870911) ?_
           refine done_ (done_of HT_.out zb_85) ?_
           try go_wp2
           go_ret
           exact ⟨zb_20,zb_0⟩
          obtain rfl:=Option.some.inj H
          try go_wp2
          replace a5:=ak (Kd.S_drew a5.out)
          replace a4:=ak (Kd.Q_drew a4.out)
          replace a8:=ak (Kd.S_drew a8.out)
          replace a6:=ak (Kd.Q_drew a6.out)
          replace a3:=ak (Kd.S_drew a3.out)
          replace a2:=ak (Kd.Q_drew a2.out)
          replace a9:=ak (Kd.S_drew a9.out)
          replace a7:=ak (Kd.Q_drew a7.out)
          replace b7:=ak (Kd.S_drew b7.out)
          replace b8:=ak (Kd.Q_drew b8.out)
          replace b1:=ak (Kd.S_drew b1.out)
          replace b2:=ak (Kd.Q_drew b2.out)
          replace a1:=ak (blk_drew a1.out)
          replace b3:=ak (blk_drew b3.out)
          replace b0:=ak (blk_drew b0.out)
          replace b4:=ak (blk_drew b4.out)
          replace d1:=ak (blk_drew d1.out)
          replace b6:=ak (blk_drew b6.out)
          replace HB:=ak (below_drew1 HB.out)
          refine start_ (n:=29) (S:=fun w'=>w'.cell? ⟨d5,0,none⟩=some (.slice g8 e8.length g9)∧w'.cell? ⟨d5,1,none⟩=some (.slice g1 d8.length g2)∧w'.cell? ⟨d2,0,none⟩=some (.slice f6 d3.length f5)∧w'.cell? ⟨d2,1,none⟩=some (.slice e6 b5.length e3)) (ds:=[]) (bA 29 0) zb_85 rfl rfl ⟨(blk_cell b6.out 0).trans rfl,(blk_cell b6.out 1).trans rfl,(blk_cell a1.out 0).trans rfl,(blk_cell a1.out 1).trans rfl⟩ (fun hHeld=>?_);refine with_tabW laws_FnGluedOf.tab11 laws_FnGluedOf.bits11 (fun HT_ HW_=>?_)
          generalize wc.drew=N8 at a5 a4 a8 a6 a3 a2 a9 a7 b7 b8 b1 b2 a1 b3 b0 b4 d1 b6 HB hHeld ⊢
          refine pu_ (i:=0) (N:=some 60) (bA 29 1) ?_
          refine pu_ (i:=1) (N:=some 61) (bA 29 3) ?_
          refine pu_ (i:=2) (N:=some 62) (bA 29 7) ?_
          refine pu_ (i:=3) (N:=some 63) (bA 29 15) ?_
          refine pu_ (i:=4) (N:=some 64) (bA 29 31) ?_
          refine pu_ (i:=5) (N:=some 65) (bA 29 63) ?_
          refine pu_ (i:=6) (N:=some 66) (bA 29 127) ?_
          refine pu_ (i:=7) (N:=some 67) (bA 29 255) ?_
          refine pu_ (i:=10) (N:=some 70) (bA 29 1279) ?_
          refine tk_ (i:=8) (N:=some 68) (bA 29 1535) ?_
          refine pu_ (i:=9) (N:=some 69) (bA 29 2047) ?_
          refine tk_ (i:=11) (N:=some 71) (bA 29 4095) ?_
          refine pu_ (i:=12) (N:=some 72) (bA 29 8191) ?_
          refine pu_ (i:=13) (N:=some 73) (bA 29 16383) ?_
          refine pu_ (i:=14) (N:=some 74) (bA 29 32767) ?_
          refine pu_ (i:=15) (N:=some 75) (bA 29 65535) ?_
          refine tk_ (i:=16) (N:=some 76) (bA 29 131071) ?_
          refine one_ (i:=17) (N:=some 77) (bA 29 262143) rfl rfl (one_of HT_.out zb_85) (by decide) (fun K hK=>?_)
          refine ge_ Try.func54 #[.agg #[.slice g8 e8.length g9,.slice g1 d8.length g2]] ?_
          with_reducible refine (impl_NoOf.calls _ _ e8 _ _ d8 n5 _ ?side1 ?side2 ?side3 ?side4 o8.out).mono ?_
          (case side1=>repeat (first|exact (Kd.S_reads' b1.out).2.2|(with_reducible refine Kd.C_alloc ?_ _)|(with_reducible refine Kd.C_drewN ?_ _)|(with_reducible refine Kd.C_drew ?_)))
          (case side2=>exact (Kd.S_reads' b1.out).2.1)
          (case side3=>repeat (first|exact (Kd.Q_reads' b2.out).2.2|(with_reducible refine Kd.C_alloc ?_ _)|(with_reducible refine Kd.C_drewN ?_ _)|(with_reducible refine Kd.C_drew ?_)))
          (case side4=>exact (Kd.Q_reads' b2.out).2.1)
          rintro e w' ⟨rfl,hb⟩
          refine ⟨_,rfl,?_⟩
          replace a5:=ak (Kd.S_below (xS a5.out) hb)
          replace a4:=ak (Kd.Q_below (xQ a4.out) hb)
          replace a8:=ak (Kd.S_below (xS a8.out) hb)
          replace a6:=ak (Kd.Q_below (xQ a6.out) hb)
          replace a3:=ak (Kd.S_below (xS a3.out) hb)
          replace a2:=ak (Kd.Q_below (xQ a2.out) hb)
          replace a9:=ak (Kd.S_below (xS a9.out) hb)
          replace a7:=ak (Kd.Q_below (xQ a7.out) hb)
          replace b7:=ak (Kd.S_below (xS b7.out) hb)
          replace b8:=ak (Kd.Q_below (xQ b8.out) hb)
          replace b1:=ak (Kd.S_below (xS b1.out) hb)
          replace b2:=ak (Kd.Q_below (xQ b2.out) hb)
          replace a1:=ak (blk_below (g:=d2) (o:=.cells #[.slice f6 d3.length f5,.slice e6 b5.length e3] 27 (0,0)) (xb a1.out) hb)
          replace b3:=ak (blk_below (g:=e1) (o:=.cells #[.slice g0 d7.length f8,.slice e9 d0.length e7] 27 (0,0)) (xb b3.out) hb)
          replace b0:=ak (blk_below (g:=e0) (o:=.cells #[.slice f9 d6.length f7,.slice f1 b9.length f0] 27 (0,0)) (xb b0.out) hb)
          replace b4:=ak (blk_below (g:=d9) (o:=.cells #[.slice g7 e4.length g6,.slice f3 d4.length f2] 27 (0,0)) (xb b4.out) hb)
          replace d1:=ak (blk_below (g:=e2) (o:=.cells #[.slice h6 f4.length h2,.slice g5 e5.length g3] 27 (0,0)) (xb d1.out) hb)
          replace b6:=ak (blk_below (g:=d5) (o:=.cells #[.slice g8 e8.length g9,.slice g1 d8.length g2] 27 (0,0)) (xb b6.out) hb)
          replace HB:=ak (below_step zb_0 hb)
          (try clear hb)
          (try clear hb2)
          (try clear hk)
          (try clear hi)
          refine hK.out _ _ ⟨(blk_cell b6.out 0).trans rfl,(blk_cell b6.out 1).trans rfl,(blk_cell a1.out 0).trans rfl,(blk_cell a1.out 1).trans rfl⟩ (fun hHeld=>?_)
          clear hK K
          refine no_ (N:=some 77) ?_
          refine pu_ (i:=18) (N:=some 78) (bA 29 524287) ?_
          refine pu_ (i:=19) (N:=some 79) (bA 29 1048575) ?_
          refine pu_ (i:=20) (N:=some 80) (bA 29 2097151) ?_
          refine of_ (i:=21) (N:=some 81) (bA 29 4194303) ?_
          refine of_ (i:=22) (N:=some 82) (bA 29 8388607) ?_
          refine of_ (i:=23) (N:=some 83) (bA 29 16777215) ?_
          refine of_ (i:=24) (N:=some 84) (bA 29 33554431) ?_
          refine of_ (i:=25) (N:=some 85) (bA 29 67108863) ?_
          refine of_ (i:=26) (N:=some 86) (bA 29 134217727) ?_
          refine of_ (i:=27) (N:=some 87) (bA 29 268435455) ?_
          refine pu_ (i:=28) (N:=some 88) (bA 29 536870911) ?_
          refine done_ (done_of HT_.out zb_85) ?_
          try go_wp2
          go_ret
          exact ⟨zb_20,zb_0⟩
         have o7:(d8.length==b5.length)=false:=by first|simpa using n2|(simp at n2 ⊢;omega)
         (first|rw [m3]|(simp only [i64_w,i32_w];rw [m3])|skip)
         obtain rfl:=Option.some.inj H
         try go_wp2
         replace a5:=ak (Kd.S_drew a5.out)
         replace a4:=ak (Kd.Q_drew a4.out)
         replace a8:=ak (Kd.S_drew a8.out)
         replace a6:=ak (Kd.Q_drew a6.out)
         replace a3:=ak (Kd.S_drew a3.out)
         replace a2:=ak (Kd.Q_drew a2.out)
         replace a9:=ak (Kd.S_drew a9.out)
         replace a7:=ak (Kd.Q_drew a7.out)
         replace b7:=ak (Kd.S_drew b7.out)
         replace b8:=ak (Kd.Q_drew b8.out)
         replace b1:=ak (Kd.S_drew b1.out)
         replace b2:=ak (Kd.Q_drew b2.out)
         replace a1:=ak (blk_drew a1.out)
         replace b3:=ak (blk_drew b3.out)
         replace b0:=ak (blk_drew b0.out)
         replace b4:=ak (blk_drew b4.out)
         replace d1:=ak (blk_drew d1.out)
         replace b6:=ak (blk_drew b6.out)
         replace HB:=ak (below_drew1 HB.out)
         refine start_ (n:=29) (S:=fun w'=>w'.cell? ⟨d5,0,none⟩=some (.slice g8 e8.length g9)∧w'.cell? ⟨d5,1,none⟩=some (.slice g1 d8.length g2)∧w'.cell? ⟨d2,0,none⟩=some (.slice f6 d3.length f5)∧w'.cell? ⟨d2,1,none⟩=some (.slice e6 b5.length e3)) (ds:=[]) (bA 29 0) zb_85 rfl rfl ⟨(blk_cell b6.out 0).trans rfl,(blk_cell b6.out 1).trans rfl,(blk_cell a1.out 0).trans rfl,(blk_cell a1.out 1).trans rfl⟩ (fun hHeld=>?_);refine with_tabW laws_FnGluedOf.tab11 laws_FnGluedOf.bits11 (fun HT_ HW_=>?_)
         generalize wc.drew=N9 at a5 a4 a8 a6 a3 a2 a9 a7 b7 b8 b1 b2 a1 b3 b0 b4 d1 b6 HB hHeld ⊢
         refine pu_ (i:=0) (N:=some 60) (bA 29 1) ?_
         refine pu_ (i:=1) (N:=some 61) (bA 29 3) ?_
         refine pu_ (i:=2) (N:=some 62) (bA 29 7) ?_
         refine pu_ (i:=3) (N:=some 63) (bA 29 15) ?_
         refine pu_ (i:=4) (N:=some 64) (bA 29 31) ?_
         refine pu_ (i:=5) (N:=some 65) (bA 29 63) ?_
         refine pu_ (i:=6) (N:=some 66) (bA 29 127) ?_
         refine pu_ (i:=7) (N:=some 67) (bA 29 255) ?_
         refine pu_ (i:=10) (N:=some 70) (bA 29 1279) ?_
         refine tk_ (i:=8) (N:=some 68) (bA 29 1535) ?_
         refine pu_ (i:=9) (N:=some 69) (bA 29 2047) ?_
         refine tk_ (i:=11) (N:=some 71) (bA 29 4095) ?_
         refine pu_ (i:=12) (N:=some 72) (bA 29 8191) ?_
         refine pu_ (i:=13) (N:=some 73) (bA 29 16383) ?_
         refine pu_ (i:=14) (N:=some 74) (bA 29 32767) ?_
         refine pu_ (i:=15) (N:=some 75) (bA 29 65535) ?_
         refine of_ (i:=16) (N:=some 76) (bA 29 131071) ?_
         refine of_ (i:=17) (N:=some 77) (bA 29 262143) ?_
         refine of_ (i:=18) (N:=some 78) (bA 29 524287) ?_
         refine pu_ (i:=19) (N:=some 79) (bA 29 1048575) ?_
         refine pu_ (i:=20) (N:=some 80) (bA 29 2097151) ?_
         refine of_ (i:=21) (N:=some 81) (bA 29 4194303) ?_
         refine of_ (i:=22) (N:=some 82) (bA 29 8388607) ?_
         refine of_ (i:=23) (N:=some 83) (bA 29 16777215) ?_
         refine of_ (i:=24) (N:=some 84) (bA 29 33554431) ?_
         refine of_ (i:=25) (N:=some 85) (bA 29 67108863) ?_
         refine of_ (i:=26) (N:=some 86) (bA 29 134217727) ?_
         refine of_ (i:=27) (N:=some 87) (bA 29 268435455) ?_
         refine pu_ (i:=28) (N:=some 88) (bA 29 536870911) ?_
         refine done_ (done_of HT_.out zb_85) ?_
         try go_wp2
         go_ret
         exact ⟨zb_20,zb_0⟩
        obtain rfl:=Option.some.inj H
        try go_wp2
        replace a5:=ak (Kd.S_drew a5.out)
        replace a4:=ak (Kd.Q_drew a4.out)
        replace a8:=ak (Kd.S_drew a8.out)
        replace a6:=ak (Kd.Q_drew a6.out)
        replace a3:=ak (Kd.S_drew a3.out)
        replace a2:=ak (Kd.Q_drew a2.out)
        replace a9:=ak (Kd.S_drew a9.out)
        replace a7:=ak (Kd.Q_drew a7.out)
        replace b7:=ak (Kd.S_drew b7.out)
        replace b8:=ak (Kd.Q_drew b8.out)
        replace b1:=ak (Kd.S_drew b1.out)
        replace b2:=ak (Kd.Q_drew b2.out)
        replace a1:=ak (blk_drew a1.out)
        replace b3:=ak (blk_drew b3.out)
        replace b0:=ak (blk_drew b0.out)
        replace b4:=ak (blk_drew b4.out)
        replace d1:=ak (blk_drew d1.out)
        replace b6:=ak (blk_drew b6.out)
        replace HB:=ak (below_drew1 HB.out)
        refine start_ (n:=29) (S:=fun w'=>True) (ds:=[]) (bA 29 0) zb_85 rfl rfl trivial (fun hHeld=>?_);refine with_tabW laws_FnGluedOf.tab11 laws_FnGluedOf.bits11 (fun HT_ HW_=>?_)
        generalize wc.drew=O0 at a5 a4 a8 a6 a3 a2 a9 a7 b7 b8 b1 b2 a1 b3 b0 b4 d1 b6 HB hHeld ⊢
        refine pu_ (i:=0) (N:=some 60) (bA 29 1) ?_
        refine pu_ (i:=1) (N:=some 61) (bA 29 3) ?_
        refine pu_ (i:=2) (N:=some 62) (bA 29 7) ?_
        refine pu_ (i:=3) (N:=some 63) (bA 29 15) ?_
        refine pu_ (i:=4) (N:=some 64) (bA 29 31) ?_
        refine pu_ (i:=5) (N:=some 65) (bA 29 63) ?_
        refine pu_ (i:=6) (N:=some 66) (bA 29 127) ?_
        refine of_ (i:=7) (N:=some 67) (bA 29 255) ?_
        refine of_ (i:=8) (N:=some 68) (bA 29 511) ?_
        refine of_ (i:=9) (N:=some 69) (bA 29 1023) ?_
        refine of_ (i:=10) (N:=some 70) (bA 29 2047) ?_
        refine of_ (i:=11) (N:=some 71) (bA 29 4095) ?_
        refine of_ (i:=12) (N:=some 72) (bA 29 8191) ?_
        refine of_ (i:=13) (N:=some 73) (bA 29 16383) ?_
        refine pu_ (i:=14) (N:=some 74) (bA 29 32767) ?_
        refine pu_ (i:=15) (N:=some 75) (bA 29 65535) ?_
        refine of_ (i:=16) (N:=some 76) (bA 29 131071) ?_
        refine of_ (i:=17) (N:=some 77) (bA 29 262143) ?_
        refine of_ (i:=18) (N:=some 78) (bA 29 524287) ?_
        refine pu_ (i:=19) (N:=some 79) (bA 29 1048575) ?_
        refine pu_ (i:=20) (N:=some 80) (bA 29 2097151) ?_
        refine of_ (i:=21) (N:=some 81) (bA 29 4194303) ?_
        refine of_ (i:=22) (N:=some 82) (bA 29 8388607) ?_
        refine of_ (i:=23) (N:=some 83) (bA 29 16777215) ?_
        refine of_ (i:=24) (N:=some 84) (bA 29 33554431) ?_
        refine of_ (i:=25) (N:=some 85) (bA 29 67108863) ?_
        refine of_ (i:=26) (N:=some 86) (bA 29 134217727) ?_
        refine of_ (i:=27) (N:=some 87) (bA 29 268435455) ?_
        refine pu_ (i:=28) (N:=some 88) (bA 29 536870911) ?_
        refine done_ (done_of HT_.out zb_85) ?_
        try go_wp2
        go_ret
        exact ⟨zb_20,zb_0⟩
       obtain rfl:=Option.some.inj H
       try go_wp2
       replace a5:=ak (Kd.S_drew a5.out)
       replace a4:=ak (Kd.Q_drew a4.out)
       replace a8:=ak (Kd.S_drew a8.out)
       replace a6:=ak (Kd.Q_drew a6.out)
       replace a3:=ak (Kd.S_drew a3.out)
       replace a2:=ak (Kd.Q_drew a2.out)
       replace a9:=ak (Kd.S_drew a9.out)
       replace a7:=ak (Kd.Q_drew a7.out)
       replace b7:=ak (Kd.S_drew b7.out)
       replace b8:=ak (Kd.Q_drew b8.out)
       replace b1:=ak (Kd.S_drew b1.out)
       replace b2:=ak (Kd.Q_drew b2.out)
       replace a1:=ak (blk_drew a1.out)
       replace b3:=ak (blk_drew b3.out)
       replace b0:=ak (blk_drew b0.out)
       replace b4:=ak (blk_drew b4.out)
       replace d1:=ak (blk_drew d1.out)
       replace b6:=ak (blk_drew b6.out)
       replace HB:=ak (below_drew1 HB.out)
       refine start_ (n:=29) (S:=fun w'=>True) (ds:=[]) (bA 29 0) zb_85 rfl rfl trivial (fun hHeld=>?_);refine with_tabW laws_FnGluedOf.tab11 laws_FnGluedOf.bits11 (fun HT_ HW_=>?_)
       generalize wc.drew=O1 at a5 a4 a8 a6 a3 a2 a9 a7 b7 b8 b1 b2 a1 b3 b0 b4 d1 b6 HB hHeld ⊢
       refine pu_ (i:=0) (N:=some 60) (bA 29 1) ?_
       refine pu_ (i:=1) (N:=some 61) (bA 29 3) ?_
       refine pu_ (i:=2) (N:=some 62) (bA 29 7) ?_
       refine of_ (i:=3) (N:=some 63) (bA 29 15) ?_
       refine of_ (i:=4) (N:=some 64) (bA 29 31) ?_
       refine pu_ (i:=5) (N:=some 65) (bA 29 63) ?_
       refine pu_ (i:=6) (N:=some 66) (bA 29 127) ?_
       refine of_ (i:=7) (N:=some 67) (bA 29 255) ?_
       refine of_ (i:=8) (N:=some 68) (bA 29 511) ?_
       refine of_ (i:=9) (N:=some 69) (bA 29 1023) ?_
       refine of_ (i:=10) (N:=some 70) (bA 29 2047) ?_
       refine of_ (i:=11) (N:=some 71) (bA 29 4095) ?_
       refine of_ (i:=12) (N:=some 72) (bA 29 8191) ?_
       refine of_ (i:=13) (N:=some 73) (bA 29 16383) ?_
       refine pu_ (i:=14) (N:=some 74) (bA 29 32767) ?_
       refine pu_ (i:=15) (N:=some 75) (bA 29 65535) ?_
       refine of_ (i:=16) (N:=some 76) (bA 29 131071) ?_
       refine of_ (i:=17) (N:=some 77) (bA 29 262143) ?_
       refine of_ (i:=18) (N:=some 78) (bA 29 524287) ?_
       refine pu_ (i:=19) (N:=some 79) (bA 29 1048575) ?_
       refine pu_ (i:=20) (N:=some 80) (bA 29 2097151) ?_
       refine of_ (i:=21) (N:=some 81) (bA 29 4194303) ?_
       refine of_ (i:=22) (N:=some 82) (bA 29 8388607) ?_
       refine of_ (i:=23) (N:=some 83) (bA 29 16777215) ?_
       refine of_ (i:=24) (N:=some 84) (bA 29 33554431) ?_
       refine of_ (i:=25) (N:=some 85) (bA 29 67108863) ?_
       refine of_ (i:=26) (N:=some 86) (bA 29 134217727) ?_
       refine of_ (i:=27) (N:=some 87) (bA 29 268435455) ?_
       refine pu_ (i:=28) (N:=some 88) (bA 29 536870911) ?_
       refine done_ (done_of HT_.out zb_85) ?_
       try go_wp2
       go_ret
       exact ⟨zb_20,zb_0⟩
      have H':=ak H
      clear H
      go_wp2
      go_meet
      case rel=>exact ⟨_,H',⟨(by have:=q9.out;have:=q4.out;first|omega|exact Nat.le_refl _)⟩,⟨(xS a5.out)⟩,⟨(xQ a4.out)⟩,⟨(xS a8.out)⟩,⟨(xQ a6.out)⟩,⟨(xS a3.out)⟩,⟨(xQ a2.out)⟩,⟨(xS a9.out)⟩,⟨(xQ a7.out)⟩,⟨(xS b7.out)⟩,⟨(xQ b8.out)⟩,⟨(xS b1.out)⟩,⟨(xQ b2.out)⟩,⟨(xb a1.out)⟩,⟨(xb b3.out)⟩,⟨(xb b0.out)⟩,⟨(xb b4.out)⟩,⟨(xb d1.out)⟩,⟨(xb b6.out)⟩,⟨zb_0⟩⟩
     case rest =>
      clear o5
      obtain ⟨kq,HA,O2,a5,a4,a8,a6,a3,a2,a9,a7,b7,b8,b1,b2,a1,b3,b0,b4,d1,b6,HB⟩:=hcut
      cases kq with
      | zero=>exact absurd HA.out (by simp [laws_FnGluedOf.j2])
      | succ q3 =>
       have H:=HA.out
       clear HA
       simp only [laws_FnGluedOf.j2] at H
       replace H:=ox_ H
       rcases H with ⟨rfl,H⟩|⟨rfl,H⟩
       ·
        replace H:=bd_ H
        obtain ⟨M7,q6,H⟩:=H
        try dsimp only at H
        replace H:=ox_ H
        rcases H with ⟨rfl,H⟩|⟨rfl,H⟩
        ·
         obtain rfl:=Option.some.inj H
         have v2:=h0.out
         have v3:=g4.out
         have v4:=i8.out
         have v5:=h5.out
         have v6:=h4.out
         have v7:=j3.out
         have v8:=j4.out
         have v9:=k1.out
         have x0:=i5.out
         have x1:=k2.out
         have i1:=cz20 b0.out
         have i2:=cz21 b0.out
         have i3:=blk_frozen b0.out 0
         have i4:=blk_frozen b0.out 1
         go_wp2_with (first|((with_reducible refine gate_callee (f:=20) rfl ?_);refine gl_ (some 97) Try.func20 #[.agg #[.slice f9 d6.length f7,.slice f1 b9.length f0]] ?_;(with_reducible refine (impl_LogicOk.calls _ _ d6 _ _ b9 true _ (y1 a3.out) (y2 a3.out) (y1 a2.out) (y2 a2.out) q6.out).mono ?_);rintro e w' ⟨rfl,hb⟩;refine ⟨_,rfl,?_⟩;replace a5:=ak (Kd.S_below (xS a5.out) hb);replace a4:=ak (Kd.Q_below (xQ a4.out) hb);replace a8:=ak (Kd.S_below (xS a8.out) hb);replace a6:=ak (Kd.Q_below (xQ a6.out) hb);replace a3:=ak (Kd.S_below (xS a3.out) hb);replace a2:=ak (Kd.Q_below (xQ a2.out) hb);replace a9:=ak (Kd.S_below (xS a9.out) hb);replace a7:=ak (Kd.Q_below (xQ a7.out) hb);replace b7:=ak (Kd.S_below (xS b7.out) hb);replace b8:=ak (Kd.Q_below (xQ b8.out) hb);replace b1:=ak (Kd.S_below (xS b1.out) hb);replace b2:=ak (Kd.Q_below (xQ b2.out) hb);replace a1:=ak (blk_below (g:=d2) (o:=.cells #[.slice f6 d3.length f5,.slice e6 b5.length e3] 27 (0,0)) (xb a1.out) hb);replace b3:=ak (blk_below (g:=e1) (o:=.cells #[.slice g0 d7.length f8,.slice e9 d0.length e7] 27 (0,0)) (xb b3.out) hb);replace b0:=ak (blk_below (g:=e0) (o:=.cells #[.slice f9 d6.length f7,.slice f1 b9.length f0] 27 (0,0)) (xb b0.out) hb);replace b4:=ak (blk_below (g:=d9) (o:=.cells #[.slice g7 e4.length g6,.slice f3 d4.length f2] 27 (0,0)) (xb b4.out) hb);replace d1:=ak (blk_below (g:=e2) (o:=.cells #[.slice h6 f4.length h2,.slice g5 e5.length g3] 27 (0,0)) (xb d1.out) hb);replace b6:=ak (blk_below (g:=d5) (o:=.cells #[.slice g8 e8.length g9,.slice g1 d8.length g2] 27 (0,0)) (xb b6.out) hb);replace HB:=ak (below_step zb_0 hb);(try clear hb);(try clear hb2);(try clear hk);(try clear hi);have i1:=cz20 b0.out;have i2:=cz21 b0.out;have i3:=blk_frozen b0.out 0;have i4:=blk_frozen b0.out 1;have x2:=i6.out;have x3:=i7.out;have x4:=h3.out;have x5:=i9.out;have x6:=j8.out;have x7:=k7.out;have x8:=j6.out;have x9:=k9.out;have i1:=cz20 a1.out;have i2:=cz21 a1.out;have i3:=blk_frozen a1.out 0;have i4:=blk_frozen a1.out 1;have y3:=j7.out;have y5:=k6.out;have y6:=k8.out;have y7:=m0.out;have y8:=k5.out;have y9:=m1.out;have i1:=cz20 b3.out;have i2:=cz21 b3.out;have i3:=blk_frozen b3.out 0;have i4:=blk_frozen b3.out 1))
         go_ret
         exact ⟨zb_20,zb_0⟩
        obtain rfl:=Option.some.inj H
        have z1:=h0.out
        have z2:=g4.out
        have z3:=i8.out
        have z4:=h5.out
        have z5:=h4.out
        have z6:=j3.out
        have z7:=j4.out
        have z8:=k1.out
        have z9:=i5.out
        have A1:=k2.out
        have i1:=cz20 b0.out
        have i2:=cz21 b0.out
        have i3:=blk_frozen b0.out 0
        have i4:=blk_frozen b0.out 1
        go_wp2_with (first|((with_reducible refine gate_callee (f:=20) rfl ?_);refine gl_ (some 97) Try.func20 #[.agg #[.slice f9 d6.length f7,.slice f1 b9.length f0]] ?_;(with_reducible refine (impl_LogicOk.calls _ _ d6 _ _ b9 false _ (y1 a3.out) (y2 a3.out) (y1 a2.out) (y2 a2.out) q6.out).mono ?_);rintro e w' ⟨rfl,hb⟩;refine ⟨_,rfl,?_⟩;replace a5:=ak (Kd.S_below (xS a5.out) hb);replace a4:=ak (Kd.Q_below (xQ a4.out) hb);replace a8:=ak (Kd.S_below (xS a8.out) hb);replace a6:=ak (Kd.Q_below (xQ a6.out) hb);replace a3:=ak (Kd.S_below (xS a3.out) hb);replace a2:=ak (Kd.Q_below (xQ a2.out) hb);replace a9:=ak (Kd.S_below (xS a9.out) hb);replace a7:=ak (Kd.Q_below (xQ a7.out) hb);replace b7:=ak (Kd.S_below (xS b7.out) hb);replace b8:=ak (Kd.Q_below (xQ b8.out) hb);replace b1:=ak (Kd.S_below (xS b1.out) hb);replace b2:=ak (Kd.Q_below (xQ b2.out) hb);replace a1:=ak (blk_below (g:=d2) (o:=.cells #[.slice f6 d3.length f5,.slice e6 b5.length e3] 27 (0,0)) (xb a1.out) hb);replace b3:=ak (blk_below (g:=e1) (o:=.cells #[.slice g0 d7.length f8,.slice e9 d0.length e7] 27 (0,0)) (xb b3.out) hb);replace b0:=ak (blk_below (g:=e0) (o:=.cells #[.slice f9 d6.length f7,.slice f1 b9.length f0] 27 (0,0)) (xb b0.out) hb);replace b4:=ak (blk_below (g:=d9) (o:=.cells #[.slice g7 e4.length g6,.slice f3 d4.length f2] 27 (0,0)) (xb b4.out) hb);replace d1:=ak (blk_below (g:=e2) (o:=.cells #[.slice h6 f4.length h2,.slice g5 e5.length g3] 27 (0,0)) (xb d1.out) hb);replace b6:=ak (blk_below (g:=d5) (o:=.cells #[.slice g8 e8.length g9,.slice g1 d8.length g2] 27 (0,0)) (xb b6.out) hb);replace HB:=ak (below_step zb_0 hb);(try clear hb);(try clear hb2);(try clear hk);(try clear hi)))
        go_ret
        exact ⟨zb_20,zb_0⟩
       replace H:=bd_ H
       obtain ⟨M8,q7,H⟩:=H
       try dsimp only at H
       replace H:=ox_ H
       rcases H with ⟨rfl,H⟩|⟨rfl,H⟩
       ·
        replace H:=bd_ H
        obtain ⟨q8,A2,H⟩:=H
        try dsimp only at H
        obtain rfl:=Option.some.inj H
        have A6:=h0.out
        have A7:=g4.out
        have A8:=i8.out
        have A9:=h5.out
        have B0:=h4.out
        have B1:=j3.out
        have B2:=j4.out
        have B3:=k1.out
        have B4:=i5.out
        have B5:=k2.out
        have i1:=cz20 b0.out
        have i2:=cz21 b0.out
        have i3:=blk_frozen b0.out 0
        have i4:=blk_frozen b0.out 1
        go_wp2_with (first|((first|((with_reducible refine gate_callee (f:=18) rfl ?_);refine gl_ (some 92) Try.func18 #[.agg #[.slice f9 d6.length f7,.slice f1 b9.length f0]] ?_;(with_reducible refine (laws_noLogic.calls q3 _ _ d6 _ _ b9 true _ (y1 a3.out) (y2 a3.out) (y1 a2.out) (y2 a2.out) q7.out).mono ?_);rintro e w' ⟨rfl,hb⟩;refine ⟨_,rfl,?_⟩)|(go_at_call 19;(with_reducible refine (laws_alive.calls q3  q8 _ A2.out).mono ?_);rintro e w' ⟨rfl,hb⟩));replace a5:=ak (Kd.S_below (xS a5.out) hb);replace a4:=ak (Kd.Q_below (xQ a4.out) hb);replace a8:=ak (Kd.S_below (xS a8.out) hb);replace a6:=ak (Kd.Q_below (xQ a6.out) hb);replace a3:=ak (Kd.S_below (xS a3.out) hb);replace a2:=ak (Kd.Q_below (xQ a2.out) hb);replace a9:=ak (Kd.S_below (xS a9.out) hb);replace a7:=ak (Kd.Q_below (xQ a7.out) hb);replace b7:=ak (Kd.S_below (xS b7.out) hb);replace b8:=ak (Kd.Q_below (xQ b8.out) hb);replace b1:=ak (Kd.S_below (xS b1.out) hb);replace b2:=ak (Kd.Q_below (xQ b2.out) hb);replace a1:=ak (blk_below (g:=d2) (o:=.cells #[.slice f6 d3.length f5,.slice e6 b5.length e3] 27 (0,0)) (xb a1.out) hb);replace b3:=ak (blk_below (g:=e1) (o:=.cells #[.slice g0 d7.length f8,.slice e9 d0.length e7] 27 (0,0)) (xb b3.out) hb);replace b0:=ak (blk_below (g:=e0) (o:=.cells #[.slice f9 d6.length f7,.slice f1 b9.length f0] 27 (0,0)) (xb b0.out) hb);replace b4:=ak (blk_below (g:=d9) (o:=.cells #[.slice g7 e4.length g6,.slice f3 d4.length f2] 27 (0,0)) (xb b4.out) hb);replace d1:=ak (blk_below (g:=e2) (o:=.cells #[.slice h6 f4.length h2,.slice g5 e5.length g3] 27 (0,0)) (xb d1.out) hb);replace b6:=ak (blk_below (g:=d5) (o:=.cells #[.slice g8 e8.length g9,.slice g1 d8.length g2] 27 (0,0)) (xb b6.out) hb);replace HB:=ak (below_step zb_0 hb);(try clear hb);(try clear hb2);(try clear hk);(try clear hi)))
        go_ret
        exact ⟨zb_20,zb_0⟩
       obtain rfl:=Option.some.inj H
       have B6:=h0.out
       have B7:=g4.out
       have B8:=i8.out
       have B9:=h5.out
       have C0:=h4.out
       have C1:=j3.out
       have C2:=j4.out
       have C3:=k1.out
       have C4:=i5.out
       have C5:=k2.out
       have i1:=cz20 b0.out
       have i2:=cz21 b0.out
       have i3:=blk_frozen b0.out 0
       have i4:=blk_frozen b0.out 1
       go_wp2_with (first|((with_reducible refine gate_callee (f:=18) rfl ?_);refine gl_ (some 92) Try.func18 #[.agg #[.slice f9 d6.length f7,.slice f1 b9.length f0]] ?_;(with_reducible refine (laws_noLogic.calls q3 _ _ d6 _ _ b9 false _ (y1 a3.out) (y2 a3.out) (y1 a2.out) (y2 a2.out) q7.out).mono ?_);rintro e w' ⟨rfl,hb⟩;refine ⟨_,rfl,?_⟩;replace a5:=ak (Kd.S_below (xS a5.out) hb);replace a4:=ak (Kd.Q_below (xQ a4.out) hb);replace a8:=ak (Kd.S_below (xS a8.out) hb);replace a6:=ak (Kd.Q_below (xQ a6.out) hb);replace a3:=ak (Kd.S_below (xS a3.out) hb);replace a2:=ak (Kd.Q_below (xQ a2.out) hb);replace a9:=ak (Kd.S_below (xS a9.out) hb);replace a7:=ak (Kd.Q_below (xQ a7.out) hb);replace b7:=ak (Kd.S_below (xS b7.out) hb);replace b8:=ak (Kd.Q_below (xQ b8.out) hb);replace b1:=ak (Kd.S_below (xS b1.out) hb);replace b2:=ak (Kd.Q_below (xQ b2.out) hb);replace a1:=ak (blk_below (g:=d2) (o:=.cells #[.slice f6 d3.length f5,.slice e6 b5.length e3] 27 (0,0)) (xb a1.out) hb);replace b3:=ak (blk_below (g:=e1) (o:=.cells #[.slice g0 d7.length f8,.slice e9 d0.length e7] 27 (0,0)) (xb b3.out) hb);replace b0:=ak (blk_below (g:=e0) (o:=.cells #[.slice f9 d6.length f7,.slice f1 b9.length f0] 27 (0,0)) (xb b0.out) hb);replace b4:=ak (blk_below (g:=d9) (o:=.cells #[.slice g7 e4.length g6,.slice f3 d4.length f2] 27 (0,0)) (xb b4.out) hb);replace d1:=ak (blk_below (g:=e2) (o:=.cells #[.slice h6 f4.length h2,.slice g5 e5.length g3] 27 (0,0)) (xb d1.out) hb);replace b6:=ak (blk_below (g:=d5) (o:=.cells #[.slice g8 e8.length g9,.slice g1 d8.length g2] 27 (0,0)) (xb b6.out) hb);replace HB:=ak (below_step zb_0 hb);(try clear hb);(try clear hb2);(try clear hk);(try clear hi)))
       go_ret
       exact ⟨zb_20,zb_0⟩

theorem laws_FnGluedOf.walk (P:laws_FnGluedOf.Pure) (a0:Option Addr) (len0 cap0:Nat) (z0:List Int) (w:World) (w0:(a0=none∧len0=0∧cap0=0∧z0 = [])∨∃ x,a0=some x∧len0≤cap0∧cap0≤maxLen∧z0.length=cap0∧(∀ i,i<z0.length→w.cell? (x.add i)=some (.int .u8 (z0.getD i 0)))∧∀ n∈z0,(Lit.int .u8 n).wf=true) (y0:len0*1≤140737488351232) :
 Calls Try.prog 12 #[.slice a0 len0 cap0] w fun e w'=>e = .returned (.bool true)∧Below w.heap.size w w':=by
 obtain ⟨l0,rfl,hr0,hm0,hw0,hc0⟩:=ReadsInt.ofRowC w0
 obtain ⟨k,h⟩:=P l0 hm0 y0 hw0
 refine (laws_FnGluedOf.calls k _ _ l0 true w (Kd.C_of_reads (d:=(0:Int)) (h1:=fun _=>rfl) hr0) hc0 h).mono ?_
 rintro e w' ⟨rfl,hd⟩
 exact ⟨rfl,hd⟩

end Go.Proofs.Ytacifhahfamipaa.P
