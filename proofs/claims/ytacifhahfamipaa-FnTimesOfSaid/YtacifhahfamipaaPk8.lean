/- 1 texts of this seat joined: walks, and the laws of what they compute. -/
import Derived.Test.YtacifhahfamipaaPk2
import Derived.Test.YtacifhahfamipaaPk7
import Derived.Test.YtacifhahfamipaaPk4
import Derived.Test.YtacifhahfamipaaPk6
namespace Go.Proofs.Ytacifhahfamipaa.P
open Go.RowKit Go.Proofs.YtacifhahfamipaaW.PrintWords Go.Proofs.YtacifhahfamipaaW.PrintLast Go.Proofs.YtacifhahfamipaaW.PrintMore
attribute [local go_sem] max2_int min2_int max_two min_two max_three min_three max_four min_four
set_option linter.unusedVariables false
set_option linter.unusedSimpArgs false
def laws_FnTimesOf.T17 : Bool × List (List Nat × List Nat) := (true, [([], []), ([], []), ([], []), ([1, 2], [1, 2]), ([], []), ([], []), ([4, 5], [4, 5]), ([0, 3, 6], [0, 3, 6]), ([], []), ([7, 8], [7, 8]), ([], []), ([], []), ([], []), ([11, 12], [11, 12]), ([], []), ([], []), ([14, 15], [14, 15]), ([10, 13, 16, 7], [10, 13, 16]), ([9, 17], [9, 17]), ([18, 17, 0, 1, 2, 3, 4, 5, 6, 7, 8, 9, 10, 11, 12, 13, 14, 15, 16, 17, 18], [18])])
def laws_FnTimesOf.B17 : List Nat := [0, 0, 0, 6, 0, 0, 48, 127, 0, 511, 0, 0, 0, 6144, 0, 0, 49152, 130303, 262143, 524287]
theorem laws_FnTimesOf.tab17 : rtab .any (opsOf Try.f10 17) = laws_FnTimesOf.T17 := by kernel_rfl
theorem laws_FnTimesOf.bits17 : waitsOk laws_FnTimesOf.T17.2 laws_FnTimesOf.B17 = true := by kernel_rfl
theorem zj_85 {p : Prop} (h : p := by have := R9.out; first | omega | exact Nat.le_refl _) : p := h
theorem zj_84 {p : Prop} (h : p := by (with_reducible repeat (first | apply Kd.Q_alloc | apply Kd.Q_drewN | apply Kd.Q_drew)); exact Kd.Q_mono j9.out (fun _ hk => ⟨hk.1.1, ⟨hk.1.2, hk.2⟩⟩)) : p := h
theorem zj_83 {p : Prop} (h : p := by (with_reducible repeat (first | apply Kd.Q_alloc | apply Kd.Q_drewN | apply Kd.Q_drew)); exact Kd.Q_mono k0.out (fun _ hk => ⟨hk.1.1, ⟨hk.1.2, hk.2⟩⟩)) : p := h
theorem zj_82 {p : Prop} (h : p := by (with_reducible repeat (first | apply Kd.R_alloc | apply Kd.R_drewN | apply Kd.R_drew)); exact Kd.R_mono l3.out (fun _ hk => ⟨hk.1.1.2, ⟨hk.1.2, hk.2⟩⟩)) : p := h
theorem zj_81 {p : Prop} (h : p := by (with_reducible repeat (first | apply Kd.R_alloc | apply Kd.R_drewN | apply Kd.R_drew)); exact Kd.R_mono l5.out (fun _ hk => ⟨hk.1.1.2, ⟨hk.1.2, hk.2⟩⟩)) : p := h
theorem zj_80 {p : Prop} (h : p := by first | rfl | (simp; done) | (simp [*]; done)) : p := h
theorem zj_79 {p : Prop} (h : p := by (with_reducible repeat (first | apply Kd.S_alloc | apply Kd.S_drewN | apply Kd.S_drew)); exact Kd.S_mono k1.out (fun _ hk => ⟨hk.1.1.1.1.1, ⟨hk.1.1.1.1.2.1, ⟨hk.1.1.1.1.2.2, ⟨hk.1.1.1.2, ⟨hk.1.1.2, ⟨hk.1.2, hk.2⟩⟩⟩⟩⟩⟩)) : p := h
theorem zj_78 {p : Prop} (h : p := by (with_reducible repeat (first | apply Kd.S_alloc | apply Kd.S_drewN | apply Kd.S_drew)); exact Kd.S_mono k2.out (fun _ hk => ⟨hk.1.1.1.1.1, ⟨hk.1.1.1.1.2.1, ⟨hk.1.1.1.1.2.2, ⟨hk.1.1.1.2, ⟨hk.1.1.2, ⟨hk.1.2, hk.2⟩⟩⟩⟩⟩⟩)) : p := h
theorem zj_77 {p : Prop} (h : p := by (with_reducible repeat (first | apply Kd.S_alloc | apply Kd.S_drewN | apply Kd.S_drew)); exact Kd.S_mono l4.out (fun _ hk => ⟨hk.1.1.1.1.1.2, ⟨hk.1.1.1.1.2, ⟨hk.1.1.1.2, ⟨hk.1.1.2, ⟨hk.1.1.1.1.1.1, ⟨hk.1.2, hk.2⟩⟩⟩⟩⟩⟩)) : p := h
theorem zj_76 {p : Prop} (h : p := by (with_reducible repeat (first | apply Kd.S_alloc | apply Kd.S_drewN | apply Kd.S_drew)); exact Kd.S_mono l6.out (fun _ hk => ⟨hk.1.1.1.1.1.2, ⟨hk.1.1.1.1.2, ⟨hk.1.1.1.2, ⟨hk.1.1.2, ⟨hk.1.2, ⟨hk.2, hk.1.1.1.1.1.1⟩⟩⟩⟩⟩⟩)) : p := h
theorem zj_75 {p : Prop} (h : p := by refine (Kd.R_reads' (e := 3) (base := w.heap.size) (ok := fun k_ => (((True ∧ some k_ ≠ (.slice e1 d5.length d8 : Value).ownBlock) ∧ some k_ ≠ (.slice e4 d0.length e2 : Value).ownBlock) ∧ some k_ ≠ (.slice e7 b8.length e6 : Value).ownBlock)) (n := d3.length) (c := f4) ?_).2.2; exact zj_32) : p := h
theorem zj_74 {p : Prop} (h : p := by refine (Kd.R_reads' (e := 3) (base := w.heap.size) (ok := fun k_ => (((True ∧ some k_ ≠ (.slice e1 d5.length d8 : Value).ownBlock) ∧ some k_ ≠ (.slice e4 d0.length e2 : Value).ownBlock) ∧ some k_ ≠ (.slice f6 d3.length f4 : Value).ownBlock)) (n := b8.length) (c := e6) ?_).2.2; exact zj_34) : p := h
theorem zj_73 {p : Prop} (h : p := by repeat (first | (with_reducible first | exact HB.out | apply below_alloc | apply pw_below_drewN | apply below_drew1 | refine below_set ?_ m2.out) | exact HB.out)) : p := h
theorem zj_72 {p : Prop} (h : p := by (with_reducible repeat (first | apply Kd.S_alloc | apply Kd.S_drewN | apply Kd.S_drew)); exact (Kd.S_mono (Kd.S_far (p := ⟨e3, 1, none⟩) (Kd.S_far (p := ⟨e3, 0, none⟩) (Kd.S_types l4.out b0.out (by decide)) (fun _ hk => hk.2) (.slice g0 e9.length f8)) (fun _ hk => hk.2) (.slice e7 b8.length e6)) (fun _ h_ => h_.1))) : p := h
theorem zj_71 {p : Prop} (h : p := by (with_reducible repeat (first | apply Kd.Q_alloc | apply Kd.Q_drewN | apply Kd.Q_drew)); exact (Kd.Q_mono (Kd.Q_far (p := ⟨d1, 1, none⟩) (Kd.Q_far (p := ⟨d1, 0, none⟩) (Kd.Q_types j9.out b2.out (by decide)) (fun _ hk => hk.2) (.slice g3 d9.length g1)) (fun _ hk => hk.2) (.slice f6 d3.length f4)) (fun _ h_ => h_.1))) : p := h
theorem zj_70 {p : Prop} (h : p := by (with_reducible repeat (first | apply Kd.Q_alloc | apply Kd.Q_drewN | apply Kd.Q_drew)); exact (Kd.Q_mono (Kd.Q_far (p := ⟨d1, 1, none⟩) (Kd.Q_far (p := ⟨d1, 0, none⟩) (Kd.Q_types k0.out b2.out (by decide)) (fun _ hk => hk.2) (.slice g3 d9.length g1)) (fun _ hk => hk.2) (.slice f6 d3.length f4)) (fun _ h_ => h_.1))) : p := h
theorem zj_69 {p : Prop} (h : p := by (with_reducible repeat (first | apply Kd.S_alloc | apply Kd.S_drewN | apply Kd.S_drew)); exact (Kd.S_mono (Kd.S_far (p := ⟨d1, 1, none⟩) (Kd.S_far (p := ⟨d1, 0, none⟩) (Kd.S_types k1.out b2.out (by decide)) (fun _ hk => hk.2) (.slice g3 d9.length g1)) (fun _ hk => hk.2) (.slice f6 d3.length f4)) (fun _ h_ => h_.1))) : p := h
theorem zj_68 {p : Prop} (h : p := by (with_reducible repeat (first | apply Kd.S_alloc | apply Kd.S_drewN | apply Kd.S_drew)); exact (Kd.S_mono (Kd.S_far (p := ⟨d1, 1, none⟩) (Kd.S_far (p := ⟨d1, 0, none⟩) (Kd.S_types k2.out b2.out (by decide)) (fun _ hk => hk.2) (.slice g3 d9.length g1)) (fun _ hk => hk.2) (.slice f6 d3.length f4)) (fun _ h_ => h_.1))) : p := h
theorem zj_67 {p : Prop} (h : p := by (with_reducible repeat (first | apply Kd.S_alloc | apply Kd.S_drewN | apply Kd.S_drew)); exact (Kd.S_mono (Kd.S_far (p := ⟨d4, 1, none⟩) (Kd.S_far (p := ⟨d4, 0, none⟩) (Kd.S_types a9.out b9.out (by decide)) (fun _ hk => hk.2) (.slice h8 f3.length h5)) (fun _ hk => hk.2) (.slice h0 e5.length g8)) (fun _ h_ => h_.1))) : p := h
theorem zj_66 {p : Prop} (h : p := by (with_reducible repeat (first | apply Kd.S_alloc | apply Kd.S_drewN | apply Kd.S_drew)); exact (Kd.S_mono (Kd.S_far (p := ⟨d4, 1, none⟩) (Kd.S_far (p := ⟨d4, 0, none⟩) (Kd.S_types a2.out b9.out (by decide)) (fun _ hk => hk.2) (.slice h8 f3.length h5)) (fun _ hk => hk.2) (.slice h0 e5.length g8)) (fun _ h_ => h_.1))) : p := h
theorem zj_65 {p : Prop} (h : p := by (with_reducible repeat (first | apply Kd.S_alloc | apply Kd.S_drewN | apply Kd.S_drew)); exact (Kd.S_mono (Kd.S_far (p := ⟨d4, 1, none⟩) (Kd.S_far (p := ⟨d4, 0, none⟩) (Kd.S_types a7.out b9.out (by decide)) (fun _ hk => hk.2) (.slice h8 f3.length h5)) (fun _ hk => hk.2) (.slice h0 e5.length g8)) (fun _ h_ => h_.1))) : p := h
theorem zj_64 {p : Prop} (h : p := by (with_reducible repeat (first | refine blk_drewN ?_ _ | refine blk_drew ?_ | refine blk_alloc ?_ _)); refine blk_far ?_ g9.out _; (with_reducible repeat (first | refine blk_drewN ?_ _ | refine blk_drew ?_ | refine blk_alloc ?_ _)); refine blk_far ?_ g9.out _; (with_reducible repeat (first | refine blk_drewN ?_ _ | refine blk_drew ?_ | refine blk_alloc ?_ _)); exact a5.out) : p := h
theorem zj_63 {p : Prop} (h : p := by (with_reducible repeat (first | refine blk_drewN ?_ _ | refine blk_drew ?_ | refine blk_alloc ?_ _)); refine blk_far ?_ i7.out _; (with_reducible repeat (first | refine blk_drewN ?_ _ | refine blk_drew ?_ | refine blk_alloc ?_ _)); refine blk_far ?_ i7.out _; (with_reducible repeat (first | refine blk_drewN ?_ _ | refine blk_drew ?_ | refine blk_alloc ?_ _)); exact b1.out) : p := h
theorem zj_62 {p : Prop} (h : p := by (with_reducible repeat (first | refine blk_drewN ?_ _ | refine blk_drew ?_ | refine blk_alloc ?_ _)); refine blk_far ?_ h6.out _; (with_reducible repeat (first | refine blk_drewN ?_ _ | refine blk_drew ?_ | refine blk_alloc ?_ _)); refine blk_far ?_ h6.out _; (with_reducible repeat (first | refine blk_drewN ?_ _ | refine blk_drew ?_ | refine blk_alloc ?_ _)); exact b0.out) : p := h
theorem zj_61 {p : Prop} (h : p := by (with_reducible repeat (first | refine blk_drewN ?_ _ | refine blk_drew ?_ | refine blk_alloc ?_ _)); refine blk_put (cs := #[.slice g3 d9.length g1, .slice none 0 0]) ?_ 1 _ rfl; (with_reducible repeat (first | refine blk_drewN ?_ _ | refine blk_drew ?_ | refine blk_alloc ?_ _)); refine blk_put (cs := #[.slice none 0 0, .slice none 0 0]) ?_ 0 _ rfl; (with_reducible repeat (first | refine blk_drewN ?_ _ | refine blk_drew ?_ | refine blk_alloc ?_ _)); exact b2.out) : p := h
theorem zj_60 {p : Prop} (h : p := by refine (Kd.S_reads' (e := 25) (base := w.heap.size) (ok := fun k_ => ((((((some k_ ≠ (.slice e7 b8.length e6 : Value).ownBlock ∧ some k_ ≠ (.slice f2 e0.length f0 : Value).ownBlock) ∧ some k_ ≠ (.slice e1 d5.length d8 : Value).ownBlock) ∧ some k_ ≠ (.slice f7 e8.length f5 : Value).ownBlock) ∧ some k_ ≠ (.slice e4 d0.length e2 : Value).ownBlock) ∧ some k_ ≠ (.slice g3 d9.length g1 : Value).ownBlock) ∧ some k_ ≠ (.slice f6 d3.length f4 : Value).ownBlock)) (n := e9.length) (c := f8) ?_).2.2; exact zj_33) : p := h
theorem zj_59 {p : Prop} (h : p := by refine (Kd.S_reads' (e := 25) (base := w.heap.size) (ok := fun k_ => ((((((some k_ ≠ (.slice f6 d3.length f4 : Value).ownBlock ∧ some k_ ≠ (.slice f2 e0.length f0 : Value).ownBlock) ∧ some k_ ≠ (.slice e1 d5.length d8 : Value).ownBlock) ∧ some k_ ≠ (.slice f7 e8.length f5 : Value).ownBlock) ∧ some k_ ≠ (.slice e4 d0.length e2 : Value).ownBlock) ∧ some k_ ≠ (.slice g0 e9.length f8 : Value).ownBlock) ∧ some k_ ≠ (.slice e7 b8.length e6 : Value).ownBlock)) (n := d9.length) (c := g1) ?_).2.2; exact zj_28) : p := h
theorem zj_58 {p : Prop} (h : p := by (with_reducible repeat (first | apply Kd.R_alloc | apply Kd.R_drewN | apply Kd.R_drew)); exact Kd.R_mono j2.out (fun _ hk => ⟨hk.1.1.1.1.2, ⟨hk.1.1.1.2, ⟨hk.1.1.2, ⟨hk.1.2, hk.2⟩⟩⟩⟩)) : p := h
theorem zj_57 {p : Prop} (h : p := by (with_reducible repeat (first | apply Kd.R_alloc | apply Kd.R_drewN | apply Kd.R_drew)); exact Kd.R_mono k3.out (fun _ hk => ⟨hk.1.1.1.1.2, ⟨hk.1.1.1.2, ⟨hk.1.1.2, ⟨hk.1.2, hk.2⟩⟩⟩⟩)) : p := h
theorem zj_56 {p : Prop} (h : p := by (with_reducible repeat (first | apply Kd.Q_alloc | apply Kd.Q_drewN | apply Kd.Q_drew)); exact Kd.Q_mono a3.out (fun _ hk => ⟨hk.1.1.1, ⟨hk.1.1.2.1, ⟨hk.1.1.2.2, ⟨hk.1.2, hk.2⟩⟩⟩⟩)) : p := h
theorem zj_55 {p : Prop} (h : p := by (with_reducible repeat (first | apply Kd.Q_alloc | apply Kd.Q_drewN | apply Kd.Q_drew)); exact Kd.Q_mono a8.out (fun _ hk => ⟨hk.1.1.1, ⟨hk.1.1.2.1, ⟨hk.1.1.2.2, ⟨hk.1.2, hk.2⟩⟩⟩⟩)) : p := h
theorem zj_54 {p : Prop} (h : p := by (with_reducible repeat (first | apply Kd.Q_alloc | apply Kd.Q_drewN | apply Kd.Q_drew)); exact Kd.Q_mono a1.out (fun _ hk => ⟨hk.1.1.1, ⟨hk.1.1.2.1, ⟨hk.1.1.2.2, ⟨hk.1.2, hk.2⟩⟩⟩⟩)) : p := h
theorem zj_53 {p : Prop} (h : p := by (with_reducible repeat (first | apply Kd.Q_alloc | apply Kd.Q_drewN | apply Kd.Q_drew)); exact Kd.Q_mono a6.out (fun _ hk => ⟨hk.1.1.1, ⟨hk.1.1.2.1, ⟨hk.1.1.2.2, ⟨hk.1.2, hk.2⟩⟩⟩⟩)) : p := h
theorem zj_52 {p : Prop} (h : p := by first | rfl | (simp [errW_none, errW_some] <;> rfl) | (simp [*, errW_none, errW_some] <;> rfl)) : p := h
theorem zj_51 {p : Prop} (h : p := by (with_reducible repeat (first | apply Kd.R_alloc | apply Kd.R_drewN | apply Kd.R_drew)); exact (Kd.R_mono (Kd.R_far (p := ⟨e3, 1, none⟩) (Kd.R_far (p := ⟨e3, 0, none⟩) (Kd.R_types l3.out b0.out (by decide)) (fun _ hk => hk.2) (.slice g0 e9.length f8)) (fun _ hk => hk.2) (.slice e7 b8.length e6)) (fun _ h_ => h_.1))) : p := h
theorem zj_50 {p : Prop} (h : p := by (with_reducible repeat (first | apply Kd.S_alloc | apply Kd.S_drewN | apply Kd.S_drew)); exact (Kd.S_mono (Kd.S_far (p := ⟨e3, 1, none⟩) (Kd.S_far (p := ⟨e3, 0, none⟩) (Kd.S_types k1.out b0.out (by decide)) (fun _ hk => hk.2) (.slice g0 e9.length f8)) (fun _ hk => hk.2) (.slice e7 b8.length e6)) (fun _ h_ => h_.1))) : p := h
theorem zj_49 {p : Prop} (h : p := by (with_reducible repeat (first | apply Kd.S_alloc | apply Kd.S_drewN | apply Kd.S_drew)); exact (Kd.S_mono (Kd.S_far (p := ⟨e3, 1, none⟩) (Kd.S_far (p := ⟨e3, 0, none⟩) (Kd.S_types k2.out b0.out (by decide)) (fun _ hk => hk.2) (.slice g0 e9.length f8)) (fun _ hk => hk.2) (.slice e7 b8.length e6)) (fun _ h_ => h_.1))) : p := h
theorem zj_48 {p : Prop} (h : p := by (with_reducible repeat (first | apply Kd.S_alloc | apply Kd.S_drewN | apply Kd.S_drew)); exact (Kd.S_mono (Kd.S_far (p := ⟨d4, 1, none⟩) (Kd.S_far (p := ⟨d4, 0, none⟩) (Kd.S_types j3.out b9.out (by decide)) (fun _ hk => hk.2) (.slice h8 f3.length h5)) (fun _ hk => hk.2) (.slice h0 e5.length g8)) (fun _ h_ => h_.1))) : p := h
theorem zj_47 {p : Prop} (h : p := by (with_reducible repeat (first | apply Kd.Q_alloc | apply Kd.Q_drewN | apply Kd.Q_drew)); exact (Kd.Q_mono (Kd.Q_far (p := ⟨d4, 1, none⟩) (Kd.Q_far (p := ⟨d4, 0, none⟩) (Kd.Q_types a8.out b9.out (by decide)) (fun _ hk => hk.2) (.slice h8 f3.length h5)) (fun _ hk => hk.2) (.slice h0 e5.length g8)) (fun _ h_ => h_.1))) : p := h
theorem zj_46 {p : Prop} (h : p := by (with_reducible repeat (first | apply Kd.S_alloc | apply Kd.S_drewN | apply Kd.S_drew)); exact (Kd.S_mono (Kd.S_far (p := ⟨d4, 1, none⟩) (Kd.S_far (p := ⟨d4, 0, none⟩) (Kd.S_types a4.out b9.out (by decide)) (fun _ hk => hk.2) (.slice h8 f3.length h5)) (fun _ hk => hk.2) (.slice h0 e5.length g8)) (fun _ h_ => h_.1))) : p := h
theorem zj_45 {p : Prop} (h : p := by (with_reducible repeat (first | apply Kd.Q_alloc | apply Kd.Q_drewN | apply Kd.Q_drew)); exact (Kd.Q_mono (Kd.Q_far (p := ⟨d4, 1, none⟩) (Kd.Q_far (p := ⟨d4, 0, none⟩) (Kd.Q_types a1.out b9.out (by decide)) (fun _ hk => hk.2) (.slice h8 f3.length h5)) (fun _ hk => hk.2) (.slice h0 e5.length g8)) (fun _ h_ => h_.1))) : p := h
theorem zj_44 {p : Prop} (h : p := by (with_reducible repeat (first | apply Kd.Q_alloc | apply Kd.Q_drewN | apply Kd.Q_drew)); exact (Kd.Q_mono (Kd.Q_far (p := ⟨d4, 1, none⟩) (Kd.Q_far (p := ⟨d4, 0, none⟩) (Kd.Q_types a6.out b9.out (by decide)) (fun _ hk => hk.2) (.slice h8 f3.length h5)) (fun _ hk => hk.2) (.slice h0 e5.length g8)) (fun _ h_ => h_.1))) : p := h
theorem zj_43 {p : Prop} (h : p := by (with_reducible repeat (first | apply Kd.S_alloc | apply Kd.S_drewN | apply Kd.S_drew)); exact Kd.S_mono j3.out (fun _ hk => ⟨hk.1.1.1.1.1.1.1.1.1.2, ⟨hk.1.1.1.1.1.1.1.1.2, ⟨hk.1.1.1.1.1.1.1.2, ⟨hk.1.1.1.1.1.1.2, ⟨hk.1.1.1.1.1.2, ⟨hk.1.1.1.1.2, ⟨hk.1.1.1.2, ⟨hk.1.1.2, ⟨hk.1.1.1.1.1.1.1.1.1.1, ⟨hk.1.2, hk.2⟩⟩⟩⟩⟩⟩⟩⟩⟩⟩)) : p := h
theorem zj_42 {p : Prop} (h : p := by (with_reducible repeat (first | apply Kd.S_alloc | apply Kd.S_drewN | apply Kd.S_drew)); exact Kd.S_mono k4.out (fun _ hk => ⟨hk.1.1.1.1.1.1.1.1.1.2, ⟨hk.1.1.1.1.1.1.1.1.2, ⟨hk.1.1.1.1.1.1.1.2, ⟨hk.1.1.1.1.1.1.2, ⟨hk.1.1.1.1.1.2, ⟨hk.1.1.1.1.2, ⟨hk.1.1.1.2, ⟨hk.1.1.2, ⟨hk.1.2, ⟨hk.2, hk.1.1.1.1.1.1.1.1.1.1⟩⟩⟩⟩⟩⟩⟩⟩⟩⟩)) : p := h
theorem zj_41 {p : Prop} (h : p := by (with_reducible repeat (first | apply Kd.S_alloc | apply Kd.S_drewN | apply Kd.S_drew)); exact Kd.S_mono a4.out (fun _ hk => ⟨hk.1.1.1.1.1, ⟨hk.1.1.1.1.2.1, ⟨hk.1.1.1.1.2.2.1, ⟨hk.1.1.1.1.2.2.2.1, ⟨hk.1.1.1.1.2.2.2.2.1, ⟨hk.1.1.1.1.2.2.2.2.2.1, ⟨hk.1.1.1.1.2.2.2.2.2.2, ⟨hk.1.1.1.2, ⟨hk.1.1.2, ⟨hk.1.2, hk.2⟩⟩⟩⟩⟩⟩⟩⟩⟩⟩)) : p := h
theorem zj_40 {p : Prop} (h : p := by (with_reducible repeat (first | apply Kd.S_alloc | apply Kd.S_drewN | apply Kd.S_drew)); exact Kd.S_mono a9.out (fun _ hk => ⟨hk.1.1.1.1.1, ⟨hk.1.1.1.1.2.1, ⟨hk.1.1.1.1.2.2.1, ⟨hk.1.1.1.1.2.2.2.1, ⟨hk.1.1.1.1.2.2.2.2.1, ⟨hk.1.1.1.1.2.2.2.2.2.1, ⟨hk.1.1.1.1.2.2.2.2.2.2, ⟨hk.1.1.1.2, ⟨hk.1.1.2, ⟨hk.1.2, hk.2⟩⟩⟩⟩⟩⟩⟩⟩⟩⟩)) : p := h
theorem zj_39 {p : Prop} (h : p := by repeat (first | (with_reducible first | exact HB.out | apply below_alloc | apply pw_below_drewN | apply below_drew1 | refine below_set ?_ m2.out | refine below_set ?_ m3.out) | exact HB.out)) : p := h
theorem zj_38 {p : Prop} (h : p := by (with_reducible repeat (first | apply Kd.S_alloc | apply Kd.S_drewN | apply Kd.S_drew)); exact Kd.S_mono a2.out (fun _ hk => ⟨hk.1.1.1.1.1, ⟨hk.1.1.1.1.2.1, ⟨hk.1.1.1.1.2.2.1, ⟨hk.1.1.1.1.2.2.2.1, ⟨hk.1.1.1.1.2.2.2.2.1, ⟨hk.1.1.1.1.2.2.2.2.2.1, ⟨hk.1.1.1.1.2.2.2.2.2.2, ⟨hk.1.1.1.2, ⟨hk.1.1.2, ⟨hk.1.2, hk.2⟩⟩⟩⟩⟩⟩⟩⟩⟩⟩)) : p := h
theorem zj_37 {p : Prop} (h : p := by (with_reducible repeat (first | apply Kd.S_alloc | apply Kd.S_drewN | apply Kd.S_drew)); exact Kd.S_mono a7.out (fun _ hk => ⟨hk.1.1.1.1.1, ⟨hk.1.1.1.1.2.1, ⟨hk.1.1.1.1.2.2.1, ⟨hk.1.1.1.1.2.2.2.1, ⟨hk.1.1.1.1.2.2.2.2.1, ⟨hk.1.1.1.1.2.2.2.2.2.1, ⟨hk.1.1.1.1.2.2.2.2.2.2, ⟨hk.1.1.1.2, ⟨hk.1.1.2, ⟨hk.1.2, hk.2⟩⟩⟩⟩⟩⟩⟩⟩⟩⟩)) : p := h
theorem zj_36 {p : Prop} (h : p := by (with_reducible repeat (first | apply Kd.Q_alloc | apply Kd.Q_drewN | apply Kd.Q_drew)); exact (Kd.Q_mono (Kd.Q_far (p := ⟨e3, 1, none⟩) (Kd.Q_far (p := ⟨e3, 0, none⟩) (Kd.Q_types j9.out b0.out (by decide)) (fun _ hk => hk.2) (.slice g0 e9.length f8)) (fun _ hk => hk.2) (.slice e7 b8.length e6)) (fun _ h_ => h_.1))) : p := h
theorem zj_35 {p : Prop} (h : p := by (with_reducible repeat (first | apply Kd.Q_alloc | apply Kd.Q_drewN | apply Kd.Q_drew)); exact (Kd.Q_mono (Kd.Q_far (p := ⟨e3, 1, none⟩) (Kd.Q_far (p := ⟨e3, 0, none⟩) (Kd.Q_types k0.out b0.out (by decide)) (fun _ hk => hk.2) (.slice g0 e9.length f8)) (fun _ hk => hk.2) (.slice e7 b8.length e6)) (fun _ h_ => h_.1))) : p := h
theorem zj_34 {p : Prop} (h : p := by (with_reducible repeat (first | apply Kd.R_alloc | apply Kd.R_drewN | apply Kd.R_drew)); exact (Kd.R_mono (Kd.R_far (p := ⟨d1, 1, none⟩) (Kd.R_far (p := ⟨d1, 0, none⟩) (Kd.R_types l3.out b2.out (by decide)) (fun _ hk => hk.2) (.slice g3 d9.length g1)) (fun _ hk => hk.2) (.slice f6 d3.length f4)) (fun _ h_ => h_.1))) : p := h
theorem zj_33 {p : Prop} (h : p := by (with_reducible repeat (first | apply Kd.S_alloc | apply Kd.S_drewN | apply Kd.S_drew)); exact (Kd.S_mono (Kd.S_far (p := ⟨d1, 1, none⟩) (Kd.S_far (p := ⟨d1, 0, none⟩) (Kd.S_types l4.out b2.out (by decide)) (fun _ hk => hk.2) (.slice g3 d9.length g1)) (fun _ hk => hk.2) (.slice f6 d3.length f4)) (fun _ h_ => h_.1))) : p := h
theorem zj_32 {p : Prop} (h : p := by (with_reducible repeat (first | apply Kd.R_alloc | apply Kd.R_drewN | apply Kd.R_drew)); exact (Kd.R_mono (Kd.R_far (p := ⟨d1, 1, none⟩) (Kd.R_far (p := ⟨d1, 0, none⟩) (Kd.R_types l5.out b2.out (by decide)) (fun _ hk => hk.2) (.slice g3 d9.length g1)) (fun _ hk => hk.2) (.slice f6 d3.length f4)) (fun _ h_ => h_.1))) : p := h
theorem zj_31 {p : Prop} (h : p := by (with_reducible repeat (first | apply Kd.R_alloc | apply Kd.R_drewN | apply Kd.R_drew)); exact (Kd.R_mono (Kd.R_far (p := ⟨d4, 1, none⟩) (Kd.R_far (p := ⟨d4, 0, none⟩) (Kd.R_types j2.out b9.out (by decide)) (fun _ hk => hk.2) (.slice h8 f3.length h5)) (fun _ hk => hk.2) (.slice h0 e5.length g8)) (fun _ h_ => h_.1))) : p := h
theorem zj_30 {p : Prop} (h : p := by (with_reducible repeat (first | apply Kd.R_alloc | apply Kd.R_drewN | apply Kd.R_drew)); exact (Kd.R_mono (Kd.R_far (p := ⟨d2, 1, none⟩) (Kd.R_far (p := ⟨d2, 0, none⟩) (Kd.R_types j2.out b7.out (by decide)) (fun _ hk => hk.2) (.slice i1 f9.length i2)) (fun _ hk => hk.2) (.slice h3 f1.length h4)) (fun _ h_ => h_.1))) : p := h
theorem zj_29 {p : Prop} (h : p := by (with_reducible repeat (first | apply Kd.R_alloc | apply Kd.R_drewN | apply Kd.R_drew)); exact (Kd.R_mono (Kd.R_far (p := ⟨d2, 1, none⟩) (Kd.R_far (p := ⟨d2, 0, none⟩) (Kd.R_types k3.out b7.out (by decide)) (fun _ hk => hk.2) (.slice i1 f9.length i2)) (fun _ hk => hk.2) (.slice h3 f1.length h4)) (fun _ h_ => h_.1))) : p := h
theorem zj_28 {p : Prop} (h : p := by (with_reducible repeat (first | apply Kd.S_alloc | apply Kd.S_drewN | apply Kd.S_drew)); exact (Kd.S_mono (Kd.S_far (p := ⟨d1, 1, none⟩) (Kd.S_far (p := ⟨d1, 0, none⟩) (Kd.S_types l6.out b2.out (by decide)) (fun _ hk => hk.2) (.slice g3 d9.length g1)) (fun _ hk => hk.2) (.slice f6 d3.length f4)) (fun _ h_ => h_.1))) : p := h
theorem zj_27 {p : Prop} (h : p := by (with_reducible repeat (first | apply Kd.S_alloc | apply Kd.S_drewN | apply Kd.S_drew)); exact (Kd.S_mono (Kd.S_far (p := ⟨d2, 1, none⟩) (Kd.S_far (p := ⟨d2, 0, none⟩) (Kd.S_types j3.out b7.out (by decide)) (fun _ hk => hk.2) (.slice i1 f9.length i2)) (fun _ hk => hk.2) (.slice h3 f1.length h4)) (fun _ h_ => h_.1))) : p := h
theorem zj_26 {p : Prop} (h : p := by (with_reducible repeat (first | apply Kd.S_alloc | apply Kd.S_drewN | apply Kd.S_drew)); exact (Kd.S_mono (Kd.S_far (p := ⟨d2, 1, none⟩) (Kd.S_far (p := ⟨d2, 0, none⟩) (Kd.S_types k4.out b7.out (by decide)) (fun _ hk => hk.2) (.slice i1 f9.length i2)) (fun _ hk => hk.2) (.slice h3 f1.length h4)) (fun _ h_ => h_.1))) : p := h
theorem zj_25 {p : Prop} (h : p := by repeat (first | (with_reducible first | exact HB.out | apply below_alloc | apply pw_below_drewN | apply below_drew1) | exact HB.out)) : p := h
theorem zj_24 {p : Prop} (h : p := by (with_reducible repeat (first | apply Kd.Q_alloc | apply Kd.Q_drewN | apply Kd.Q_drew)); exact (Kd.Q_mono (Kd.Q_far (p := ⟨d4, 1, none⟩) (Kd.Q_far (p := ⟨d4, 0, none⟩) (Kd.Q_types a3.out b9.out (by decide)) (fun _ hk => hk.2) (.slice h8 f3.length h5)) (fun _ hk => hk.2) (.slice h0 e5.length g8)) (fun _ h_ => h_.1))) : p := h
theorem zj_23 {p : Prop} (h : p := by (with_reducible repeat (first | apply Kd.Q_alloc | apply Kd.Q_drewN | apply Kd.Q_drew)); exact (Kd.Q_mono (Kd.Q_far (p := ⟨d2, 1, none⟩) (Kd.Q_far (p := ⟨d2, 0, none⟩) (Kd.Q_types a8.out b7.out (by decide)) (fun _ hk => hk.2) (.slice i1 f9.length i2)) (fun _ hk => hk.2) (.slice h3 f1.length h4)) (fun _ h_ => h_.1))) : p := h
theorem zj_22 {p : Prop} (h : p := by (with_reducible repeat (first | apply Kd.S_alloc | apply Kd.S_drewN | apply Kd.S_drew)); exact (Kd.S_mono (Kd.S_far (p := ⟨d2, 1, none⟩) (Kd.S_far (p := ⟨d2, 0, none⟩) (Kd.S_types a4.out b7.out (by decide)) (fun _ hk => hk.2) (.slice i1 f9.length i2)) (fun _ hk => hk.2) (.slice h3 f1.length h4)) (fun _ h_ => h_.1))) : p := h
theorem zj_21 {p : Prop} (h : p := by (with_reducible repeat (first | apply Kd.S_alloc | apply Kd.S_drewN | apply Kd.S_drew)); exact (Kd.S_mono (Kd.S_far (p := ⟨d2, 1, none⟩) (Kd.S_far (p := ⟨d2, 0, none⟩) (Kd.S_types a9.out b7.out (by decide)) (fun _ hk => hk.2) (.slice i1 f9.length i2)) (fun _ hk => hk.2) (.slice h3 f1.length h4)) (fun _ h_ => h_.1))) : p := h
theorem zj_20 {p : Prop} (h : p := by (with_reducible repeat (first | apply Kd.Q_alloc | apply Kd.Q_drewN | apply Kd.Q_drew)); exact (Kd.Q_mono (Kd.Q_far (p := ⟨d2, 1, none⟩) (Kd.Q_far (p := ⟨d2, 0, none⟩) (Kd.Q_types a1.out b7.out (by decide)) (fun _ hk => hk.2) (.slice i1 f9.length i2)) (fun _ hk => hk.2) (.slice h3 f1.length h4)) (fun _ h_ => h_.1))) : p := h
theorem zj_19 {p : Prop} (h : p := by (with_reducible repeat (first | apply Kd.Q_alloc | apply Kd.Q_drewN | apply Kd.Q_drew)); exact (Kd.Q_mono (Kd.Q_far (p := ⟨d2, 1, none⟩) (Kd.Q_far (p := ⟨d2, 0, none⟩) (Kd.Q_types a6.out b7.out (by decide)) (fun _ hk => hk.2) (.slice i1 f9.length i2)) (fun _ hk => hk.2) (.slice h3 f1.length h4)) (fun _ h_ => h_.1))) : p := h
theorem zj_18 {p : Prop} (h : p := by (with_reducible repeat (first | apply Kd.S_alloc | apply Kd.S_drewN | apply Kd.S_drew)); exact (Kd.S_mono (Kd.S_far (p := ⟨d2, 1, none⟩) (Kd.S_far (p := ⟨d2, 0, none⟩) (Kd.S_types a2.out b7.out (by decide)) (fun _ hk => hk.2) (.slice i1 f9.length i2)) (fun _ hk => hk.2) (.slice h3 f1.length h4)) (fun _ h_ => h_.1))) : p := h
theorem zj_17 {p : Prop} (h : p := by (with_reducible repeat (first | apply Kd.S_alloc | apply Kd.S_drewN | apply Kd.S_drew)); exact (Kd.S_mono (Kd.S_far (p := ⟨d2, 1, none⟩) (Kd.S_far (p := ⟨d2, 0, none⟩) (Kd.S_types a7.out b7.out (by decide)) (fun _ hk => hk.2) (.slice i1 f9.length i2)) (fun _ hk => hk.2) (.slice h3 f1.length h4)) (fun _ h_ => h_.1))) : p := h
theorem zj_16 {p : Prop} (h : p := by repeat (first | (with_reducible first | exact HB.out | apply below_alloc | apply pw_below_drewN | apply below_drew1 | refine below_set ?_ m2.out | refine below_set ?_ m3.out | refine below_set ?_ m8.out) | exact HB.out)) : p := h
theorem zj_15 {p : Prop} (h : p := by (with_reducible repeat (first | apply Kd.S_alloc | apply Kd.S_drewN | apply Kd.S_drew)); exact (Kd.S_mono (Kd.S_mono (Kd.S_far (p := ⟨d7, 1, none⟩) (Kd.S_far (p := ⟨d7, 0, none⟩) (Kd.S_far (p := ⟨d6, 1, none⟩) (Kd.S_far (p := ⟨d6, 0, none⟩) (Kd.S_types (Kd.S_types k1.out a5.out (by decide)) b1.out (by decide)) (fun _ hk => hk.1.2) (.slice f2 e0.length f0)) (fun _ hk => hk.1.2) (.slice e1 d5.length d8)) (fun _ hk => hk.2) (.slice f7 e8.length f5)) (fun _ hk => hk.2) (.slice e4 d0.length e2)) (fun _ h_ => h_.1)) (fun _ h_ => h_.1))) : p := h
theorem zj_14 {p : Prop} (h : p := by (with_reducible repeat (first | apply Kd.S_alloc | apply Kd.S_drewN | apply Kd.S_drew)); exact (Kd.S_mono (Kd.S_mono (Kd.S_far (p := ⟨d7, 1, none⟩) (Kd.S_far (p := ⟨d7, 0, none⟩) (Kd.S_far (p := ⟨d6, 1, none⟩) (Kd.S_far (p := ⟨d6, 0, none⟩) (Kd.S_types (Kd.S_types k2.out a5.out (by decide)) b1.out (by decide)) (fun _ hk => hk.1.2) (.slice f2 e0.length f0)) (fun _ hk => hk.1.2) (.slice e1 d5.length d8)) (fun _ hk => hk.2) (.slice f7 e8.length f5)) (fun _ hk => hk.2) (.slice e4 d0.length e2)) (fun _ h_ => h_.1)) (fun _ h_ => h_.1))) : p := h
theorem zj_13 {p : Prop} (h : p := by (with_reducible repeat (first | refine blk_drewN ?_ _ | refine blk_drew ?_ | refine blk_alloc ?_ _)); refine blk_far ?_ i3.out _; (with_reducible repeat (first | refine blk_drewN ?_ _ | refine blk_drew ?_ | refine blk_alloc ?_ _)); refine blk_far ?_ i3.out _; (with_reducible repeat (first | refine blk_drewN ?_ _ | refine blk_drew ?_ | refine blk_alloc ?_ _)); exact a5.out) : p := h
theorem zj_12 {p : Prop} (h : p := by (with_reducible repeat (first | refine blk_drewN ?_ _ | refine blk_drew ?_ | refine blk_alloc ?_ _)); refine blk_far ?_ j4.out _; (with_reducible repeat (first | refine blk_drewN ?_ _ | refine blk_drew ?_ | refine blk_alloc ?_ _)); refine blk_far ?_ j4.out _; (with_reducible repeat (first | refine blk_drewN ?_ _ | refine blk_drew ?_ | refine blk_alloc ?_ _)); exact b1.out) : p := h
theorem zj_11 {p : Prop} (h : p := by (with_reducible repeat (first | refine blk_drewN ?_ _ | refine blk_drew ?_ | refine blk_alloc ?_ _)); refine blk_far ?_ i4.out _; (with_reducible repeat (first | refine blk_drewN ?_ _ | refine blk_drew ?_ | refine blk_alloc ?_ _)); refine blk_far ?_ i4.out _; (with_reducible repeat (first | refine blk_drewN ?_ _ | refine blk_drew ?_ | refine blk_alloc ?_ _)); exact b0.out) : p := h
theorem zj_10 {p : Prop} (h : p := by (with_reducible repeat (first | refine blk_drewN ?_ _ | refine blk_drew ?_ | refine blk_alloc ?_ _)); refine blk_far ?_ l1.out _; (with_reducible repeat (first | refine blk_drewN ?_ _ | refine blk_drew ?_ | refine blk_alloc ?_ _)); refine blk_far ?_ l1.out _; (with_reducible repeat (first | refine blk_drewN ?_ _ | refine blk_drew ?_ | refine blk_alloc ?_ _)); exact b2.out) : p := h
theorem zj_9 {p : Prop} (h : p := by (with_reducible repeat (first | refine blk_drewN ?_ _ | refine blk_drew ?_ | refine blk_alloc ?_ _)); refine blk_far ?_ l2.out _; (with_reducible repeat (first | refine blk_drewN ?_ _ | refine blk_drew ?_ | refine blk_alloc ?_ _)); refine blk_far ?_ l2.out _; (with_reducible repeat (first | refine blk_drewN ?_ _ | refine blk_drew ?_ | refine blk_alloc ?_ _)); exact b9.out) : p := h
theorem zj_8 {p : Prop} (h : p := by refine (Kd.Q_reads' (e := 3) (base := w.heap.size) (ok := fun k_ => (((some k_ ≠ (.slice e4 d0.length e2 : Value).ownBlock ∧ (some k_ ≠ (.slice e7 b8.length e6 : Value).ownBlock ∧ some k_ ≠ (.slice f6 d3.length f4 : Value).ownBlock)) ∧ some k_ ≠ (.slice h0 e5.length g8 : Value).ownBlock) ∧ some k_ ≠ (.slice h3 f1.length h4 : Value).ownBlock)) (n := d5.length) (c := d8) ?_).2.2; exact zj_3) : p := h
theorem zj_7 {p : Prop} (h : p := by (with_reducible repeat (first | refine blk_drewN ?_ _ | refine blk_drew ?_ | refine blk_alloc ?_ _)); refine blk_put (cs := #[.slice i1 f9.length i2, .slice none 0 0]) ?_ 1 _ rfl; (with_reducible repeat (first | refine blk_drewN ?_ _ | refine blk_drew ?_ | refine blk_alloc ?_ _)); refine blk_put (cs := #[.slice none 0 0, .slice none 0 0]) ?_ 0 _ rfl; (with_reducible repeat (first | refine blk_drewN ?_ _ | refine blk_drew ?_ | refine blk_alloc ?_ _)); exact b7.out) : p := h
theorem zj_6 {p : Prop} (h : p := by repeat (first | (with_reducible first | exact HB.out | apply below_alloc | apply pw_below_drewN | apply below_drew1 | refine below_set ?_ m2.out | refine below_set ?_ m3.out | refine below_set ?_ m8.out | refine below_set ?_ m5.out | refine below_set ?_ m9.out) | exact HB.out)) : p := h
theorem zj_5 {p : Prop} (h : p := by (with_reducible repeat (first | apply Kd.Q_alloc | apply Kd.Q_drewN | apply Kd.Q_drew)); exact (Kd.Q_mono (Kd.Q_mono (Kd.Q_far (p := ⟨d7, 1, none⟩) (Kd.Q_far (p := ⟨d7, 0, none⟩) (Kd.Q_far (p := ⟨d6, 1, none⟩) (Kd.Q_far (p := ⟨d6, 0, none⟩) (Kd.Q_types (Kd.Q_types j9.out a5.out (by decide)) b1.out (by decide)) (fun _ hk => hk.1.2) (.slice f2 e0.length f0)) (fun _ hk => hk.1.2) (.slice e1 d5.length d8)) (fun _ hk => hk.2) (.slice f7 e8.length f5)) (fun _ hk => hk.2) (.slice e4 d0.length e2)) (fun _ h_ => h_.1)) (fun _ h_ => h_.1))) : p := h
theorem zj_4 {p : Prop} (h : p := by (with_reducible repeat (first | apply Kd.Q_alloc | apply Kd.Q_drewN | apply Kd.Q_drew)); exact (Kd.Q_mono (Kd.Q_mono (Kd.Q_far (p := ⟨d7, 1, none⟩) (Kd.Q_far (p := ⟨d7, 0, none⟩) (Kd.Q_far (p := ⟨d6, 1, none⟩) (Kd.Q_far (p := ⟨d6, 0, none⟩) (Kd.Q_types (Kd.Q_types k0.out a5.out (by decide)) b1.out (by decide)) (fun _ hk => hk.1.2) (.slice f2 e0.length f0)) (fun _ hk => hk.1.2) (.slice e1 d5.length d8)) (fun _ hk => hk.2) (.slice f7 e8.length f5)) (fun _ hk => hk.2) (.slice e4 d0.length e2)) (fun _ h_ => h_.1)) (fun _ h_ => h_.1))) : p := h
theorem zj_3 {p : Prop} (h : p := by (with_reducible repeat (first | apply Kd.Q_alloc | apply Kd.Q_drewN | apply Kd.Q_drew)); exact (Kd.Q_mono (Kd.Q_far (p := ⟨d2, 1, none⟩) (Kd.Q_far (p := ⟨d2, 0, none⟩) (Kd.Q_types a3.out b7.out (by decide)) (fun _ hk => hk.2) (.slice i1 f9.length i2)) (fun _ hk => hk.2) (.slice h3 f1.length h4)) (fun _ h_ => h_.1))) : p := h
theorem zj_2 {p : Prop} (h : p := by repeat (first | (with_reducible first | exact HB.out | apply below_alloc | apply pw_below_drewN | apply below_drew1 | refine below_set ?_ m2.out | refine below_set ?_ m3.out | refine below_set ?_ m8.out | refine below_set ?_ m5.out) | exact HB.out)) : p := h
theorem zj_1 {p : Prop} (h : p := by refine (Kd.S_reads' (e := 25) (base := w.heap.size) (ok := fun k_ => (((((some k_ ≠ (.slice e1 d5.length d8 : Value).ownBlock ∧ (some k_ ≠ (.slice f7 e8.length f5 : Value).ownBlock ∧ (some k_ ≠ (.slice e4 d0.length e2 : Value).ownBlock ∧ (some k_ ≠ (.slice g0 e9.length f8 : Value).ownBlock ∧ (some k_ ≠ (.slice e7 b8.length e6 : Value).ownBlock ∧ (some k_ ≠ (.slice g3 d9.length g1 : Value).ownBlock ∧ some k_ ≠ (.slice f6 d3.length f4 : Value).ownBlock)))))) ∧ some k_ ≠ (.slice h8 f3.length h5 : Value).ownBlock) ∧ some k_ ≠ (.slice h0 e5.length g8 : Value).ownBlock) ∧ some k_ ≠ (.slice i1 f9.length i2 : Value).ownBlock) ∧ some k_ ≠ (.slice h3 f1.length h4 : Value).ownBlock)) (n := e0.length) (c := f0) ?_).2.2; exact (by (with_reducible repeat (first | apply Kd.S_alloc | apply Kd.S_drewN | apply Kd.S_drew)); exact (Kd.S_mono (Kd.S_far (p := ⟨d2, 1, none⟩) (Kd.S_far (p := ⟨d2, 0, none⟩) (Kd.S_types a4.out b7.out (by decide)) (fun _ hk => hk.2) (.slice i1 f9.length i2)) (fun _ hk => hk.2) (.slice h3 f1.length h4)) (fun _ h_ => h_.1)))) : p := h
theorem zj_0 {p : Prop} (h : p := by repeat (first | (with_reducible first | exact HB.out | apply below_alloc | apply pw_below_drewN | apply below_drew1 | refine below_set ?_ m2.out | refine below_set ?_ m3.out | refine below_set ?_ m8.out | refine below_set ?_ m5.out | refine below_set ?_ m9.out | refine below_set ?_ n8.out) | exact HB.out)) : p := h
set_option maxHeartbeats 8000000 in
set_option maxRecDepth 100000 in
theorem laws_FnTimesOf.calls (k : Nat) (A0 : Option Addr) (c0 : Nat) (l0 : List Int) (r : Bool) (w : World) (hr0 : Kd.C (Kd.int .u8) w A0 l0.length l0) (hc0 : l0.length ≤ c0) (h : laws_FnTimesOf.f k l0 = some r) :
 Calls Try.prog 10 #[.slice A0 l0.length c0] w fun e w' => e = .returned (.bool r) ∧ Below w.heap.size w w' := by
 have hu27 := Try.underlying27
 have HR0 := ak hr0
 have S0 := ak hc0
 clear hr0 hc0
 have HB := ak (Below.refl w.heap.size w)
 have H : (if (l0.length : Int) > 1048576 then (some true) else ((spec_DrawTimesOf.f k l0).bind fun k8 => ((impl_TimesOf.f k8.1 k8.2.1 k8.2.2.1 k8.2.2.2).bind fun l9 => ((spec_TimesOf.f k k8.1 k8.2.1 k8.2.2.1 k8.2.2.2).bind fun m6 => ((laws_sameLogic.f k l9.1 l9.2.1 m6.1 m6.2.1).bind fun n5 => (if n5 = true then (laws_FnTimesOf.j0 k l9.2.2 (l9.2.2 != m6.2.2) k8.1 k8.2.1 k8.2.2.1 k8.2.2.2 l9.1 l9.2.1) else (laws_FnTimesOf.j0 k l9.2.2 true k8.1 k8.2.1 k8.2.2.1 k8.2.2.2 l9.1 l9.2.1))))))) = some r := h
 clear h
 replace H := op_ H
 rcases H with ⟨c2, H⟩ | ⟨c2, H⟩
 ·
  have n9 : decide (1048576 < (l0.length : Int)) = true := dT_ c2
  have o0 : decide (1048576 < l0.length) = true := dT_ (by omega)
  clear c2
  obtain rfl := Option.some.inj H
  go_enter Try.func10, Try.ntmps10
  go_wp2
  go_ret
  exact ⟨zj_52, zj_25⟩
 have n9 : decide (1048576 < (l0.length : Int)) = false := dF_ c2
 have o0 : decide (1048576 < l0.length) = false := dF_ (by omega)
 clear c2
 replace H := bd_ H
 obtain ⟨⟨e0, d5, e8, d0⟩, A3, H⟩ := H
 try dsimp only at H
 replace H := bd_ H
 obtain ⟨⟨e9, b8, n3⟩, A4, H⟩ := H
 try dsimp only at H
 replace H := bd_ H
 obtain ⟨⟨d9, d3, n6⟩, A5, H⟩ := H
 try dsimp only at H
 have q5 := ak H
 clear H
 go_enter Try.func10, Try.ntmps10
 go_upto_region 6 with (first | ((with_reducible refine gate_callee (f := 44) rfl ?_); refine gl_ (some 22) Try.func44 #[.slice A0 l0.length c0] ?_; (with_reducible refine (spec_DrawTimesOf.calls k _ _ l0 e0 d5 e8 d0 _ (y4 HR0.out) S0.out A3.out).mono ?_); rintro e w' ⟨S1, S2, S3, S4, rfl, ho0, ho1, ho2, ho3, hb⟩; refine ⟨_, rfl, ?_⟩; have k1 := ak (Kd.S_lower ho0 (below_size zj_25)); have j9 := ak (Kd.Q_lower ho1 (below_size zj_25)); have k2 := ak (Kd.S_lower ho2 (below_size zj_25)); have k0 := ak (Kd.Q_lower ho3 (below_size zj_25)); replace HB := ak (below_step zj_25 hb); (try clear hb); (try clear hb2); (try clear hk); (try clear hi); (try clear ho0); (try clear ho1); (try clear ho2); (try clear ho3)) | ((with_reducible refine gate_dst (N := 3) rfl ?_); (try (refine gate_guard (by rfl) ?_; dsimp only)); refine box_event ?hg (N := 3) ?hd (cs := #[.slice none 0 0, .slice none 0 0]) (t := 27) ?hr ?_; (case hd => rfl); (case hg => rfl); (case hr => first | (go_simp; done) | (go_simp; rfl)); intro d6 hg w8 hbox hb; replace k1 := ak (Kd.S_below (xS k1.out) hb); replace j9 := ak (Kd.Q_below (xQ j9.out) hb); replace k2 := ak (Kd.S_below (xS k2.out) hb); replace k0 := ak (Kd.Q_below (xQ k0.out) hb); have a5 := ak (hbox); have I8 := ak ((by rw [hg]; exact (below_size zj_25) : w.heap.size ≤ d6)); have m2 := ak ((by rw [hg]; exact (below_size zj_25) : w.heap.size ≤ d6)); replace HB := ak (below_step zj_25 hb); clear hb hbox hg) | ((with_reducible refine gate_dst (N := 4) rfl ?_); (try (refine gate_guard (by rfl) ?_; dsimp only)); refine box_event ?hg (N := 4) ?hd (cs := #[.slice none 0 0, .slice none 0 0]) (t := 27) ?hr ?_; (case hd => rfl); (case hg => rfl); (case hr => first | (go_simp; done) | (go_simp; rfl)); intro d7 hg w9 hbox hb; replace k1 := ak (Kd.S_below (xS k1.out) hb); replace j9 := ak (Kd.Q_below (xQ j9.out) hb); replace k2 := ak (Kd.S_below (xS k2.out) hb); replace k0 := ak (Kd.Q_below (xQ k0.out) hb); have b1 := ak (hbox); have I9 := ak ((by rw [hg]; exact (below_size zj_73) : w.heap.size ≤ d7)); have m3 := ak ((by rw [hg]; exact (below_size zj_73) : w.heap.size ≤ d7)); replace HB := ak (below_step zj_73 hb); have h9 := ak ((by rw [hg]; exact Nat.ne_of_lt (blk_lt (g := d6) (o := .cells #[.slice none 0 0, .slice none 0 0] 27 (0, 0)) (xb a5.out)) : d6 ≠ d7)); have i0 := ak ((by rw [hg]; exact Nat.ne_of_gt (blk_lt (g := d6) (o := .cells #[.slice none 0 0, .slice none 0 0] 27 (0, 0)) (xb a5.out)) : d7 ≠ d6)); replace a5 := ak (blk_below (g := d6) (o := .cells #[.slice none 0 0, .slice none 0 0] 27 (0, 0)) (xb a5.out) hb); clear hb hbox hg; obtain ⟨f2, f0, q6⟩ := Kd.S_slice k1.out; subst q6; have J0 := h9.out; have J1 := i0.out; have g4 := cz20 a5.out; have g5 := cz21 a5.out; have g6 := blk_frozen a5.out 0; have g7 := blk_frozen a5.out 1; obtain ⟨e1, d8, q7, _⟩ := Kd.Q_slice j9.out; subst q7; obtain ⟨f7, f5, q8⟩ := Kd.S_slice k2.out; subst q8; have g4 := cz20 b1.out; have g5 := cz21 b1.out; have g6 := blk_frozen b1.out 0; have g7 := blk_frozen b1.out 1; obtain ⟨e4, e2, q9, _⟩ := Kd.Q_slice k0.out; subst q9) | ((with_reducible refine gate_callee (f := 45) rfl ?_); refine gl_ (some 28) Try.func45 #[.agg #[.slice f2 e0.length f0, .slice e1 d5.length d8], .agg #[.slice f7 e8.length f5, .slice e4 d0.length e2]] ?_; (with_reducible refine (impl_TimesOf.calls _ _ e0 _ _ d5 _ _ e8 _ _ d0 e9 b8 n3 _ (by refine (Kd.S_reads' (e := 25) (base := w.heap.size) (ok := fun k_ => (some k_ ≠ (.slice e1 d5.length d8 : Value).ownBlock ∧ (some k_ ≠ (.slice f7 e8.length f5 : Value).ownBlock ∧ some k_ ≠ (.slice e4 d0.length e2 : Value).ownBlock))) (n := e0.length) (c := f0) ?_).2.2; exact zj_15) (y2 k1.out) (by refine (Kd.Q_reads' (e := 3) (base := w.heap.size) (ok := fun k_ => some k_ ≠ (.slice e4 d0.length e2 : Value).ownBlock) (n := d5.length) (c := d8) ?_).2.2; exact zj_5) (y2 j9.out) (by refine (Kd.S_reads' (e := 25) (base := w.heap.size) (ok := fun k_ => (some k_ ≠ (.slice f2 e0.length f0 : Value).ownBlock ∧ (some k_ ≠ (.slice e1 d5.length d8 : Value).ownBlock ∧ some k_ ≠ (.slice e4 d0.length e2 : Value).ownBlock))) (n := e8.length) (c := f5) ?_).2.2; exact zj_14) (y2 k2.out) (by refine (Kd.Q_reads' (e := 3) (base := w.heap.size) (ok := fun k_ => some k_ ≠ (.slice e1 d5.length d8 : Value).ownBlock) (n := d0.length) (c := e2) ?_).2.2; exact zj_4) (y2 k0.out) A4.out).mono ?_); rintro e w' ⟨S5, S6, rfl, ho0, ho1, hb⟩; refine ⟨_, rfl, ?_⟩; have l4 := ak (Kd.S_lower (Kd.S_new' (Kd.S_new' (Kd.S_new' (Kd.S_new' ho0 (Kd.S_lt zj_15)) (Kd.Q_lt zj_5)) (Kd.S_lt zj_14)) (Kd.Q_lt zj_4)) (below_size zj_39)); replace k1 := ak (Kd.S_mono (Kd.S_told (Kd.S_told (Kd.S_old zj_15 hb) (Kd.S_base ho0)) (Kd.R_base ho1)) (fun _ h_ => h_.1)); replace k2 := ak (Kd.S_mono (Kd.S_told (Kd.S_told (Kd.S_old zj_14 hb) (Kd.S_base ho0)) (Kd.R_base ho1)) (fun _ h_ => h_.1)); have l3 := ak (Kd.R_lower (Kd.R_new' (Kd.R_new' ho1 (Kd.Q_lt zj_5)) (Kd.Q_lt zj_4)) (below_size zj_39)); replace j9 := ak (Kd.Q_elder' zj_5 (Kd.R_base ho1) hb); replace k0 := ak (Kd.Q_elder' zj_4 (Kd.R_base ho1) hb); replace a5 := ak (blk_below (g := d6) (o := .cells #[.slice f2 e0.length f0, .slice e1 d5.length d8] 27 (0, 0)) (by (with_reducible repeat (first | refine blk_drewN ?_ _ | refine blk_drew ?_ | refine blk_alloc ?_ _)); refine blk_far ?_ h9.out _; (with_reducible repeat (first | refine blk_drewN ?_ _ | refine blk_drew ?_ | refine blk_alloc ?_ _)); refine blk_far ?_ h9.out _; (with_reducible repeat (first | refine blk_drewN ?_ _ | refine blk_drew ?_ | refine blk_alloc ?_ _)); refine blk_put (cs := #[.slice f2 e0.length f0, .slice none 0 0]) ?_ 1 _ rfl; (with_reducible repeat (first | refine blk_drewN ?_ _ | refine blk_drew ?_ | refine blk_alloc ?_ _)); refine blk_put (cs := #[.slice none 0 0, .slice none 0 0]) ?_ 0 _ rfl; (with_reducible repeat (first | refine blk_drewN ?_ _ | refine blk_drew ?_ | refine blk_alloc ?_ _)); exact a5.out) hb); replace b1 := ak (blk_below (g := d7) (o := .cells #[.slice f7 e8.length f5, .slice e4 d0.length e2] 27 (0, 0)) (by (with_reducible repeat (first | refine blk_drewN ?_ _ | refine blk_drew ?_ | refine blk_alloc ?_ _)); refine blk_put (cs := #[.slice f7 e8.length f5, .slice none 0 0]) ?_ 1 _ rfl; (with_reducible repeat (first | refine blk_drewN ?_ _ | refine blk_drew ?_ | refine blk_alloc ?_ _)); refine blk_put (cs := #[.slice none 0 0, .slice none 0 0]) ?_ 0 _ rfl; (with_reducible repeat (first | refine blk_drewN ?_ _ | refine blk_drew ?_ | refine blk_alloc ?_ _)); refine blk_far ?_ i0.out _; (with_reducible repeat (first | refine blk_drewN ?_ _ | refine blk_drew ?_ | refine blk_alloc ?_ _)); refine blk_far ?_ i0.out _; (with_reducible repeat (first | refine blk_drewN ?_ _ | refine blk_drew ?_ | refine blk_alloc ?_ _)); exact b1.out) hb); replace HB := ak (below_step zj_39 hb); (try clear hb); (try clear hb2); (try clear hk); (try clear hi); (try clear ho0); (try clear ho1)) | ((with_reducible refine gate_dst (N := 5) rfl ?_); (try (refine gate_guard (by rfl) ?_; dsimp only)); refine box_event ?hg (N := 5) ?hd (cs := #[.slice none 0 0, .slice none 0 0]) (t := 27) ?hr ?_; (case hd => rfl); (case hg => rfl); (case hr => first | (go_simp; done) | (go_simp; rfl)); intro e3 hg T7 hbox hb; replace k1 := ak (Kd.S_below (xS k1.out) hb); replace j9 := ak (Kd.Q_below (xQ j9.out) hb); replace k2 := ak (Kd.S_below (xS k2.out) hb); replace k0 := ak (Kd.Q_below (xQ k0.out) hb); replace l4 := ak (Kd.S_below (xS l4.out) hb); replace l3 := ak (Kd.R_below (xR l3.out) hb); have b0 := ak (hbox); have J2 := ak ((by rw [hg]; exact (below_size zj_39) : w.heap.size ≤ e3)); have m8 := ak ((by rw [hg]; exact (below_size zj_39) : w.heap.size ≤ e3)); replace HB := ak (below_step zj_39 hb); have g2 := ak ((by rw [hg]; exact Nat.ne_of_lt (blk_lt (g := d6) (o := .cells #[.slice f2 e0.length f0, .slice e1 d5.length d8] 27 (0, 0)) (xb a5.out)) : d6 ≠ e3)); have h2 := ak ((by rw [hg]; exact Nat.ne_of_gt (blk_lt (g := d6) (o := .cells #[.slice f2 e0.length f0, .slice e1 d5.length d8] 27 (0, 0)) (xb a5.out)) : e3 ≠ d6)); replace a5 := ak (blk_below (g := d6) (o := .cells #[.slice f2 e0.length f0, .slice e1 d5.length d8] 27 (0, 0)) (xb a5.out) hb); have i6 := ak ((by rw [hg]; exact Nat.ne_of_lt (blk_lt (g := d7) (o := .cells #[.slice f7 e8.length f5, .slice e4 d0.length e2] 27 (0, 0)) (xb b1.out)) : d7 ≠ e3)); have j8 := ak ((by rw [hg]; exact Nat.ne_of_gt (blk_lt (g := d7) (o := .cells #[.slice f7 e8.length f5, .slice e4 d0.length e2] 27 (0, 0)) (xb b1.out)) : e3 ≠ d7)); replace b1 := ak (blk_below (g := d7) (o := .cells #[.slice f7 e8.length f5, .slice e4 d0.length e2] 27 (0, 0)) (xb b1.out) hb); clear hb hbox hg; obtain ⟨g0, f8, s0⟩ := Kd.S_slice l4.out; subst s0; have J3 := h2.out; have J4 := g2.out; have J5 := j8.out; have J6 := i6.out; have g4 := cz20 b0.out; have g5 := cz21 b0.out; have g6 := blk_frozen b0.out 0; have g7 := blk_frozen b0.out 1; obtain ⟨e7, e6, s1⟩ := Kd.R_slice l3.out; subst s1; have g4 := cz20 a5.out; have g5 := cz21 a5.out; have g6 := blk_frozen a5.out 0; have g7 := blk_frozen a5.out 1; have g4 := cz20 b1.out; have g5 := cz21 b1.out; have g6 := blk_frozen b1.out 0; have g7 := blk_frozen b1.out 1) | ((with_reducible refine gate_callee (f := 46) rfl ?_); refine gl_ (some 34) Try.func46 #[.agg #[.slice f2 e0.length f0, .slice e1 d5.length d8], .agg #[.slice f7 e8.length f5, .slice e4 d0.length e2]] ?_; (with_reducible refine (spec_TimesOf.calls k _ _ e0 _ _ d5 _ _ e8 _ _ d0 d9 d3 n6 _ (by refine (Kd.S_reads' (e := 25) (base := w.heap.size) (ok := fun k_ => (((some k_ ≠ (.slice e1 d5.length d8 : Value).ownBlock ∧ (some k_ ≠ (.slice f7 e8.length f5 : Value).ownBlock ∧ some k_ ≠ (.slice e4 d0.length e2 : Value).ownBlock)) ∧ some k_ ≠ (.slice g0 e9.length f8 : Value).ownBlock) ∧ some k_ ≠ (.slice e7 b8.length e6 : Value).ownBlock)) (n := e0.length) (c := f0) ?_).2.2; exact zj_50) (y2 k1.out) (by refine (Kd.Q_reads' (e := 3) (base := w.heap.size) (ok := fun k_ => (some k_ ≠ (.slice e4 d0.length e2 : Value).ownBlock ∧ some k_ ≠ (.slice e7 b8.length e6 : Value).ownBlock)) (n := d5.length) (c := d8) ?_).2.2; exact zj_36) (y2 j9.out) (by refine (Kd.S_reads' (e := 25) (base := w.heap.size) (ok := fun k_ => (((some k_ ≠ (.slice f2 e0.length f0 : Value).ownBlock ∧ (some k_ ≠ (.slice e1 d5.length d8 : Value).ownBlock ∧ some k_ ≠ (.slice e4 d0.length e2 : Value).ownBlock)) ∧ some k_ ≠ (.slice g0 e9.length f8 : Value).ownBlock) ∧ some k_ ≠ (.slice e7 b8.length e6 : Value).ownBlock)) (n := e8.length) (c := f5) ?_).2.2; exact zj_49) (y2 k2.out) (by refine (Kd.Q_reads' (e := 3) (base := w.heap.size) (ok := fun k_ => (some k_ ≠ (.slice e1 d5.length d8 : Value).ownBlock ∧ some k_ ≠ (.slice e7 b8.length e6 : Value).ownBlock)) (n := d0.length) (c := e2) ?_).2.2; exact zj_35) (y2 k0.out) A5.out).mono ?_); rintro e w' ⟨J7, J8, rfl, ho0, ho1, hb⟩; refine ⟨_, rfl, ?_⟩; have l6 := ak (Kd.S_lower (Kd.S_new' (Kd.S_new' (Kd.S_new' (Kd.S_new' (Kd.S_new' (Kd.S_new' ho0 (Kd.S_lt zj_50)) (Kd.Q_lt zj_36)) (Kd.S_lt zj_49)) (Kd.Q_lt zj_35)) (Kd.S_lt zj_72)) (Kd.R_lt zj_51)) (below_size zj_16)); replace k1 := ak (Kd.S_mono (Kd.S_told (Kd.S_told (Kd.S_old zj_50 hb) (Kd.S_base ho0)) (Kd.R_base ho1)) (fun _ h_ => h_.1)); replace k2 := ak (Kd.S_mono (Kd.S_told (Kd.S_told (Kd.S_old zj_49 hb) (Kd.S_base ho0)) (Kd.R_base ho1)) (fun _ h_ => h_.1)); replace l4 := ak (Kd.S_mono (Kd.S_told (Kd.S_told (Kd.S_old zj_72 hb) (Kd.S_base ho0)) (Kd.R_base ho1)) (fun _ h_ => h_.1)); have l5 := ak (Kd.R_lower (Kd.R_new' (Kd.R_new' (Kd.R_new' ho1 (Kd.Q_lt zj_36)) (Kd.Q_lt zj_35)) (Kd.R_lt zj_51)) (below_size zj_16)); replace j9 := ak (Kd.Q_elder' zj_36 (Kd.R_base ho1) hb); replace k0 := ak (Kd.Q_elder' zj_35 (Kd.R_base ho1) hb); replace l3 := ak (Kd.R_elder' zj_51 (Kd.R_base ho1) hb); replace a5 := ak (blk_below (g := d6) (o := .cells #[.slice f2 e0.length f0, .slice e1 d5.length d8] 27 (0, 0)) (by (with_reducible repeat (first | refine blk_drewN ?_ _ | refine blk_drew ?_ | refine blk_alloc ?_ _)); refine blk_far ?_ g2.out _; (with_reducible repeat (first | refine blk_drewN ?_ _ | refine blk_drew ?_ | refine blk_alloc ?_ _)); refine blk_far ?_ g2.out _; (with_reducible repeat (first | refine blk_drewN ?_ _ | refine blk_drew ?_ | refine blk_alloc ?_ _)); exact a5.out) hb); replace b1 := ak (blk_below (g := d7) (o := .cells #[.slice f7 e8.length f5, .slice e4 d0.length e2] 27 (0, 0)) (by (with_reducible repeat (first | refine blk_drewN ?_ _ | refine blk_drew ?_ | refine blk_alloc ?_ _)); refine blk_far ?_ i6.out _; (with_reducible repeat (first | refine blk_drewN ?_ _ | refine blk_drew ?_ | refine blk_alloc ?_ _)); refine blk_far ?_ i6.out _; (with_reducible repeat (first | refine blk_drewN ?_ _ | refine blk_drew ?_ | refine blk_alloc ?_ _)); exact b1.out) hb); replace b0 := ak (blk_below (g := e3) (o := .cells #[.slice g0 e9.length f8, .slice e7 b8.length e6] 27 (0, 0)) (by (with_reducible repeat (first | refine blk_drewN ?_ _ | refine blk_drew ?_ | refine blk_alloc ?_ _)); refine blk_put (cs := #[.slice g0 e9.length f8, .slice none 0 0]) ?_ 1 _ rfl; (with_reducible repeat (first | refine blk_drewN ?_ _ | refine blk_drew ?_ | refine blk_alloc ?_ _)); refine blk_put (cs := #[.slice none 0 0, .slice none 0 0]) ?_ 0 _ rfl; (with_reducible repeat (first | refine blk_drewN ?_ _ | refine blk_drew ?_ | refine blk_alloc ?_ _)); exact b0.out) hb); replace HB := ak (below_step zj_16 hb); (try clear hb); (try clear hb2); (try clear hk); (try clear hi); (try clear ho0); (try clear ho1)) | ((with_reducible refine gate_dst (N := 7) rfl ?_); (try (refine gate_guard (by rfl) ?_; dsimp only)); refine box_event ?hg (N := 7) ?hd (cs := #[.slice none 0 0, .slice none 0 0]) (t := 27) ?hr ?_; (case hd => rfl); (case hg => rfl); (case hr => first | (go_simp; done) | (go_simp; rfl)); intro d1 hg T8 hbox hb; replace k1 := ak (Kd.S_below (xS k1.out) hb); replace j9 := ak (Kd.Q_below (xQ j9.out) hb); replace k2 := ak (Kd.S_below (xS k2.out) hb); replace k0 := ak (Kd.Q_below (xQ k0.out) hb); replace l4 := ak (Kd.S_below (xS l4.out) hb); replace l3 := ak (Kd.R_below (xR l3.out) hb); replace l6 := ak (Kd.S_below (xS l6.out) hb); replace l5 := ak (Kd.R_below (xR l5.out) hb); have b2 := ak (hbox); have s2 := ak ((by rw [hg]; exact (below_size zj_16) : w.heap.size ≤ d1)); have m5 := ak ((by rw [hg]; exact (below_size zj_16) : w.heap.size ≤ d1)); replace HB := ak (below_step zj_16 hb); have g9 := ak ((by rw [hg]; exact Nat.ne_of_lt (blk_lt (g := d6) (o := .cells #[.slice f2 e0.length f0, .slice e1 d5.length d8] 27 (0, 0)) (xb a5.out)) : d6 ≠ d1)); have h7 := ak ((by rw [hg]; exact Nat.ne_of_gt (blk_lt (g := d6) (o := .cells #[.slice f2 e0.length f0, .slice e1 d5.length d8] 27 (0, 0)) (xb a5.out)) : d1 ≠ d6)); replace a5 := ak (blk_below (g := d6) (o := .cells #[.slice f2 e0.length f0, .slice e1 d5.length d8] 27 (0, 0)) (xb a5.out) hb); have i7 := ak ((by rw [hg]; exact Nat.ne_of_lt (blk_lt (g := d7) (o := .cells #[.slice f7 e8.length f5, .slice e4 d0.length e2] 27 (0, 0)) (xb b1.out)) : d7 ≠ d1)); have k5 := ak ((by rw [hg]; exact Nat.ne_of_gt (blk_lt (g := d7) (o := .cells #[.slice f7 e8.length f5, .slice e4 d0.length e2] 27 (0, 0)) (xb b1.out)) : d1 ≠ d7)); replace b1 := ak (blk_below (g := d7) (o := .cells #[.slice f7 e8.length f5, .slice e4 d0.length e2] 27 (0, 0)) (xb b1.out) hb); have h6 := ak ((by rw [hg]; exact Nat.ne_of_lt (blk_lt (g := e3) (o := .cells #[.slice g0 e9.length f8, .slice e7 b8.length e6] 27 (0, 0)) (xb b0.out)) : e3 ≠ d1)); have i8 := ak ((by rw [hg]; exact Nat.ne_of_gt (blk_lt (g := e3) (o := .cells #[.slice g0 e9.length f8, .slice e7 b8.length e6] 27 (0, 0)) (xb b0.out)) : d1 ≠ e3)); replace b0 := ak (blk_below (g := e3) (o := .cells #[.slice g0 e9.length f8, .slice e7 b8.length e6] 27 (0, 0)) (xb b0.out) hb); clear hb hbox hg; obtain ⟨g3, g1, s3⟩ := Kd.S_slice l6.out; subst s3; have J9 := h7.out; have K0 := g9.out; have K1 := k5.out; have K2 := i7.out; have K3 := i8.out; have K4 := h6.out; have g4 := cz20 b2.out; have g5 := cz21 b2.out; have g6 := blk_frozen b2.out 0; have g7 := blk_frozen b2.out 1; obtain ⟨f6, f4, s4⟩ := Kd.R_slice l5.out; subst s4))
 (try simp only [Act.put, List.setIfInBounds_toArray, List.set_cons_zero, List.set_cons_succ])
 go_cut [45] (fun S7 wc => ∃ (kq : Nat) (n0 : Bool), S7 = .bool n0 ∧ Aside0 (laws_FnTimesOf.j0 kq n3 n0 e0 d5 e8 d0 e9 b8 = some r) ∧ Aside0 (kq ≤ k) ∧ Aside0 (Kd.S (Kd.slice 3 (Kd.int .i64)) 25 wc w.heap.size (fun k_ => some k_ ≠ ((.slice e1 d5.length d8) : Value).ownBlock ∧ some k_ ≠ ((.slice f7 e8.length f5) : Value).ownBlock ∧ some k_ ≠ ((.slice e4 d0.length e2) : Value).ownBlock ∧ some k_ ≠ ((.slice g0 e9.length f8) : Value).ownBlock ∧ some k_ ≠ ((.slice e7 b8.length e6) : Value).ownBlock ∧ some k_ ≠ ((.slice g3 d9.length g1) : Value).ownBlock ∧ some k_ ≠ ((.slice f6 d3.length f4) : Value).ownBlock) (.slice f2 e0.length f0) e0) ∧ Aside0 (Kd.Q (Kd.int .i64) 3 wc w.heap.size (fun k_ => some k_ ≠ ((.slice e4 d0.length e2) : Value).ownBlock ∧ some k_ ≠ ((.slice e7 b8.length e6) : Value).ownBlock ∧ some k_ ≠ ((.slice f6 d3.length f4) : Value).ownBlock) (.slice e1 d5.length d8) d5) ∧ Aside0 (Kd.S (Kd.slice 3 (Kd.int .i64)) 25 wc w.heap.size (fun k_ => some k_ ≠ ((.slice f2 e0.length f0) : Value).ownBlock ∧ some k_ ≠ ((.slice e1 d5.length d8) : Value).ownBlock ∧ some k_ ≠ ((.slice e4 d0.length e2) : Value).ownBlock ∧ some k_ ≠ ((.slice g0 e9.length f8) : Value).ownBlock ∧ some k_ ≠ ((.slice e7 b8.length e6) : Value).ownBlock ∧ some k_ ≠ ((.slice g3 d9.length g1) : Value).ownBlock ∧ some k_ ≠ ((.slice f6 d3.length f4) : Value).ownBlock) (.slice f7 e8.length f5) e8) ∧ Aside0 (Kd.Q (Kd.int .i64) 3 wc w.heap.size (fun k_ => some k_ ≠ ((.slice e1 d5.length d8) : Value).ownBlock ∧ some k_ ≠ ((.slice e7 b8.length e6) : Value).ownBlock ∧ some k_ ≠ ((.slice f6 d3.length f4) : Value).ownBlock) (.slice e4 d0.length e2) d0) ∧ Aside0 (Kd.S (Kd.slice 3 (Kd.int .i64)) 25 wc w.heap.size (fun k_ => some k_ ≠ ((.slice f2 e0.length f0) : Value).ownBlock ∧ some k_ ≠ ((.slice e1 d5.length d8) : Value).ownBlock ∧ some k_ ≠ ((.slice f7 e8.length f5) : Value).ownBlock ∧ some k_ ≠ ((.slice e4 d0.length e2) : Value).ownBlock ∧ some k_ ≠ ((.slice e7 b8.length e6) : Value).ownBlock ∧ some k_ ≠ ((.slice g3 d9.length g1) : Value).ownBlock ∧ some k_ ≠ ((.slice f6 d3.length f4) : Value).ownBlock) (.slice g0 e9.length f8) e9) ∧ Aside0 (Kd.Q (Kd.int .i64) 3 wc w.heap.size (fun k_ => some k_ ≠ ((.slice e1 d5.length d8) : Value).ownBlock ∧ some k_ ≠ ((.slice e4 d0.length e2) : Value).ownBlock ∧ some k_ ≠ ((.slice f6 d3.length f4) : Value).ownBlock) (.slice e7 b8.length e6) b8) ∧ Aside0 (Kd.S (Kd.slice 3 (Kd.int .i64)) 25 wc w.heap.size (fun k_ => some k_ ≠ ((.slice f2 e0.length f0) : Value).ownBlock ∧ some k_ ≠ ((.slice e1 d5.length d8) : Value).ownBlock ∧ some k_ ≠ ((.slice f7 e8.length f5) : Value).ownBlock ∧ some k_ ≠ ((.slice e4 d0.length e2) : Value).ownBlock ∧ some k_ ≠ ((.slice g0 e9.length f8) : Value).ownBlock ∧ some k_ ≠ ((.slice e7 b8.length e6) : Value).ownBlock ∧ some k_ ≠ ((.slice f6 d3.length f4) : Value).ownBlock) (.slice g3 d9.length g1) d9) ∧ Aside0 (Kd.Q (Kd.int .i64) 3 wc w.heap.size (fun k_ => some k_ ≠ ((.slice e1 d5.length d8) : Value).ownBlock ∧ some k_ ≠ ((.slice e4 d0.length e2) : Value).ownBlock ∧ some k_ ≠ ((.slice e7 b8.length e6) : Value).ownBlock) (.slice f6 d3.length f4) d3) ∧ Aside0 (wc.heap[d6]? = some (.cells #[(.slice f2 e0.length f0), (.slice e1 d5.length d8)] 27 (0, 0))) ∧ Aside0 (wc.heap[d7]? = some (.cells #[(.slice f7 e8.length f5), (.slice e4 d0.length e2)] 27 (0, 0))) ∧ Aside0 (wc.heap[e3]? = some (.cells #[(.slice g0 e9.length f8), (.slice e7 b8.length e6)] 27 (0, 0))) ∧ Aside0 (wc.heap[d1]? = some (.cells #[(.slice g3 d9.length g1), (.slice f6 d3.length f4)] 27 (0, 0))) ∧ Aside0 (Below w.heap.size w wc))
 case first =>
  have H := q5.out
  clear q5
  replace H := bd_ H
  obtain ⟨n5, K5, H⟩ := H
  try dsimp only at H
  replace H := ox_ H
  rcases H with ⟨rfl, H⟩ | ⟨rfl, H⟩
  ·
   have H' := ak H
   clear H
   have K6 := h2.out
   have K7 := g2.out
   have K8 := j8.out
   have K9 := i6.out
   have L0 := h6.out
   have L1 := i8.out
   have g4 := cz20 b0.out
   have g5 := cz21 b0.out
   have g6 := blk_frozen b0.out 0
   have g7 := blk_frozen b0.out 1
   have L2 := h7.out
   have L3 := g9.out
   have L4 := k5.out
   have L5 := i7.out
   have g4 := cz20 b2.out
   have g5 := cz21 b2.out
   have g6 := blk_frozen b2.out 0
   have g7 := blk_frozen b2.out 1
   go_wp2_with (first | ((with_reducible refine gate_callee (f := 17) rfl ?_); refine gl_ (some 39) Try.func17 #[.agg #[.slice g0 e9.length f8, .slice e7 b8.length e6], .agg #[.slice g3 d9.length g1, .slice f6 d3.length f4]] ?_; (with_reducible refine (laws_sameLogic.calls k _ _ e9 _ _ b8 _ _ d9 _ _ d3 true _ zj_60 (y2 l4.out) zj_74 (y2 l3.out) zj_59 (y2 l6.out) zj_75 (y2 l5.out) K5.out).mono ?_); rintro e w' ⟨rfl, hb⟩; refine ⟨_, rfl, ?_⟩; replace k1 := ak (Kd.S_below zj_69 hb); replace j9 := ak (Kd.Q_below zj_71 hb); replace k2 := ak (Kd.S_below zj_68 hb); replace k0 := ak (Kd.Q_below zj_70 hb); replace l4 := ak (Kd.S_below zj_33 hb); replace l3 := ak (Kd.R_below zj_34 hb); replace l6 := ak (Kd.S_below zj_28 hb); replace l5 := ak (Kd.R_below zj_32 hb); replace a5 := ak (blk_below (g := d6) (o := .cells #[.slice f2 e0.length f0, .slice e1 d5.length d8] 27 (0, 0)) zj_64 hb); replace b1 := ak (blk_below (g := d7) (o := .cells #[.slice f7 e8.length f5, .slice e4 d0.length e2] 27 (0, 0)) zj_63 hb); replace b0 := ak (blk_below (g := e3) (o := .cells #[.slice g0 e9.length f8, .slice e7 b8.length e6] 27 (0, 0)) zj_62 hb); replace b2 := ak (blk_below (g := d1) (o := .cells #[.slice g3 d9.length g1, .slice f6 d3.length f4] 27 (0, 0)) zj_61 hb); replace HB := ak (below_step zj_2 hb); (try clear hb); (try clear hb2); (try clear hk); (try clear hi)))
   go_meet
   case rel => exact ⟨_, ((n3 != n6)), zj_80, H', ⟨(by first | omega | exact Nat.le_refl _)⟩, ⟨zj_79⟩, ⟨zj_84⟩, ⟨zj_78⟩, ⟨zj_83⟩, ⟨zj_77⟩, ⟨Kd.Q_of_R zj_82⟩, ⟨zj_76⟩, ⟨Kd.Q_of_R zj_81⟩, ⟨(xb a5.out)⟩, ⟨(xb b1.out)⟩, ⟨(xb b0.out)⟩, ⟨(xb b2.out)⟩, ⟨zj_2⟩⟩
  have H' := ak H
  clear H
  have L6 := h2.out
  have L7 := g2.out
  have L8 := j8.out
  have L9 := i6.out
  have M0 := h6.out
  have M1 := i8.out
  have g4 := cz20 b0.out
  have g5 := cz21 b0.out
  have g6 := blk_frozen b0.out 0
  have g7 := blk_frozen b0.out 1
  have M2 := h7.out
  have M3 := g9.out
  have M4 := k5.out
  have M5 := i7.out
  have g4 := cz20 b2.out
  have g5 := cz21 b2.out
  have g6 := blk_frozen b2.out 0
  have g7 := blk_frozen b2.out 1
  go_wp2_with (first | ((with_reducible refine gate_callee (f := 17) rfl ?_); refine gl_ (some 39) Try.func17 #[.agg #[.slice g0 e9.length f8, .slice e7 b8.length e6], .agg #[.slice g3 d9.length g1, .slice f6 d3.length f4]] ?_; (with_reducible refine (laws_sameLogic.calls k _ _ e9 _ _ b8 _ _ d9 _ _ d3 false _ zj_60 (y2 l4.out) zj_74 (y2 l3.out) zj_59 (y2 l6.out) zj_75 (y2 l5.out) K5.out).mono ?_); rintro e w' ⟨rfl, hb⟩; refine ⟨_, rfl, ?_⟩; replace k1 := ak (Kd.S_below zj_69 hb); replace j9 := ak (Kd.Q_below zj_71 hb); replace k2 := ak (Kd.S_below zj_68 hb); replace k0 := ak (Kd.Q_below zj_70 hb); replace l4 := ak (Kd.S_below zj_33 hb); replace l3 := ak (Kd.R_below zj_34 hb); replace l6 := ak (Kd.S_below zj_28 hb); replace l5 := ak (Kd.R_below zj_32 hb); replace a5 := ak (blk_below (g := d6) (o := .cells #[.slice f2 e0.length f0, .slice e1 d5.length d8] 27 (0, 0)) zj_64 hb); replace b1 := ak (blk_below (g := d7) (o := .cells #[.slice f7 e8.length f5, .slice e4 d0.length e2] 27 (0, 0)) zj_63 hb); replace b0 := ak (blk_below (g := e3) (o := .cells #[.slice g0 e9.length f8, .slice e7 b8.length e6] 27 (0, 0)) zj_62 hb); replace b2 := ak (blk_below (g := d1) (o := .cells #[.slice g3 d9.length g1, .slice f6 d3.length f4] 27 (0, 0)) zj_61 hb); replace HB := ak (below_step zj_2 hb); (try clear hb); (try clear hb2); (try clear hk); (try clear hi)))
  go_meet
  case rel => exact ⟨_, (true), zj_80, H', ⟨(by first | omega | exact Nat.le_refl _)⟩, ⟨zj_79⟩, ⟨zj_84⟩, ⟨zj_78⟩, ⟨zj_83⟩, ⟨zj_77⟩, ⟨Kd.Q_of_R zj_82⟩, ⟨zj_76⟩, ⟨Kd.Q_of_R zj_81⟩, ⟨(xb a5.out)⟩, ⟨(xb b1.out)⟩, ⟨(xb b0.out)⟩, ⟨(xb b2.out)⟩, ⟨zj_2⟩⟩
 case rest =>
  clear q5
  try clear c2
  try clear n9
  try clear o0
  try clear g4
  try clear g5
  try clear g6
  try clear g7
  obtain ⟨kq, n0, rfl, HA, R9, a4, a3, a9, a8, a2, a1, a7, a6, a5, b1, b0, b2, HB⟩ := hcut
  cases kq with
  | zero => exact absurd HA.out (by simp [laws_FnTimesOf.j0])
  | succ o8 =>
   have H := HA.out
   clear HA
   simp only [laws_FnTimesOf.j0] at H
   replace H := ox_ H
   rcases H with ⟨rfl, H⟩ | ⟨rfl, H⟩
   ·
    obtain rfl := Option.some.inj H
    go_wp2
    go_ret
    exact ⟨zj_52, zj_2⟩
   replace H := bd_ H
   obtain ⟨⟨f3, e5, o9⟩, S8, H⟩ := H
   try dsimp only at H
   replace H := bd_ H
   obtain ⟨⟨f9, f1, q0⟩, S9, H⟩ := H
   try dsimp only at H
   have o1 := ak H
   clear H
   go_upto_region 10 with (first | ((with_reducible refine gate_callee (f := 23) rfl ?_); refine gl_ (some 47) Try.func23 #[.int .i64 0] ?_; (with_reducible refine (impl_SetsOf.calls 0 f3 e5 o9 _ S8.out).mono ?_); rintro e w' ⟨M6, M7, rfl, ho0, ho1, hb⟩; refine ⟨_, rfl, ?_⟩; have j3 := ak (Kd.S_lower (Kd.S_new' (Kd.S_new' (Kd.S_new' (Kd.S_new' (Kd.S_new' (Kd.S_new' (Kd.S_new' (Kd.S_new' ho0 (Kd.S_lt (xS a4.out))) (Kd.Q_lt (xQ a3.out))) (Kd.S_lt (xS a9.out))) (Kd.Q_lt (xQ a8.out))) (Kd.S_lt (xS a2.out))) (Kd.Q_lt (xQ a1.out))) (Kd.S_lt (xS a7.out))) (Kd.Q_lt (xQ a6.out))) (below_size zj_2)); replace a4 := ak (Kd.S_mono (Kd.S_told (Kd.S_told (Kd.S_old (xS a4.out) hb) (Kd.S_base ho0)) (Kd.R_base ho1)) (fun _ h_ => h_.1)); replace a9 := ak (Kd.S_mono (Kd.S_told (Kd.S_told (Kd.S_old (xS a9.out) hb) (Kd.S_base ho0)) (Kd.R_base ho1)) (fun _ h_ => h_.1)); replace a2 := ak (Kd.S_mono (Kd.S_told (Kd.S_told (Kd.S_old (xS a2.out) hb) (Kd.S_base ho0)) (Kd.R_base ho1)) (fun _ h_ => h_.1)); replace a7 := ak (Kd.S_mono (Kd.S_told (Kd.S_told (Kd.S_old (xS a7.out) hb) (Kd.S_base ho0)) (Kd.R_base ho1)) (fun _ h_ => h_.1)); have j2 := ak (Kd.R_lower (Kd.R_new' (Kd.R_new' (Kd.R_new' (Kd.R_new' ho1 (Kd.Q_lt (xQ a3.out))) (Kd.Q_lt (xQ a8.out))) (Kd.Q_lt (xQ a1.out))) (Kd.Q_lt (xQ a6.out))) (below_size zj_2)); replace a3 := ak (Kd.Q_elder' (xQ a3.out) (Kd.R_base ho1) hb); replace a8 := ak (Kd.Q_elder' (xQ a8.out) (Kd.R_base ho1) hb); replace a1 := ak (Kd.Q_elder' (xQ a1.out) (Kd.R_base ho1) hb); replace a6 := ak (Kd.Q_elder' (xQ a6.out) (Kd.R_base ho1) hb); replace a5 := ak (blk_below (g := d6) (o := .cells #[.slice f2 e0.length f0, .slice e1 d5.length d8] 27 (0, 0)) (xb a5.out) hb); replace b1 := ak (blk_below (g := d7) (o := .cells #[.slice f7 e8.length f5, .slice e4 d0.length e2] 27 (0, 0)) (xb b1.out) hb); replace b0 := ak (blk_below (g := e3) (o := .cells #[.slice g0 e9.length f8, .slice e7 b8.length e6] 27 (0, 0)) (xb b0.out) hb); replace b2 := ak (blk_below (g := d1) (o := .cells #[.slice g3 d9.length g1, .slice f6 d3.length f4] 27 (0, 0)) (xb b2.out) hb); replace HB := ak (below_step zj_2 hb); (try clear hb); (try clear hb2); (try clear hk); (try clear hi); (try clear ho0); (try clear ho1)) | ((with_reducible refine gate_dst (N := 9) rfl ?_); (try (refine gate_guard (by rfl) ?_; dsimp only)); refine box_event ?hg (N := 9) ?hd (cs := #[.slice none 0 0, .slice none 0 0]) (t := 27) ?hr ?_; (case hd => rfl); (case hg => rfl); (case hr => first | (go_simp; done) | (go_simp; rfl)); intro d4 hg T9 hbox hb; replace a4 := ak (Kd.S_below (xS a4.out) hb); replace a3 := ak (Kd.Q_below (xQ a3.out) hb); replace a9 := ak (Kd.S_below (xS a9.out) hb); replace a8 := ak (Kd.Q_below (xQ a8.out) hb); replace a2 := ak (Kd.S_below (xS a2.out) hb); replace a1 := ak (Kd.Q_below (xQ a1.out) hb); replace a7 := ak (Kd.S_below (xS a7.out) hb); replace a6 := ak (Kd.Q_below (xQ a6.out) hb); replace j3 := ak (Kd.S_below (xS j3.out) hb); replace j2 := ak (Kd.R_below (xR j2.out) hb); have b9 := ak (hbox); have s5 := ak ((by rw [hg]; exact (below_size zj_2) : w.heap.size ≤ d4)); have m9 := ak ((by rw [hg]; exact (below_size zj_2) : w.heap.size ≤ d4)); replace HB := ak (below_step zj_2 hb); have i5 := ak ((by rw [hg]; exact Nat.ne_of_lt (blk_lt (g := d6) (o := .cells #[.slice f2 e0.length f0, .slice e1 d5.length d8] 27 (0, 0)) (xb a5.out)) : d6 ≠ d4)); have j5 := ak ((by rw [hg]; exact Nat.ne_of_gt (blk_lt (g := d6) (o := .cells #[.slice f2 e0.length f0, .slice e1 d5.length d8] 27 (0, 0)) (xb a5.out)) : d4 ≠ d6)); replace a5 := ak (blk_below (g := d6) (o := .cells #[.slice f2 e0.length f0, .slice e1 d5.length d8] 27 (0, 0)) (xb a5.out) hb); have k6 := ak ((by rw [hg]; exact Nat.ne_of_lt (blk_lt (g := d7) (o := .cells #[.slice f7 e8.length f5, .slice e4 d0.length e2] 27 (0, 0)) (xb b1.out)) : d7 ≠ d4)); have l7 := ak ((by rw [hg]; exact Nat.ne_of_gt (blk_lt (g := d7) (o := .cells #[.slice f7 e8.length f5, .slice e4 d0.length e2] 27 (0, 0)) (xb b1.out)) : d4 ≠ d7)); replace b1 := ak (blk_below (g := d7) (o := .cells #[.slice f7 e8.length f5, .slice e4 d0.length e2] 27 (0, 0)) (xb b1.out) hb); have i9 := ak ((by rw [hg]; exact Nat.ne_of_lt (blk_lt (g := e3) (o := .cells #[.slice g0 e9.length f8, .slice e7 b8.length e6] 27 (0, 0)) (xb b0.out)) : e3 ≠ d4)); have k7 := ak ((by rw [hg]; exact Nat.ne_of_gt (blk_lt (g := e3) (o := .cells #[.slice g0 e9.length f8, .slice e7 b8.length e6] 27 (0, 0)) (xb b0.out)) : d4 ≠ e3)); replace b0 := ak (blk_below (g := e3) (o := .cells #[.slice g0 e9.length f8, .slice e7 b8.length e6] 27 (0, 0)) (xb b0.out) hb); have l8 := ak ((by rw [hg]; exact Nat.ne_of_lt (blk_lt (g := d1) (o := .cells #[.slice g3 d9.length g1, .slice f6 d3.length f4] 27 (0, 0)) (xb b2.out)) : d1 ≠ d4)); have m4 := ak ((by rw [hg]; exact Nat.ne_of_gt (blk_lt (g := d1) (o := .cells #[.slice g3 d9.length g1, .slice f6 d3.length f4] 27 (0, 0)) (xb b2.out)) : d4 ≠ d1)); replace b2 := ak (blk_below (g := d1) (o := .cells #[.slice g3 d9.length g1, .slice f6 d3.length f4] 27 (0, 0)) (xb b2.out) hb); clear hb hbox hg; obtain ⟨h8, h5, s6⟩ := Kd.S_slice j3.out; subst s6; have M8 := j5.out; have M9 := i5.out; have N0 := l7.out; have N1 := k6.out; have N2 := k7.out; have N3 := i9.out; have N4 := m4.out; have N5 := l8.out; have g4 := cz20 b9.out; have g5 := cz21 b9.out; have g6 := blk_frozen b9.out 0; have g7 := blk_frozen b9.out 1; obtain ⟨h0, g8, s7⟩ := Kd.R_slice j2.out; subst s7; have N6 := h9.out; have N7 := i0.out; have N8 := g2.out; have N9 := h2.out; have O0 := g9.out; have O1 := h7.out; have g4 := cz20 a5.out; have g5 := cz21 a5.out; have g6 := blk_frozen a5.out 0; have g7 := blk_frozen a5.out 1) | ((with_reducible refine gate_callee (f := 45) rfl ?_); refine gl_ (some 53) Try.func45 #[.agg #[.slice f2 e0.length f0, .slice e1 d5.length d8], .agg #[.slice h8 f3.length h5, .slice h0 e5.length g8]] ?_; (with_reducible refine (impl_TimesOf.calls _ _ e0 _ _ d5 _ _ f3 _ _ e5 f9 f1 q0 _ (by refine (Kd.S_reads' (e := 25) (base := w.heap.size) (ok := fun k_ => (((some k_ ≠ (.slice e1 d5.length d8 : Value).ownBlock ∧ (some k_ ≠ (.slice f7 e8.length f5 : Value).ownBlock ∧ (some k_ ≠ (.slice e4 d0.length e2 : Value).ownBlock ∧ (some k_ ≠ (.slice g0 e9.length f8 : Value).ownBlock ∧ (some k_ ≠ (.slice e7 b8.length e6 : Value).ownBlock ∧ (some k_ ≠ (.slice g3 d9.length g1 : Value).ownBlock ∧ some k_ ≠ (.slice f6 d3.length f4 : Value).ownBlock)))))) ∧ some k_ ≠ (.slice h8 f3.length h5 : Value).ownBlock) ∧ some k_ ≠ (.slice h0 e5.length g8 : Value).ownBlock)) (n := e0.length) (c := f0) ?_).2.2; exact zj_46) (y2 a4.out) (by refine (Kd.Q_reads' (e := 3) (base := w.heap.size) (ok := fun k_ => ((some k_ ≠ (.slice e4 d0.length e2 : Value).ownBlock ∧ (some k_ ≠ (.slice e7 b8.length e6 : Value).ownBlock ∧ some k_ ≠ (.slice f6 d3.length f4 : Value).ownBlock)) ∧ some k_ ≠ (.slice h0 e5.length g8 : Value).ownBlock)) (n := d5.length) (c := d8) ?_).2.2; exact zj_24) (y2 a3.out) (by refine (Kd.S_reads' (e := 25) (base := w.heap.size) (ok := fun k_ => ((((((((some k_ ≠ (.slice h0 e5.length g8 : Value).ownBlock ∧ some k_ ≠ (.slice f2 e0.length f0 : Value).ownBlock) ∧ some k_ ≠ (.slice e1 d5.length d8 : Value).ownBlock) ∧ some k_ ≠ (.slice f7 e8.length f5 : Value).ownBlock) ∧ some k_ ≠ (.slice e4 d0.length e2 : Value).ownBlock) ∧ some k_ ≠ (.slice g0 e9.length f8 : Value).ownBlock) ∧ some k_ ≠ (.slice e7 b8.length e6 : Value).ownBlock) ∧ some k_ ≠ (.slice g3 d9.length g1 : Value).ownBlock) ∧ some k_ ≠ (.slice f6 d3.length f4 : Value).ownBlock)) (n := f3.length) (c := h5) ?_).2.2; exact zj_48) (y2 j3.out) (by refine (Kd.R_reads' (e := 3) (base := w.heap.size) (ok := fun k_ => ((((True ∧ some k_ ≠ (.slice e1 d5.length d8 : Value).ownBlock) ∧ some k_ ≠ (.slice e4 d0.length e2 : Value).ownBlock) ∧ some k_ ≠ (.slice e7 b8.length e6 : Value).ownBlock) ∧ some k_ ≠ (.slice f6 d3.length f4 : Value).ownBlock)) (n := e5.length) (c := g8) ?_).2.2; exact zj_31) (y2 j2.out) S9.out).mono ?_); rintro e w' ⟨O2, O3, rfl, ho0, ho1, hb⟩; refine ⟨_, rfl, ?_⟩; have k4 := ak (Kd.S_lower (Kd.S_new' (Kd.S_new' (Kd.S_new' (Kd.S_new' (Kd.S_new' (Kd.S_new' (Kd.S_new' (Kd.S_new' (Kd.S_new' (Kd.S_new' ho0 (Kd.S_lt zj_46)) (Kd.Q_lt zj_24)) (Kd.S_lt zj_67)) (Kd.Q_lt zj_47)) (Kd.S_lt zj_66)) (Kd.Q_lt zj_45)) (Kd.S_lt zj_65)) (Kd.Q_lt zj_44)) (Kd.S_lt zj_48)) (Kd.R_lt zj_31)) (below_size zj_6)); replace a4 := ak (Kd.S_mono (Kd.S_told (Kd.S_told (Kd.S_old zj_46 hb) (Kd.S_base ho0)) (Kd.R_base ho1)) (fun _ h_ => h_.1)); replace a9 := ak (Kd.S_mono (Kd.S_told (Kd.S_told (Kd.S_old zj_67 hb) (Kd.S_base ho0)) (Kd.R_base ho1)) (fun _ h_ => h_.1)); replace a2 := ak (Kd.S_mono (Kd.S_told (Kd.S_told (Kd.S_old zj_66 hb) (Kd.S_base ho0)) (Kd.R_base ho1)) (fun _ h_ => h_.1)); replace a7 := ak (Kd.S_mono (Kd.S_told (Kd.S_told (Kd.S_old zj_65 hb) (Kd.S_base ho0)) (Kd.R_base ho1)) (fun _ h_ => h_.1)); replace j3 := ak (Kd.S_mono (Kd.S_told (Kd.S_told (Kd.S_old zj_48 hb) (Kd.S_base ho0)) (Kd.R_base ho1)) (fun _ h_ => h_.1)); have k3 := ak (Kd.R_lower (Kd.R_new' (Kd.R_new' (Kd.R_new' (Kd.R_new' (Kd.R_new' ho1 (Kd.Q_lt zj_24)) (Kd.Q_lt zj_47)) (Kd.Q_lt zj_45)) (Kd.Q_lt zj_44)) (Kd.R_lt zj_31)) (below_size zj_6)); replace a3 := ak (Kd.Q_elder' zj_24 (Kd.R_base ho1) hb); replace a8 := ak (Kd.Q_elder' zj_47 (Kd.R_base ho1) hb); replace a1 := ak (Kd.Q_elder' zj_45 (Kd.R_base ho1) hb); replace a6 := ak (Kd.Q_elder' zj_44 (Kd.R_base ho1) hb); replace j2 := ak (Kd.R_elder' zj_31 (Kd.R_base ho1) hb); replace a5 := ak (blk_below (g := d6) (o := .cells #[.slice f2 e0.length f0, .slice e1 d5.length d8] 27 (0, 0)) (by (with_reducible repeat (first | refine blk_drewN ?_ _ | refine blk_drew ?_ | refine blk_alloc ?_ _)); refine blk_far ?_ i5.out _; (with_reducible repeat (first | refine blk_drewN ?_ _ | refine blk_drew ?_ | refine blk_alloc ?_ _)); refine blk_far ?_ i5.out _; (with_reducible repeat (first | refine blk_drewN ?_ _ | refine blk_drew ?_ | refine blk_alloc ?_ _)); exact a5.out) hb); replace b1 := ak (blk_below (g := d7) (o := .cells #[.slice f7 e8.length f5, .slice e4 d0.length e2] 27 (0, 0)) (by (with_reducible repeat (first | refine blk_drewN ?_ _ | refine blk_drew ?_ | refine blk_alloc ?_ _)); refine blk_far ?_ k6.out _; (with_reducible repeat (first | refine blk_drewN ?_ _ | refine blk_drew ?_ | refine blk_alloc ?_ _)); refine blk_far ?_ k6.out _; (with_reducible repeat (first | refine blk_drewN ?_ _ | refine blk_drew ?_ | refine blk_alloc ?_ _)); exact b1.out) hb); replace b0 := ak (blk_below (g := e3) (o := .cells #[.slice g0 e9.length f8, .slice e7 b8.length e6] 27 (0, 0)) (by (with_reducible repeat (first | refine blk_drewN ?_ _ | refine blk_drew ?_ | refine blk_alloc ?_ _)); refine blk_far ?_ i9.out _; (with_reducible repeat (first | refine blk_drewN ?_ _ | refine blk_drew ?_ | refine blk_alloc ?_ _)); refine blk_far ?_ i9.out _; (with_reducible repeat (first | refine blk_drewN ?_ _ | refine blk_drew ?_ | refine blk_alloc ?_ _)); exact b0.out) hb); replace b2 := ak (blk_below (g := d1) (o := .cells #[.slice g3 d9.length g1, .slice f6 d3.length f4] 27 (0, 0)) (by (with_reducible repeat (first | refine blk_drewN ?_ _ | refine blk_drew ?_ | refine blk_alloc ?_ _)); refine blk_far ?_ l8.out _; (with_reducible repeat (first | refine blk_drewN ?_ _ | refine blk_drew ?_ | refine blk_alloc ?_ _)); refine blk_far ?_ l8.out _; (with_reducible repeat (first | refine blk_drewN ?_ _ | refine blk_drew ?_ | refine blk_alloc ?_ _)); exact b2.out) hb); replace b9 := ak (blk_below (g := d4) (o := .cells #[.slice h8 f3.length h5, .slice h0 e5.length g8] 27 (0, 0)) (by (with_reducible repeat (first | refine blk_drewN ?_ _ | refine blk_drew ?_ | refine blk_alloc ?_ _)); refine blk_put (cs := #[.slice h8 f3.length h5, .slice none 0 0]) ?_ 1 _ rfl; (with_reducible repeat (first | refine blk_drewN ?_ _ | refine blk_drew ?_ | refine blk_alloc ?_ _)); refine blk_put (cs := #[.slice none 0 0, .slice none 0 0]) ?_ 0 _ rfl; (with_reducible repeat (first | refine blk_drewN ?_ _ | refine blk_drew ?_ | refine blk_alloc ?_ _)); exact b9.out) hb); replace HB := ak (below_step zj_6 hb); (try clear hb); (try clear hb2); (try clear hk); (try clear hi); (try clear ho0); (try clear ho1)) | ((with_reducible refine gate_dst (N := 11) rfl ?_); (try (refine gate_guard (by rfl) ?_; dsimp only)); refine box_event ?hg (N := 11) ?hd (cs := #[.slice none 0 0, .slice none 0 0]) (t := 27) ?hr ?_; (case hd => rfl); (case hg => rfl); (case hr => first | (go_simp; done) | (go_simp; rfl)); intro d2 hg U0 hbox hb; replace a4 := ak (Kd.S_below (xS a4.out) hb); replace a3 := ak (Kd.Q_below (xQ a3.out) hb); replace a9 := ak (Kd.S_below (xS a9.out) hb); replace a8 := ak (Kd.Q_below (xQ a8.out) hb); replace a2 := ak (Kd.S_below (xS a2.out) hb); replace a1 := ak (Kd.Q_below (xQ a1.out) hb); replace a7 := ak (Kd.S_below (xS a7.out) hb); replace a6 := ak (Kd.Q_below (xQ a6.out) hb); replace j3 := ak (Kd.S_below (xS j3.out) hb); replace j2 := ak (Kd.R_below (xR j2.out) hb); replace k4 := ak (Kd.S_below (xS k4.out) hb); replace k3 := ak (Kd.R_below (xR k3.out) hb); have b7 := ak (hbox); have s8 := ak ((by rw [hg]; exact (below_size zj_6) : w.heap.size ≤ d2)); have n8 := ak ((by rw [hg]; exact (below_size zj_6) : w.heap.size ≤ d2)); replace HB := ak (below_step zj_6 hb); have i3 := ak ((by rw [hg]; exact Nat.ne_of_lt (blk_lt (g := d6) (o := .cells #[.slice f2 e0.length f0, .slice e1 d5.length d8] 27 (0, 0)) (xb a5.out)) : d6 ≠ d2)); have j6 := ak ((by rw [hg]; exact Nat.ne_of_gt (blk_lt (g := d6) (o := .cells #[.slice f2 e0.length f0, .slice e1 d5.length d8] 27 (0, 0)) (xb a5.out)) : d2 ≠ d6)); replace a5 := ak (blk_below (g := d6) (o := .cells #[.slice f2 e0.length f0, .slice e1 d5.length d8] 27 (0, 0)) (xb a5.out) hb); have j4 := ak ((by rw [hg]; exact Nat.ne_of_lt (blk_lt (g := d7) (o := .cells #[.slice f7 e8.length f5, .slice e4 d0.length e2] 27 (0, 0)) (xb b1.out)) : d7 ≠ d2)); have k9 := ak ((by rw [hg]; exact Nat.ne_of_gt (blk_lt (g := d7) (o := .cells #[.slice f7 e8.length f5, .slice e4 d0.length e2] 27 (0, 0)) (xb b1.out)) : d2 ≠ d7)); replace b1 := ak (blk_below (g := d7) (o := .cells #[.slice f7 e8.length f5, .slice e4 d0.length e2] 27 (0, 0)) (xb b1.out) hb); have i4 := ak ((by rw [hg]; exact Nat.ne_of_lt (blk_lt (g := e3) (o := .cells #[.slice g0 e9.length f8, .slice e7 b8.length e6] 27 (0, 0)) (xb b0.out)) : e3 ≠ d2)); have j7 := ak ((by rw [hg]; exact Nat.ne_of_gt (blk_lt (g := e3) (o := .cells #[.slice g0 e9.length f8, .slice e7 b8.length e6] 27 (0, 0)) (xb b0.out)) : d2 ≠ e3)); replace b0 := ak (blk_below (g := e3) (o := .cells #[.slice g0 e9.length f8, .slice e7 b8.length e6] 27 (0, 0)) (xb b0.out) hb); have l1 := ak ((by rw [hg]; exact Nat.ne_of_lt (blk_lt (g := d1) (o := .cells #[.slice g3 d9.length g1, .slice f6 d3.length f4] 27 (0, 0)) (xb b2.out)) : d1 ≠ d2)); have m0 := ak ((by rw [hg]; exact Nat.ne_of_gt (blk_lt (g := d1) (o := .cells #[.slice g3 d9.length g1, .slice f6 d3.length f4] 27 (0, 0)) (xb b2.out)) : d2 ≠ d1)); replace b2 := ak (blk_below (g := d1) (o := .cells #[.slice g3 d9.length g1, .slice f6 d3.length f4] 27 (0, 0)) (xb b2.out) hb); have l2 := ak ((by rw [hg]; exact Nat.ne_of_lt (blk_lt (g := d4) (o := .cells #[.slice h8 f3.length h5, .slice h0 e5.length g8] 27 (0, 0)) (xb b9.out)) : d4 ≠ d2)); have m1 := ak ((by rw [hg]; exact Nat.ne_of_gt (blk_lt (g := d4) (o := .cells #[.slice h8 f3.length h5, .slice h0 e5.length g8] 27 (0, 0)) (xb b9.out)) : d2 ≠ d4)); replace b9 := ak (blk_below (g := d4) (o := .cells #[.slice h8 f3.length h5, .slice h0 e5.length g8] 27 (0, 0)) (xb b9.out) hb); clear hb hbox hg; obtain ⟨i1, i2, s9⟩ := Kd.S_slice k4.out; subst s9; have O4 := j6.out; have O5 := i3.out; have O6 := k9.out; have O7 := j4.out; have O8 := j7.out; have O9 := i4.out; have P0 := m0.out; have P1 := l1.out; have P2 := m1.out; have P3 := l2.out; have g4 := cz20 b7.out; have g5 := cz21 b7.out; have g6 := blk_frozen b7.out 0; have g7 := blk_frozen b7.out 1; obtain ⟨h3, h4, u0⟩ := Kd.R_slice k3.out; subst u0))
   (try simp only [Act.put, List.setIfInBounds_toArray, List.set_cons_zero, List.set_cons_succ])
   go_cut [71] (fun T0 wc => ∃ (kq : Nat) (m7 : Bool), T0 = .bool m7 ∧ Aside0 (laws_FnTimesOf.j1 kq n3 m7 e0 d5 e8 d0 e9 b8 = some r) ∧ Aside0 (kq ≤ o8) ∧ Aside0 (Kd.S (Kd.slice 3 (Kd.int .i64)) 25 wc w.heap.size (fun k_ => some k_ ≠ ((.slice e1 d5.length d8) : Value).ownBlock ∧ some k_ ≠ ((.slice f7 e8.length f5) : Value).ownBlock ∧ some k_ ≠ ((.slice e4 d0.length e2) : Value).ownBlock ∧ some k_ ≠ ((.slice g0 e9.length f8) : Value).ownBlock ∧ some k_ ≠ ((.slice e7 b8.length e6) : Value).ownBlock ∧ some k_ ≠ ((.slice g3 d9.length g1) : Value).ownBlock ∧ some k_ ≠ ((.slice f6 d3.length f4) : Value).ownBlock ∧ some k_ ≠ ((.slice h8 f3.length h5) : Value).ownBlock ∧ some k_ ≠ ((.slice h0 e5.length g8) : Value).ownBlock ∧ some k_ ≠ ((.slice i1 f9.length i2) : Value).ownBlock ∧ some k_ ≠ ((.slice h3 f1.length h4) : Value).ownBlock) (.slice f2 e0.length f0) e0) ∧ Aside0 (Kd.Q (Kd.int .i64) 3 wc w.heap.size (fun k_ => some k_ ≠ ((.slice e4 d0.length e2) : Value).ownBlock ∧ some k_ ≠ ((.slice e7 b8.length e6) : Value).ownBlock ∧ some k_ ≠ ((.slice f6 d3.length f4) : Value).ownBlock ∧ some k_ ≠ ((.slice h0 e5.length g8) : Value).ownBlock ∧ some k_ ≠ ((.slice h3 f1.length h4) : Value).ownBlock) (.slice e1 d5.length d8) d5) ∧ Aside0 (Kd.S (Kd.slice 3 (Kd.int .i64)) 25 wc w.heap.size (fun k_ => some k_ ≠ ((.slice f2 e0.length f0) : Value).ownBlock ∧ some k_ ≠ ((.slice e1 d5.length d8) : Value).ownBlock ∧ some k_ ≠ ((.slice e4 d0.length e2) : Value).ownBlock ∧ some k_ ≠ ((.slice g0 e9.length f8) : Value).ownBlock ∧ some k_ ≠ ((.slice e7 b8.length e6) : Value).ownBlock ∧ some k_ ≠ ((.slice g3 d9.length g1) : Value).ownBlock ∧ some k_ ≠ ((.slice f6 d3.length f4) : Value).ownBlock ∧ some k_ ≠ ((.slice h8 f3.length h5) : Value).ownBlock ∧ some k_ ≠ ((.slice h0 e5.length g8) : Value).ownBlock ∧ some k_ ≠ ((.slice i1 f9.length i2) : Value).ownBlock ∧ some k_ ≠ ((.slice h3 f1.length h4) : Value).ownBlock) (.slice f7 e8.length f5) e8) ∧ Aside0 (Kd.Q (Kd.int .i64) 3 wc w.heap.size (fun k_ => some k_ ≠ ((.slice e1 d5.length d8) : Value).ownBlock ∧ some k_ ≠ ((.slice e7 b8.length e6) : Value).ownBlock ∧ some k_ ≠ ((.slice f6 d3.length f4) : Value).ownBlock ∧ some k_ ≠ ((.slice h0 e5.length g8) : Value).ownBlock ∧ some k_ ≠ ((.slice h3 f1.length h4) : Value).ownBlock) (.slice e4 d0.length e2) d0) ∧ Aside0 (Kd.S (Kd.slice 3 (Kd.int .i64)) 25 wc w.heap.size (fun k_ => some k_ ≠ ((.slice f2 e0.length f0) : Value).ownBlock ∧ some k_ ≠ ((.slice e1 d5.length d8) : Value).ownBlock ∧ some k_ ≠ ((.slice f7 e8.length f5) : Value).ownBlock ∧ some k_ ≠ ((.slice e4 d0.length e2) : Value).ownBlock ∧ some k_ ≠ ((.slice e7 b8.length e6) : Value).ownBlock ∧ some k_ ≠ ((.slice g3 d9.length g1) : Value).ownBlock ∧ some k_ ≠ ((.slice f6 d3.length f4) : Value).ownBlock ∧ some k_ ≠ ((.slice h8 f3.length h5) : Value).ownBlock ∧ some k_ ≠ ((.slice h0 e5.length g8) : Value).ownBlock ∧ some k_ ≠ ((.slice i1 f9.length i2) : Value).ownBlock ∧ some k_ ≠ ((.slice h3 f1.length h4) : Value).ownBlock) (.slice g0 e9.length f8) e9) ∧ Aside0 (Kd.Q (Kd.int .i64) 3 wc w.heap.size (fun k_ => some k_ ≠ ((.slice e1 d5.length d8) : Value).ownBlock ∧ some k_ ≠ ((.slice e4 d0.length e2) : Value).ownBlock ∧ some k_ ≠ ((.slice f6 d3.length f4) : Value).ownBlock ∧ some k_ ≠ ((.slice h0 e5.length g8) : Value).ownBlock ∧ some k_ ≠ ((.slice h3 f1.length h4) : Value).ownBlock) (.slice e7 b8.length e6) b8) ∧ Aside0 (Kd.S (Kd.slice 3 (Kd.int .i64)) 25 wc w.heap.size (fun k_ => some k_ ≠ ((.slice f2 e0.length f0) : Value).ownBlock ∧ some k_ ≠ ((.slice e1 d5.length d8) : Value).ownBlock ∧ some k_ ≠ ((.slice f7 e8.length f5) : Value).ownBlock ∧ some k_ ≠ ((.slice e4 d0.length e2) : Value).ownBlock ∧ some k_ ≠ ((.slice g0 e9.length f8) : Value).ownBlock ∧ some k_ ≠ ((.slice e7 b8.length e6) : Value).ownBlock ∧ some k_ ≠ ((.slice f6 d3.length f4) : Value).ownBlock ∧ some k_ ≠ ((.slice h8 f3.length h5) : Value).ownBlock ∧ some k_ ≠ ((.slice h0 e5.length g8) : Value).ownBlock ∧ some k_ ≠ ((.slice i1 f9.length i2) : Value).ownBlock ∧ some k_ ≠ ((.slice h3 f1.length h4) : Value).ownBlock) (.slice g3 d9.length g1) d9) ∧ Aside0 (Kd.Q (Kd.int .i64) 3 wc w.heap.size (fun k_ => some k_ ≠ ((.slice e1 d5.length d8) : Value).ownBlock ∧ some k_ ≠ ((.slice e4 d0.length e2) : Value).ownBlock ∧ some k_ ≠ ((.slice e7 b8.length e6) : Value).ownBlock ∧ some k_ ≠ ((.slice h0 e5.length g8) : Value).ownBlock ∧ some k_ ≠ ((.slice h3 f1.length h4) : Value).ownBlock) (.slice f6 d3.length f4) d3) ∧ Aside0 (Kd.S (Kd.slice 3 (Kd.int .i64)) 25 wc w.heap.size (fun k_ => some k_ ≠ ((.slice f2 e0.length f0) : Value).ownBlock ∧ some k_ ≠ ((.slice e1 d5.length d8) : Value).ownBlock ∧ some k_ ≠ ((.slice f7 e8.length f5) : Value).ownBlock ∧ some k_ ≠ ((.slice e4 d0.length e2) : Value).ownBlock ∧ some k_ ≠ ((.slice g0 e9.length f8) : Value).ownBlock ∧ some k_ ≠ ((.slice e7 b8.length e6) : Value).ownBlock ∧ some k_ ≠ ((.slice g3 d9.length g1) : Value).ownBlock ∧ some k_ ≠ ((.slice f6 d3.length f4) : Value).ownBlock ∧ some k_ ≠ ((.slice h0 e5.length g8) : Value).ownBlock ∧ some k_ ≠ ((.slice i1 f9.length i2) : Value).ownBlock ∧ some k_ ≠ ((.slice h3 f1.length h4) : Value).ownBlock) (.slice h8 f3.length h5) f3) ∧ Aside0 (Kd.Q (Kd.int .i64) 3 wc w.heap.size (fun k_ => some k_ ≠ ((.slice e1 d5.length d8) : Value).ownBlock ∧ some k_ ≠ ((.slice e4 d0.length e2) : Value).ownBlock ∧ some k_ ≠ ((.slice e7 b8.length e6) : Value).ownBlock ∧ some k_ ≠ ((.slice f6 d3.length f4) : Value).ownBlock ∧ some k_ ≠ ((.slice h3 f1.length h4) : Value).ownBlock) (.slice h0 e5.length g8) e5) ∧ Aside0 (Kd.S (Kd.slice 3 (Kd.int .i64)) 25 wc w.heap.size (fun k_ => some k_ ≠ ((.slice f2 e0.length f0) : Value).ownBlock ∧ some k_ ≠ ((.slice e1 d5.length d8) : Value).ownBlock ∧ some k_ ≠ ((.slice f7 e8.length f5) : Value).ownBlock ∧ some k_ ≠ ((.slice e4 d0.length e2) : Value).ownBlock ∧ some k_ ≠ ((.slice g0 e9.length f8) : Value).ownBlock ∧ some k_ ≠ ((.slice e7 b8.length e6) : Value).ownBlock ∧ some k_ ≠ ((.slice g3 d9.length g1) : Value).ownBlock ∧ some k_ ≠ ((.slice f6 d3.length f4) : Value).ownBlock ∧ some k_ ≠ ((.slice h8 f3.length h5) : Value).ownBlock ∧ some k_ ≠ ((.slice h0 e5.length g8) : Value).ownBlock ∧ some k_ ≠ ((.slice h3 f1.length h4) : Value).ownBlock) (.slice i1 f9.length i2) f9) ∧ Aside0 (Kd.Q (Kd.int .i64) 3 wc w.heap.size (fun k_ => some k_ ≠ ((.slice e1 d5.length d8) : Value).ownBlock ∧ some k_ ≠ ((.slice e4 d0.length e2) : Value).ownBlock ∧ some k_ ≠ ((.slice e7 b8.length e6) : Value).ownBlock ∧ some k_ ≠ ((.slice f6 d3.length f4) : Value).ownBlock ∧ some k_ ≠ ((.slice h0 e5.length g8) : Value).ownBlock) (.slice h3 f1.length h4) f1) ∧ Aside0 (wc.heap[d6]? = some (.cells #[(.slice f2 e0.length f0), (.slice e1 d5.length d8)] 27 (0, 0))) ∧ Aside0 (wc.heap[d7]? = some (.cells #[(.slice f7 e8.length f5), (.slice e4 d0.length e2)] 27 (0, 0))) ∧ Aside0 (wc.heap[e3]? = some (.cells #[(.slice g0 e9.length f8), (.slice e7 b8.length e6)] 27 (0, 0))) ∧ Aside0 (wc.heap[d1]? = some (.cells #[(.slice g3 d9.length g1), (.slice f6 d3.length f4)] 27 (0, 0))) ∧ Aside0 (wc.heap[d4]? = some (.cells #[(.slice h8 f3.length h5), (.slice h0 e5.length g8)] 27 (0, 0))) ∧ Aside0 (wc.heap[d2]? = some (.cells #[(.slice i1 f9.length i2), (.slice h3 f1.length h4)] 27 (0, 0))) ∧ Aside0 (Below w.heap.size w wc))
   case first =>
    have H := o1.out
    clear o1
    replace H := bd_ H
    obtain ⟨P4, q4, H⟩ := H
    try dsimp only at H
    replace H := ox_ H
    rcases H with ⟨rfl, H⟩ | ⟨rfl, H⟩
    ·
     replace H := ox_ H
     rcases H with ⟨rfl, H⟩ | ⟨rfl, H⟩
     ·
      replace H := ox_ H
      rcases H with ⟨rfl, H⟩ | ⟨rfl, H⟩
      ·
       replace H := bd_ H
       obtain ⟨n7, T1, H⟩ := H
       try dsimp only at H
       have H' := ak H
       clear H
       have P5 := h9.out
       have P6 := i0.out
       have P7 := g2.out
       have P8 := h2.out
       have P9 := g9.out
       have Q0 := h7.out
       have Q1 := i5.out
       have Q2 := j5.out
       have Q3 := i3.out
       have Q4 := j6.out
       have g4 := cz20 a5.out
       have g5 := cz21 a5.out
       have g6 := blk_frozen a5.out 0
       have g7 := blk_frozen a5.out 1
       go_wp2_with (first | ((with_reducible refine gate_callee (f := 30) rfl ?_); refine gl_ (some 57) Try.func30 #[.agg #[.slice f2 e0.length f0, .slice e1 d5.length d8]] ?_; (with_reducible refine (spec_LogicOk.calls o8 _ _ e0 _ _ d5 true _ zj_1 (y2 a4.out) zj_8 (y2 a3.out) q4.out).mono ?_); rintro e w' ⟨rfl, hb⟩; refine ⟨_, rfl, ?_⟩; replace a4 := ak (Kd.S_below zj_22 hb); replace a3 := ak (Kd.Q_below zj_3 hb); replace a9 := ak (Kd.S_below zj_21 hb); replace a8 := ak (Kd.Q_below zj_23 hb); replace a2 := ak (Kd.S_below zj_18 hb); replace a1 := ak (Kd.Q_below zj_20 hb); replace a7 := ak (Kd.S_below zj_17 hb); replace a6 := ak (Kd.Q_below zj_19 hb); replace j3 := ak (Kd.S_below zj_27 hb); replace j2 := ak (Kd.R_below zj_30 hb); replace k4 := ak (Kd.S_below zj_26 hb); replace k3 := ak (Kd.R_below zj_29 hb); replace a5 := ak (blk_below (g := d6) (o := .cells #[.slice f2 e0.length f0, .slice e1 d5.length d8] 27 (0, 0)) zj_13 hb); replace b1 := ak (blk_below (g := d7) (o := .cells #[.slice f7 e8.length f5, .slice e4 d0.length e2] 27 (0, 0)) zj_12 hb); replace b0 := ak (blk_below (g := e3) (o := .cells #[.slice g0 e9.length f8, .slice e7 b8.length e6] 27 (0, 0)) zj_11 hb); replace b2 := ak (blk_below (g := d1) (o := .cells #[.slice g3 d9.length g1, .slice f6 d3.length f4] 27 (0, 0)) zj_10 hb); replace b9 := ak (blk_below (g := d4) (o := .cells #[.slice h8 f3.length h5, .slice h0 e5.length g8] 27 (0, 0)) zj_9 hb); replace b7 := ak (blk_below (g := d2) (o := .cells #[.slice i1 f9.length i2, .slice h3 f1.length h4] 27 (0, 0)) zj_7 hb); replace HB := ak (below_step zj_0 hb); (try clear hb); (try clear hb2); (try clear hk); (try clear hi); have Q5 := k9.out; have Q6 := j4.out; have Q7 := j7.out; have Q8 := i4.out; have Q9 := m0.out; have R0 := l1.out; have R1 := m1.out; have R2 := l2.out; have g4 := cz20 b7.out; have g5 := cz21 b7.out; have g6 := blk_frozen b7.out 0; have g7 := blk_frozen b7.out 1; have g4 := cz20 a5.out; have g5 := cz21 a5.out; have g6 := blk_frozen a5.out 0; have g7 := blk_frozen a5.out 1) | (go_at_call 17; (with_reducible refine (laws_sameLogic.calls o8 _ _ f9 _ _ f1 _ _ e0 _ _ d5 n7 _ (y1 k4.out) (y2 k4.out) (y1 k3.out) (y2 k3.out) (y1 a4.out) (y2 a4.out) (y1 a3.out) (y2 a3.out) T1.out).mono ?_); rintro e w' ⟨rfl, hb⟩; replace a4 := ak (Kd.S_below (xS a4.out) hb); replace a3 := ak (Kd.Q_below (xQ a3.out) hb); replace a9 := ak (Kd.S_below (xS a9.out) hb); replace a8 := ak (Kd.Q_below (xQ a8.out) hb); replace a2 := ak (Kd.S_below (xS a2.out) hb); replace a1 := ak (Kd.Q_below (xQ a1.out) hb); replace a7 := ak (Kd.S_below (xS a7.out) hb); replace a6 := ak (Kd.Q_below (xQ a6.out) hb); replace j3 := ak (Kd.S_below (xS j3.out) hb); replace j2 := ak (Kd.R_below (xR j2.out) hb); replace k4 := ak (Kd.S_below (xS k4.out) hb); replace k3 := ak (Kd.R_below (xR k3.out) hb); replace a5 := ak (blk_below (g := d6) (o := .cells #[.slice f2 e0.length f0, .slice e1 d5.length d8] 27 (0, 0)) (xb a5.out) hb); replace b1 := ak (blk_below (g := d7) (o := .cells #[.slice f7 e8.length f5, .slice e4 d0.length e2] 27 (0, 0)) (xb b1.out) hb); replace b0 := ak (blk_below (g := e3) (o := .cells #[.slice g0 e9.length f8, .slice e7 b8.length e6] 27 (0, 0)) (xb b0.out) hb); replace b2 := ak (blk_below (g := d1) (o := .cells #[.slice g3 d9.length g1, .slice f6 d3.length f4] 27 (0, 0)) (xb b2.out) hb); replace b9 := ak (blk_below (g := d4) (o := .cells #[.slice h8 f3.length h5, .slice h0 e5.length g8] 27 (0, 0)) (xb b9.out) hb); replace b7 := ak (blk_below (g := d2) (o := .cells #[.slice i1 f9.length i2, .slice h3 f1.length h4] 27 (0, 0)) (xb b7.out) hb); replace HB := ak (below_step zj_0 hb); (try clear hb); (try clear hb2); (try clear hk); (try clear hi)))
       go_meet
       case rel => exact ⟨_, (!n7), zj_80, H', ⟨zj_85⟩, ⟨zj_41⟩, ⟨zj_56⟩, ⟨zj_40⟩, ⟨zj_55⟩, ⟨zj_38⟩, ⟨zj_54⟩, ⟨zj_37⟩, ⟨zj_53⟩, ⟨zj_43⟩, ⟨Kd.Q_of_R zj_58⟩, ⟨zj_42⟩, ⟨Kd.Q_of_R zj_57⟩, ⟨(xb a5.out)⟩, ⟨(xb b1.out)⟩, ⟨(xb b0.out)⟩, ⟨(xb b2.out)⟩, ⟨(xb b9.out)⟩, ⟨(xb b7.out)⟩, ⟨zj_0⟩⟩
      have H' := ak H
      clear H
      have R3 := h9.out
      have R4 := i0.out
      have R5 := g2.out
      have R6 := h2.out
      have u1 := g9.out
      have u2 := h7.out
      have u3 := i5.out
      have u4 := j5.out
      have u5 := i3.out
      have u6 := j6.out
      have g4 := cz20 a5.out
      have g5 := cz21 a5.out
      have g6 := blk_frozen a5.out 0
      have g7 := blk_frozen a5.out 1
      go_wp2_with (first | ((with_reducible refine gate_callee (f := 30) rfl ?_); refine gl_ (some 57) Try.func30 #[.agg #[.slice f2 e0.length f0, .slice e1 d5.length d8]] ?_; (with_reducible refine (spec_LogicOk.calls o8 _ _ e0 _ _ d5 true _ zj_1 (y2 a4.out) zj_8 (y2 a3.out) q4.out).mono ?_); rintro e w' ⟨rfl, hb⟩; refine ⟨_, rfl, ?_⟩; replace a4 := ak (Kd.S_below zj_22 hb); replace a3 := ak (Kd.Q_below zj_3 hb); replace a9 := ak (Kd.S_below zj_21 hb); replace a8 := ak (Kd.Q_below zj_23 hb); replace a2 := ak (Kd.S_below zj_18 hb); replace a1 := ak (Kd.Q_below zj_20 hb); replace a7 := ak (Kd.S_below zj_17 hb); replace a6 := ak (Kd.Q_below zj_19 hb); replace j3 := ak (Kd.S_below zj_27 hb); replace j2 := ak (Kd.R_below zj_30 hb); replace k4 := ak (Kd.S_below zj_26 hb); replace k3 := ak (Kd.R_below zj_29 hb); replace a5 := ak (blk_below (g := d6) (o := .cells #[.slice f2 e0.length f0, .slice e1 d5.length d8] 27 (0, 0)) zj_13 hb); replace b1 := ak (blk_below (g := d7) (o := .cells #[.slice f7 e8.length f5, .slice e4 d0.length e2] 27 (0, 0)) zj_12 hb); replace b0 := ak (blk_below (g := e3) (o := .cells #[.slice g0 e9.length f8, .slice e7 b8.length e6] 27 (0, 0)) zj_11 hb); replace b2 := ak (blk_below (g := d1) (o := .cells #[.slice g3 d9.length g1, .slice f6 d3.length f4] 27 (0, 0)) zj_10 hb); replace b9 := ak (blk_below (g := d4) (o := .cells #[.slice h8 f3.length h5, .slice h0 e5.length g8] 27 (0, 0)) zj_9 hb); replace b7 := ak (blk_below (g := d2) (o := .cells #[.slice i1 f9.length i2, .slice h3 f1.length h4] 27 (0, 0)) zj_7 hb); replace HB := ak (below_step zj_0 hb); (try clear hb); (try clear hb2); (try clear hk); (try clear hi)))
      go_meet
      case rel => exact ⟨_, (true), zj_80, H', ⟨zj_85⟩, ⟨zj_41⟩, ⟨zj_56⟩, ⟨zj_40⟩, ⟨zj_55⟩, ⟨zj_38⟩, ⟨zj_54⟩, ⟨zj_37⟩, ⟨zj_53⟩, ⟨zj_43⟩, ⟨Kd.Q_of_R zj_58⟩, ⟨zj_42⟩, ⟨Kd.Q_of_R zj_57⟩, ⟨(xb a5.out)⟩, ⟨(xb b1.out)⟩, ⟨(xb b0.out)⟩, ⟨(xb b2.out)⟩, ⟨(xb b9.out)⟩, ⟨(xb b7.out)⟩, ⟨zj_0⟩⟩
     have H' := ak H
     clear H
     have u7 := h9.out
     have u9 := i0.out
     have v0 := g2.out
     have v1 := h2.out
     have v2 := g9.out
     have v3 := h7.out
     have v4 := i5.out
     have v5 := j5.out
     have v6 := i3.out
     have v7 := j6.out
     have g4 := cz20 a5.out
     have g5 := cz21 a5.out
     have g6 := blk_frozen a5.out 0
     have g7 := blk_frozen a5.out 1
     go_wp2_with (first | ((with_reducible refine gate_callee (f := 30) rfl ?_); refine gl_ (some 57) Try.func30 #[.agg #[.slice f2 e0.length f0, .slice e1 d5.length d8]] ?_; (with_reducible refine (spec_LogicOk.calls o8 _ _ e0 _ _ d5 true _ zj_1 (y2 a4.out) zj_8 (y2 a3.out) q4.out).mono ?_); rintro e w' ⟨rfl, hb⟩; refine ⟨_, rfl, ?_⟩; replace a4 := ak (Kd.S_below zj_22 hb); replace a3 := ak (Kd.Q_below zj_3 hb); replace a9 := ak (Kd.S_below zj_21 hb); replace a8 := ak (Kd.Q_below zj_23 hb); replace a2 := ak (Kd.S_below zj_18 hb); replace a1 := ak (Kd.Q_below zj_20 hb); replace a7 := ak (Kd.S_below zj_17 hb); replace a6 := ak (Kd.Q_below zj_19 hb); replace j3 := ak (Kd.S_below zj_27 hb); replace j2 := ak (Kd.R_below zj_30 hb); replace k4 := ak (Kd.S_below zj_26 hb); replace k3 := ak (Kd.R_below zj_29 hb); replace a5 := ak (blk_below (g := d6) (o := .cells #[.slice f2 e0.length f0, .slice e1 d5.length d8] 27 (0, 0)) zj_13 hb); replace b1 := ak (blk_below (g := d7) (o := .cells #[.slice f7 e8.length f5, .slice e4 d0.length e2] 27 (0, 0)) zj_12 hb); replace b0 := ak (blk_below (g := e3) (o := .cells #[.slice g0 e9.length f8, .slice e7 b8.length e6] 27 (0, 0)) zj_11 hb); replace b2 := ak (blk_below (g := d1) (o := .cells #[.slice g3 d9.length g1, .slice f6 d3.length f4] 27 (0, 0)) zj_10 hb); replace b9 := ak (blk_below (g := d4) (o := .cells #[.slice h8 f3.length h5, .slice h0 e5.length g8] 27 (0, 0)) zj_9 hb); replace b7 := ak (blk_below (g := d2) (o := .cells #[.slice i1 f9.length i2, .slice h3 f1.length h4] 27 (0, 0)) zj_7 hb); replace HB := ak (below_step zj_0 hb); (try clear hb); (try clear hb2); (try clear hk); (try clear hi)))
     go_meet
     case rel => exact ⟨_, (true), zj_80, H', ⟨zj_85⟩, ⟨zj_41⟩, ⟨zj_56⟩, ⟨zj_40⟩, ⟨zj_55⟩, ⟨zj_38⟩, ⟨zj_54⟩, ⟨zj_37⟩, ⟨zj_53⟩, ⟨zj_43⟩, ⟨Kd.Q_of_R zj_58⟩, ⟨zj_42⟩, ⟨Kd.Q_of_R zj_57⟩, ⟨(xb a5.out)⟩, ⟨(xb b1.out)⟩, ⟨(xb b0.out)⟩, ⟨(xb b2.out)⟩, ⟨(xb b9.out)⟩, ⟨(xb b7.out)⟩, ⟨zj_0⟩⟩
    have H' := ak H
    clear H
    have v8 := h9.out
    have v9 := i0.out
    have x0 := g2.out
    have x1 := h2.out
    have x2 := g9.out
    have x3 := h7.out
    have x4 := i5.out
    have x5 := j5.out
    have x6 := i3.out
    have x7 := j6.out
    have g4 := cz20 a5.out
    have g5 := cz21 a5.out
    have g6 := blk_frozen a5.out 0
    have g7 := blk_frozen a5.out 1
    go_wp2_with (first | ((with_reducible refine gate_callee (f := 30) rfl ?_); refine gl_ (some 57) Try.func30 #[.agg #[.slice f2 e0.length f0, .slice e1 d5.length d8]] ?_; (with_reducible refine (spec_LogicOk.calls o8 _ _ e0 _ _ d5 false _ zj_1 (y2 a4.out) zj_8 (y2 a3.out) q4.out).mono ?_); rintro e w' ⟨rfl, hb⟩; refine ⟨_, rfl, ?_⟩; replace a4 := ak (Kd.S_below zj_22 hb); replace a3 := ak (Kd.Q_below zj_3 hb); replace a9 := ak (Kd.S_below zj_21 hb); replace a8 := ak (Kd.Q_below zj_23 hb); replace a2 := ak (Kd.S_below zj_18 hb); replace a1 := ak (Kd.Q_below zj_20 hb); replace a7 := ak (Kd.S_below zj_17 hb); replace a6 := ak (Kd.Q_below zj_19 hb); replace j3 := ak (Kd.S_below zj_27 hb); replace j2 := ak (Kd.R_below zj_30 hb); replace k4 := ak (Kd.S_below zj_26 hb); replace k3 := ak (Kd.R_below zj_29 hb); replace a5 := ak (blk_below (g := d6) (o := .cells #[.slice f2 e0.length f0, .slice e1 d5.length d8] 27 (0, 0)) zj_13 hb); replace b1 := ak (blk_below (g := d7) (o := .cells #[.slice f7 e8.length f5, .slice e4 d0.length e2] 27 (0, 0)) zj_12 hb); replace b0 := ak (blk_below (g := e3) (o := .cells #[.slice g0 e9.length f8, .slice e7 b8.length e6] 27 (0, 0)) zj_11 hb); replace b2 := ak (blk_below (g := d1) (o := .cells #[.slice g3 d9.length g1, .slice f6 d3.length f4] 27 (0, 0)) zj_10 hb); replace b9 := ak (blk_below (g := d4) (o := .cells #[.slice h8 f3.length h5, .slice h0 e5.length g8] 27 (0, 0)) zj_9 hb); replace b7 := ak (blk_below (g := d2) (o := .cells #[.slice i1 f9.length i2, .slice h3 f1.length h4] 27 (0, 0)) zj_7 hb); replace HB := ak (below_step zj_0 hb); (try clear hb); (try clear hb2); (try clear hk); (try clear hi)))
    go_meet
    case rel => exact ⟨_, (false), zj_80, H', ⟨zj_85⟩, ⟨zj_41⟩, ⟨zj_56⟩, ⟨zj_40⟩, ⟨zj_55⟩, ⟨zj_38⟩, ⟨zj_54⟩, ⟨zj_37⟩, ⟨zj_53⟩, ⟨zj_43⟩, ⟨Kd.Q_of_R zj_58⟩, ⟨zj_42⟩, ⟨Kd.Q_of_R zj_57⟩, ⟨(xb a5.out)⟩, ⟨(xb b1.out)⟩, ⟨(xb b0.out)⟩, ⟨(xb b2.out)⟩, ⟨(xb b9.out)⟩, ⟨(xb b7.out)⟩, ⟨zj_0⟩⟩
   case rest =>
    clear o1
    try clear c2
    try clear n9
    try clear o0
    try clear U1
    try clear g4
    try clear g5
    try clear g6
    try clear g7
    obtain ⟨kq, m7, rfl, HA, T2, a4, a3, a9, a8, a2, a1, a7, a6, b3, b4, b5, b6, a5, b1, b0, b2, b9, b7, HB⟩ := hcut
    cases kq with
    | zero => exact absurd HA.out (by simp [laws_FnTimesOf.j1])
    | succ o2 =>
     have H := HA.out
     clear HA
     simp only [laws_FnTimesOf.j1] at H
     replace H := ox_ H
     rcases H with ⟨rfl, H⟩ | ⟨rfl, H⟩
     ·
      obtain rfl := Option.some.inj H
      go_wp2
      go_ret
      exact ⟨zj_52, zj_0⟩
     replace H := ox_ H
     rcases H with ⟨rfl, H⟩ | ⟨rfl, H⟩
     ·
      replace H := op_ H
      rcases H with ⟨n4, H⟩ | ⟨n4, H⟩
      ·
       exact absurd H (by simp)
      have x8 := bv_ n4
      have x9 := bw_ n4
      have y3 : ¬ (d0 = []) := fun h_ => n4 (by rw [h_]; rfl)
      replace H := bd_ H
      obtain ⟨n1, o3, H⟩ := H
      replace H := bd_ H
      obtain ⟨n2, o4, H⟩ := H
      replace H := bd_ H
      obtain ⟨R7, o5, H⟩ := H
      try dsimp only at H
      replace H := ox_ H
      rcases H with ⟨rfl, H⟩ | ⟨rfl, H⟩
      ·
       replace H := oe2 H
       rcases H with ⟨⟨-, o6, o7⟩, H⟩ | ⟨⟨T3, o6, o7⟩, H⟩
       ·
        replace H := bd_ H
        obtain ⟨q1, y5, H⟩ := H
        try dsimp only at H
        obtain rfl := Option.some.inj H
        have y6 := i0.out
        have y7 := h9.out
        have y8 := i6.out
        have y9 := j8.out
        have z1 := i7.out
        have z2 := k5.out
        have z3 := k6.out
        have z4 := l7.out
        have z5 := j4.out
        have z6 := k9.out
        have g4 := cz20 b1.out
        have g5 := cz21 b1.out
        have g6 := blk_frozen b1.out 0
        have g7 := blk_frozen b1.out 1
        have z7 := h2.out
        have z8 := g2.out
        have z9 := h6.out
        have A1 := i8.out
        have A2 := i9.out
        have A6 := k7.out
        have A7 := i4.out
        have A8 := j7.out
        have g4 := cz20 b0.out
        have g5 := cz21 b0.out
        have g6 := blk_frozen b0.out 0
        have g7 := blk_frozen b0.out 1
        try go_wp2
        replace a4 := ak (Kd.S_drew a4.out)
        replace a3 := ak (Kd.Q_drew a3.out)
        replace a9 := ak (Kd.S_drew a9.out)
        replace a8 := ak (Kd.Q_drew a8.out)
        replace a2 := ak (Kd.S_drew a2.out)
        replace a1 := ak (Kd.Q_drew a1.out)
        replace a7 := ak (Kd.S_drew a7.out)
        replace a6 := ak (Kd.Q_drew a6.out)
        replace b3 := ak (Kd.S_drew b3.out)
        replace b4 := ak (Kd.Q_drew b4.out)
        replace b5 := ak (Kd.S_drew b5.out)
        replace b6 := ak (Kd.Q_drew b6.out)
        replace a5 := ak (blk_drew a5.out)
        replace b1 := ak (blk_drew b1.out)
        replace b0 := ak (blk_drew b0.out)
        replace b2 := ak (blk_drew b2.out)
        replace b9 := ak (blk_drew b9.out)
        replace b7 := ak (blk_drew b7.out)
        replace HB := ak (below_drew1 HB.out)
        refine start_ (n := 20) (S := fun w' => w'.cell? ⟨d6, 0, none⟩ = some (.slice f2 e0.length f0) ∧ w'.cell? ⟨d6, 1, none⟩ = some (.slice e1 d5.length d8) ∧ w'.cell? ⟨d7, 0, none⟩ = some (.slice f7 e8.length f5) ∧ w'.cell? ⟨d7, 1, none⟩ = some (.slice e4 d0.length e2)) (ds := []) (bA 20 0) (by kernel_rfl) rfl rfl ⟨(blk_cell a5.out 0).trans rfl, (blk_cell a5.out 1).trans rfl, (blk_cell b1.out 0).trans rfl, (blk_cell b1.out 1).trans rfl⟩ (fun hHeld => ?_); refine with_tabW laws_FnTimesOf.tab17 laws_FnTimesOf.bits17 (fun HT_ HW_ => ?_)
        generalize wc.drew = T4 at a4 a3 a9 a8 a2 a1 a7 a6 b3 b4 b5 b6 a5 b1 b0 b2 b9 b7 HB hHeld ⊢
        refine pu_ (i := 1) (N := some 94) (bA 20 2) ?_
        refine pu_ (i := 2) (N := some 95) (bA 20 6) ?_
        refine pu_ (i := 3) (N := some 96) (bA 20 14) ?_
        refine pu_ (i := 4) (N := some 97) (bA 20 30) ?_
        refine pu_ (i := 5) (N := some 98) (bA 20 62) ?_
        refine pu_ (i := 6) (N := some 99) (bA 20 126) ?_
        refine pu_ (i := 8) (N := some 101) (bA 20 382) ?_
        refine pu_ (i := 11) (N := some 104) (bA 20 2430) ?_
        refine pu_ (i := 12) (N := some 105) (bA 20 6526) ?_
        refine pu_ (i := 13) (N := some 106) (bA 20 14718) ?_
        refine pu_ (i := 14) (N := some 107) (bA 20 31102) ?_
        refine pu_ (i := 15) (N := some 108) (bA 20 63870) ?_
        refine pu_ (i := 16) (N := some 109) (bA 20 129406) ?_
        refine tk_ (i := 0) (N := some 93) (bA 20 129407) ?_
        refine tk_ (i := 10) (N := some 103) (bA 20 130431) ?_
        refine one_ (i := 7) (N := some 100) (bA 20 130559) rfl rfl (one_of HT_.out (by kernel_rfl)) (by decide) (fun K hK => ?_)
        refine ge_ Try.func47 #[.agg #[.slice f2 e0.length f0, .slice e1 d5.length d8], .int .i64 (wrap64 (Int.tdiv (wrap64 ((b8.length : Int) / 2)) (d0.length : Int))), .int .i64 (wrap64 (Int.tdiv (wrap64 ((wrap64 ((b8.length : Int) - 1)) - (wrap64 (Int.tdiv (wrap64 ((b8.length : Int) / 2)) 2)))) (d0.length : Int)))] ?_
        with_reducible refine (impl_AndOf.calls _ _ e0 _ _ d5 (wrap64 (Int.tdiv (wrap64 ((b8.length : Int) / 2)) (d0.length : Int))) (wrap64 (Int.tdiv (wrap64 ((wrap64 ((b8.length : Int) - 1)) - (wrap64 (Int.tdiv (wrap64 ((b8.length : Int) / 2)) 2)))) (d0.length : Int))) n1 _ ?side1 ?side2 ?side3 ?side4 o3.out).mono ?_
        (case side1 => repeat (first | exact (Kd.S_reads' a4.out).2.2 | (with_reducible refine Kd.C_alloc ?_ _) | (with_reducible refine Kd.C_drewN ?_ _) | (with_reducible refine Kd.C_drew ?_)))
        (case side2 => exact (Kd.S_reads' a4.out).2.1)
        (case side3 => repeat (first | exact (Kd.Q_reads' a3.out).2.2 | (with_reducible refine Kd.C_alloc ?_ _) | (with_reducible refine Kd.C_drewN ?_ _) | (with_reducible refine Kd.C_drew ?_)))
        (case side4 => exact (Kd.Q_reads' a3.out).2.1)
        rintro e w' ⟨rfl, hb⟩
        refine ⟨_, rfl, ?_⟩
        replace a4 := ak (Kd.S_below (xS a4.out) hb)
        replace a3 := ak (Kd.Q_below (xQ a3.out) hb)
        replace a9 := ak (Kd.S_below (xS a9.out) hb)
        replace a8 := ak (Kd.Q_below (xQ a8.out) hb)
        replace a2 := ak (Kd.S_below (xS a2.out) hb)
        replace a1 := ak (Kd.Q_below (xQ a1.out) hb)
        replace a7 := ak (Kd.S_below (xS a7.out) hb)
        replace a6 := ak (Kd.Q_below (xQ a6.out) hb)
        replace b3 := ak (Kd.S_below (xS b3.out) hb)
        replace b4 := ak (Kd.Q_below (xQ b4.out) hb)
        replace b5 := ak (Kd.S_below (xS b5.out) hb)
        replace b6 := ak (Kd.Q_below (xQ b6.out) hb)
        replace a5 := ak (blk_below (g := d6) (o := .cells #[.slice f2 e0.length f0, .slice e1 d5.length d8] 27 (0, 0)) (xb a5.out) hb)
        replace b1 := ak (blk_below (g := d7) (o := .cells #[.slice f7 e8.length f5, .slice e4 d0.length e2] 27 (0, 0)) (xb b1.out) hb)
        replace b0 := ak (blk_below (g := e3) (o := .cells #[.slice g0 e9.length f8, .slice e7 b8.length e6] 27 (0, 0)) (xb b0.out) hb)
        replace b2 := ak (blk_below (g := d1) (o := .cells #[.slice g3 d9.length g1, .slice f6 d3.length f4] 27 (0, 0)) (xb b2.out) hb)
        replace b9 := ak (blk_below (g := d4) (o := .cells #[.slice h8 f3.length h5, .slice h0 e5.length g8] 27 (0, 0)) (xb b9.out) hb)
        replace b7 := ak (blk_below (g := d2) (o := .cells #[.slice i1 f9.length i2, .slice h3 f1.length h4] 27 (0, 0)) (xb b7.out) hb)
        replace HB := ak (below_step zj_0 hb)
        (try clear hb)
        (try clear hb2)
        (try clear hk)
        (try clear hi)
        refine hK.out _ _ ⟨(blk_cell a5.out 0).trans rfl, (blk_cell a5.out 1).trans rfl, (blk_cell b1.out 0).trans rfl, (blk_cell b1.out 1).trans rfl⟩ (fun hHeld => ?_)
        clear hK K
        refine no_ (N := some 100) ?_
        refine pu_ (i := 9) (N := some 102) (bA 20 131071) ?_
        refine one_ (i := 17) (N := some 110) (bA 20 262143) rfl rfl (one_of HT_.out (by kernel_rfl)) (by decide) (fun K hK => ?_)
        refine ge_ Try.func47 #[.agg #[.slice f7 e8.length f5, .slice e4 d0.length e2], .int .i64 (Int.tmod (wrap64 ((b8.length : Int) / 2)) (d0.length : Int)), .int .i64 (Int.tmod (wrap64 ((wrap64 ((b8.length : Int) - 1)) - (wrap64 (Int.tdiv (wrap64 ((b8.length : Int) / 2)) 2)))) (d0.length : Int))] ?_
        with_reducible refine (impl_AndOf.calls _ _ e8 _ _ d0 (Int.tmod (wrap64 ((b8.length : Int) / 2)) (d0.length : Int)) (Int.tmod (wrap64 ((wrap64 ((b8.length : Int) - 1)) - (wrap64 (Int.tdiv (wrap64 ((b8.length : Int) / 2)) 2)))) (d0.length : Int)) n2 _ ?side1 ?side2 ?side3 ?side4 o4.out).mono ?_
        (case side1 => repeat (first | exact (Kd.S_reads' a9.out).2.2 | (with_reducible refine Kd.C_alloc ?_ _) | (with_reducible refine Kd.C_drewN ?_ _) | (with_reducible refine Kd.C_drew ?_)))
        (case side2 => exact (Kd.S_reads' a9.out).2.1)
        (case side3 => repeat (first | exact (Kd.Q_reads' a8.out).2.2 | (with_reducible refine Kd.C_alloc ?_ _) | (with_reducible refine Kd.C_drewN ?_ _) | (with_reducible refine Kd.C_drew ?_)))
        (case side4 => exact (Kd.Q_reads' a8.out).2.1)
        rintro e w' ⟨rfl, hb⟩
        refine ⟨_, rfl, ?_⟩
        replace a4 := ak (Kd.S_below (xS a4.out) hb)
        replace a3 := ak (Kd.Q_below (xQ a3.out) hb)
        replace a9 := ak (Kd.S_below (xS a9.out) hb)
        replace a8 := ak (Kd.Q_below (xQ a8.out) hb)
        replace a2 := ak (Kd.S_below (xS a2.out) hb)
        replace a1 := ak (Kd.Q_below (xQ a1.out) hb)
        replace a7 := ak (Kd.S_below (xS a7.out) hb)
        replace a6 := ak (Kd.Q_below (xQ a6.out) hb)
        replace b3 := ak (Kd.S_below (xS b3.out) hb)
        replace b4 := ak (Kd.Q_below (xQ b4.out) hb)
        replace b5 := ak (Kd.S_below (xS b5.out) hb)
        replace b6 := ak (Kd.Q_below (xQ b6.out) hb)
        replace a5 := ak (blk_below (g := d6) (o := .cells #[.slice f2 e0.length f0, .slice e1 d5.length d8] 27 (0, 0)) (xb a5.out) hb)
        replace b1 := ak (blk_below (g := d7) (o := .cells #[.slice f7 e8.length f5, .slice e4 d0.length e2] 27 (0, 0)) (xb b1.out) hb)
        replace b0 := ak (blk_below (g := e3) (o := .cells #[.slice g0 e9.length f8, .slice e7 b8.length e6] 27 (0, 0)) (xb b0.out) hb)
        replace b2 := ak (blk_below (g := d1) (o := .cells #[.slice g3 d9.length g1, .slice f6 d3.length f4] 27 (0, 0)) (xb b2.out) hb)
        replace b9 := ak (blk_below (g := d4) (o := .cells #[.slice h8 f3.length h5, .slice h0 e5.length g8] 27 (0, 0)) (xb b9.out) hb)
        replace b7 := ak (blk_below (g := d2) (o := .cells #[.slice i1 f9.length i2, .slice h3 f1.length h4] 27 (0, 0)) (xb b7.out) hb)
        replace HB := ak (below_step zj_0 hb)
        (try clear hb)
        (try clear hb2)
        (try clear hk)
        (try clear hi)
        refine hK.out _ _ ⟨(blk_cell a5.out 0).trans rfl, (blk_cell a5.out 1).trans rfl, (blk_cell b1.out 0).trans rfl, (blk_cell b1.out 1).trans rfl⟩ (fun hHeld => ?_)
        clear hK K
        refine no_ (N := some 110) ?_
        refine pu_ (i := 18) (N := some 111) (bA 20 524287) ?_
        refine pu_ (i := 19) (N := some 16) (bA 20 1048575) ?_
        refine done_ (done_of HT_.out (by kernel_rfl)) ?_
        have g4 := cz20 b0.out
        have g5 := cz21 b0.out
        have g6 := blk_frozen b0.out 0
        have g7 := blk_frozen b0.out 1
        try go_wp2_with (first | ((with_reducible refine gate_callee (f := 20) rfl ?_); refine gl_ (some 113) Try.func20 #[.agg #[.slice g0 e9.length f8, .slice e7 b8.length e6]] ?_; (with_reducible refine (impl_LogicOk.calls _ _ e9 _ _ b8 true _ (y1 a2.out) (y2 a2.out) (y1 a1.out) (y2 a1.out) o5.out).mono ?_); rintro e w' ⟨rfl, hb⟩; refine ⟨_, rfl, ?_⟩; replace a4 := ak (Kd.S_below (xS a4.out) hb); replace a3 := ak (Kd.Q_below (xQ a3.out) hb); replace a9 := ak (Kd.S_below (xS a9.out) hb); replace a8 := ak (Kd.Q_below (xQ a8.out) hb); replace a2 := ak (Kd.S_below (xS a2.out) hb); replace a1 := ak (Kd.Q_below (xQ a1.out) hb); replace a7 := ak (Kd.S_below (xS a7.out) hb); replace a6 := ak (Kd.Q_below (xQ a6.out) hb); replace b3 := ak (Kd.S_below (xS b3.out) hb); replace b4 := ak (Kd.Q_below (xQ b4.out) hb); replace b5 := ak (Kd.S_below (xS b5.out) hb); replace b6 := ak (Kd.Q_below (xQ b6.out) hb); replace a5 := ak (blk_below (g := d6) (o := .cells #[.slice f2 e0.length f0, .slice e1 d5.length d8] 27 (0, 0)) (xb a5.out) hb); replace b1 := ak (blk_below (g := d7) (o := .cells #[.slice f7 e8.length f5, .slice e4 d0.length e2] 27 (0, 0)) (xb b1.out) hb); replace b0 := ak (blk_below (g := e3) (o := .cells #[.slice g0 e9.length f8, .slice e7 b8.length e6] 27 (0, 0)) (xb b0.out) hb); replace b2 := ak (blk_below (g := d1) (o := .cells #[.slice g3 d9.length g1, .slice f6 d3.length f4] 27 (0, 0)) (xb b2.out) hb); replace b9 := ak (blk_below (g := d4) (o := .cells #[.slice h8 f3.length h5, .slice h0 e5.length g8] 27 (0, 0)) (xb b9.out) hb); replace b7 := ak (blk_below (g := d2) (o := .cells #[.slice i1 f9.length i2, .slice h3 f1.length h4] 27 (0, 0)) (xb b7.out) hb); replace HB := ak (below_step zj_0 hb); (try clear hb); (try clear hb2); (try clear hk); (try clear hi); have g4 := cz20 b0.out; have g5 := cz21 b0.out; have g6 := blk_frozen b0.out 0; have g7 := blk_frozen b0.out 1; have A9 := g9.out; have B0 := h7.out; have B1 := i5.out; have B2 := j5.out; have B3 := i3.out; have B4 := j6.out; have g4 := cz20 a5.out; have g5 := cz21 a5.out; have g6 := blk_frozen a5.out 0; have g7 := blk_frozen a5.out 1) | (go_at_call 47; (with_reducible refine (impl_AndOf.calls _ _ e9 _ _ b8 (wrap64 ((b8.length : Int) / 2)) (wrap64 ((wrap64 ((b8.length : Int) - 1)) - (wrap64 (Int.tdiv (wrap64 ((b8.length : Int) / 2)) 2)))) q1 _ (y1 a2.out) (y2 a2.out) (y1 a1.out) (y2 a1.out) y5.out).mono ?_); rintro e w' ⟨rfl, hb⟩; replace a4 := ak (Kd.S_below (xS a4.out) hb); replace a3 := ak (Kd.Q_below (xQ a3.out) hb); replace a9 := ak (Kd.S_below (xS a9.out) hb); replace a8 := ak (Kd.Q_below (xQ a8.out) hb); replace a2 := ak (Kd.S_below (xS a2.out) hb); replace a1 := ak (Kd.Q_below (xQ a1.out) hb); replace a7 := ak (Kd.S_below (xS a7.out) hb); replace a6 := ak (Kd.Q_below (xQ a6.out) hb); replace b3 := ak (Kd.S_below (xS b3.out) hb); replace b4 := ak (Kd.Q_below (xQ b4.out) hb); replace b5 := ak (Kd.S_below (xS b5.out) hb); replace b6 := ak (Kd.Q_below (xQ b6.out) hb); replace a5 := ak (blk_below (g := d6) (o := .cells #[.slice f2 e0.length f0, .slice e1 d5.length d8] 27 (0, 0)) (xb a5.out) hb); replace b1 := ak (blk_below (g := d7) (o := .cells #[.slice f7 e8.length f5, .slice e4 d0.length e2] 27 (0, 0)) (xb b1.out) hb); replace b0 := ak (blk_below (g := e3) (o := .cells #[.slice g0 e9.length f8, .slice e7 b8.length e6] 27 (0, 0)) (xb b0.out) hb); replace b2 := ak (blk_below (g := d1) (o := .cells #[.slice g3 d9.length g1, .slice f6 d3.length f4] 27 (0, 0)) (xb b2.out) hb); replace b9 := ak (blk_below (g := d4) (o := .cells #[.slice h8 f3.length h5, .slice h0 e5.length g8] 27 (0, 0)) (xb b9.out) hb); replace b7 := ak (blk_below (g := d2) (o := .cells #[.slice i1 f9.length i2, .slice h3 f1.length h4] 27 (0, 0)) (xb b7.out) hb); replace HB := ak (below_step zj_0 hb); (try clear hb); (try clear hb2); (try clear hk); (try clear hi)))
        go_ret
        exact ⟨zj_52, zj_0⟩
       obtain rfl := Option.some.inj H
       have B5 := i0.out
       have B6 := h9.out
       have B7 := i6.out
       have B8 := j8.out
       have B9 := i7.out
       have C0 := k5.out
       have C1 := k6.out
       have C2 := l7.out
       have C3 := j4.out
       have C4 := k9.out
       have g4 := cz20 b1.out
       have g5 := cz21 b1.out
       have g6 := blk_frozen b1.out 0
       have g7 := blk_frozen b1.out 1
       have C5 := h2.out
       have C6 := g2.out
       have C7 := h6.out
       have C8 := i8.out
       have C9 := i9.out
       have D0 := k7.out
       have D1 := i4.out
       have D2 := j7.out
       have g4 := cz20 b0.out
       have g5 := cz21 b0.out
       have g6 := blk_frozen b0.out 0
       have g7 := blk_frozen b0.out 1
       try go_wp2
       replace a4 := ak (Kd.S_drew a4.out)
       replace a3 := ak (Kd.Q_drew a3.out)
       replace a9 := ak (Kd.S_drew a9.out)
       replace a8 := ak (Kd.Q_drew a8.out)
       replace a2 := ak (Kd.S_drew a2.out)
       replace a1 := ak (Kd.Q_drew a1.out)
       replace a7 := ak (Kd.S_drew a7.out)
       replace a6 := ak (Kd.Q_drew a6.out)
       replace b3 := ak (Kd.S_drew b3.out)
       replace b4 := ak (Kd.Q_drew b4.out)
       replace b5 := ak (Kd.S_drew b5.out)
       replace b6 := ak (Kd.Q_drew b6.out)
       replace a5 := ak (blk_drew a5.out)
       replace b1 := ak (blk_drew b1.out)
       replace b0 := ak (blk_drew b0.out)
       replace b2 := ak (blk_drew b2.out)
       replace b9 := ak (blk_drew b9.out)
       replace b7 := ak (blk_drew b7.out)
       replace HB := ak (below_drew1 HB.out)
       refine start_ (n := 20) (S := fun w' => w'.cell? ⟨d6, 0, none⟩ = some (.slice f2 e0.length f0) ∧ w'.cell? ⟨d6, 1, none⟩ = some (.slice e1 d5.length d8) ∧ w'.cell? ⟨d7, 0, none⟩ = some (.slice f7 e8.length f5) ∧ w'.cell? ⟨d7, 1, none⟩ = some (.slice e4 d0.length e2)) (ds := []) (bA 20 0) (by kernel_rfl) rfl rfl ⟨(blk_cell a5.out 0).trans rfl, (blk_cell a5.out 1).trans rfl, (blk_cell b1.out 0).trans rfl, (blk_cell b1.out 1).trans rfl⟩ (fun hHeld => ?_); refine with_tabW laws_FnTimesOf.tab17 laws_FnTimesOf.bits17 (fun HT_ HW_ => ?_)
       generalize wc.drew = T5 at a4 a3 a9 a8 a2 a1 a7 a6 b3 b4 b5 b6 a5 b1 b0 b2 b9 b7 HB hHeld ⊢
       refine pu_ (i := 1) (N := some 94) (bA 20 2) ?_
       refine pu_ (i := 2) (N := some 95) (bA 20 6) ?_
       refine pu_ (i := 3) (N := some 96) (bA 20 14) ?_
       refine pu_ (i := 4) (N := some 97) (bA 20 30) ?_
       refine pu_ (i := 5) (N := some 98) (bA 20 62) ?_
       refine pu_ (i := 6) (N := some 99) (bA 20 126) ?_
       refine pu_ (i := 8) (N := some 101) (bA 20 382) ?_
       refine pu_ (i := 11) (N := some 104) (bA 20 2430) ?_
       refine pu_ (i := 12) (N := some 105) (bA 20 6526) ?_
       refine pu_ (i := 13) (N := some 106) (bA 20 14718) ?_
       refine pu_ (i := 14) (N := some 107) (bA 20 31102) ?_
       refine pu_ (i := 15) (N := some 108) (bA 20 63870) ?_
       refine pu_ (i := 16) (N := some 109) (bA 20 129406) ?_
       refine tk_ (i := 0) (N := some 93) (bA 20 129407) ?_
       refine tk_ (i := 10) (N := some 103) (bA 20 130431) ?_
       refine one_ (i := 7) (N := some 100) (bA 20 130559) rfl rfl (one_of HT_.out (by kernel_rfl)) (by decide) (fun K hK => ?_)
       refine ge_ Try.func47 #[.agg #[.slice f2 e0.length f0, .slice e1 d5.length d8], .int .i64 (wrap64 (Int.tdiv (wrap64 ((b8.length : Int) / 2)) (d0.length : Int))), .int .i64 (wrap64 (Int.tdiv (wrap64 ((wrap64 ((b8.length : Int) - 1)) - (wrap64 (Int.tdiv (wrap64 ((b8.length : Int) / 2)) 2)))) (d0.length : Int)))] ?_
       with_reducible refine (impl_AndOf.calls _ _ e0 _ _ d5 (wrap64 (Int.tdiv (wrap64 ((b8.length : Int) / 2)) (d0.length : Int))) (wrap64 (Int.tdiv (wrap64 ((wrap64 ((b8.length : Int) - 1)) - (wrap64 (Int.tdiv (wrap64 ((b8.length : Int) / 2)) 2)))) (d0.length : Int))) n1 _ ?side1 ?side2 ?side3 ?side4 o3.out).mono ?_
       (case side1 => repeat (first | exact (Kd.S_reads' a4.out).2.2 | (with_reducible refine Kd.C_alloc ?_ _) | (with_reducible refine Kd.C_drewN ?_ _) | (with_reducible refine Kd.C_drew ?_)))
       (case side2 => exact (Kd.S_reads' a4.out).2.1)
       (case side3 => repeat (first | exact (Kd.Q_reads' a3.out).2.2 | (with_reducible refine Kd.C_alloc ?_ _) | (with_reducible refine Kd.C_drewN ?_ _) | (with_reducible refine Kd.C_drew ?_)))
       (case side4 => exact (Kd.Q_reads' a3.out).2.1)
       rintro e w' ⟨rfl, hb⟩
       refine ⟨_, rfl, ?_⟩
       replace a4 := ak (Kd.S_below (xS a4.out) hb)
       replace a3 := ak (Kd.Q_below (xQ a3.out) hb)
       replace a9 := ak (Kd.S_below (xS a9.out) hb)
       replace a8 := ak (Kd.Q_below (xQ a8.out) hb)
       replace a2 := ak (Kd.S_below (xS a2.out) hb)
       replace a1 := ak (Kd.Q_below (xQ a1.out) hb)
       replace a7 := ak (Kd.S_below (xS a7.out) hb)
       replace a6 := ak (Kd.Q_below (xQ a6.out) hb)
       replace b3 := ak (Kd.S_below (xS b3.out) hb)
       replace b4 := ak (Kd.Q_below (xQ b4.out) hb)
       replace b5 := ak (Kd.S_below (xS b5.out) hb)
       replace b6 := ak (Kd.Q_below (xQ b6.out) hb)
       replace a5 := ak (blk_below (g := d6) (o := .cells #[.slice f2 e0.length f0, .slice e1 d5.length d8] 27 (0, 0)) (xb a5.out) hb)
       replace b1 := ak (blk_below (g := d7) (o := .cells #[.slice f7 e8.length f5, .slice e4 d0.length e2] 27 (0, 0)) (xb b1.out) hb)
       replace b0 := ak (blk_below (g := e3) (o := .cells #[.slice g0 e9.length f8, .slice e7 b8.length e6] 27 (0, 0)) (xb b0.out) hb)
       replace b2 := ak (blk_below (g := d1) (o := .cells #[.slice g3 d9.length g1, .slice f6 d3.length f4] 27 (0, 0)) (xb b2.out) hb)
       replace b9 := ak (blk_below (g := d4) (o := .cells #[.slice h8 f3.length h5, .slice h0 e5.length g8] 27 (0, 0)) (xb b9.out) hb)
       replace b7 := ak (blk_below (g := d2) (o := .cells #[.slice i1 f9.length i2, .slice h3 f1.length h4] 27 (0, 0)) (xb b7.out) hb)
       replace HB := ak (below_step zj_0 hb)
       (try clear hb)
       (try clear hb2)
       (try clear hk)
       (try clear hi)
       refine hK.out _ _ ⟨(blk_cell a5.out 0).trans rfl, (blk_cell a5.out 1).trans rfl, (blk_cell b1.out 0).trans rfl, (blk_cell b1.out 1).trans rfl⟩ (fun hHeld => ?_)
       clear hK K
       refine no_ (N := some 100) ?_
       refine pu_ (i := 9) (N := some 102) (bA 20 131071) ?_
       refine one_ (i := 17) (N := some 110) (bA 20 262143) rfl rfl (one_of HT_.out (by kernel_rfl)) (by decide) (fun K hK => ?_)
       refine ge_ Try.func47 #[.agg #[.slice f7 e8.length f5, .slice e4 d0.length e2], .int .i64 (Int.tmod (wrap64 ((b8.length : Int) / 2)) (d0.length : Int)), .int .i64 (Int.tmod (wrap64 ((wrap64 ((b8.length : Int) - 1)) - (wrap64 (Int.tdiv (wrap64 ((b8.length : Int) / 2)) 2)))) (d0.length : Int))] ?_
       with_reducible refine (impl_AndOf.calls _ _ e8 _ _ d0 (Int.tmod (wrap64 ((b8.length : Int) / 2)) (d0.length : Int)) (Int.tmod (wrap64 ((wrap64 ((b8.length : Int) - 1)) - (wrap64 (Int.tdiv (wrap64 ((b8.length : Int) / 2)) 2)))) (d0.length : Int)) n2 _ ?side1 ?side2 ?side3 ?side4 o4.out).mono ?_
       (case side1 => repeat (first | exact (Kd.S_reads' a9.out).2.2 | (with_reducible refine Kd.C_alloc ?_ _) | (with_reducible refine Kd.C_drewN ?_ _) | (with_reducible refine Kd.C_drew ?_)))
       (case side2 => exact (Kd.S_reads' a9.out).2.1)
       (case side3 => repeat (first | exact (Kd.Q_reads' a8.out).2.2 | (with_reducible refine Kd.C_alloc ?_ _) | (with_reducible refine Kd.C_drewN ?_ _) | (with_reducible refine Kd.C_drew ?_)))
       (case side4 => exact (Kd.Q_reads' a8.out).2.1)
       rintro e w' ⟨rfl, hb⟩
       refine ⟨_, rfl, ?_⟩
       replace a4 := ak (Kd.S_below (xS a4.out) hb)
       replace a3 := ak (Kd.Q_below (xQ a3.out) hb)
       replace a9 := ak (Kd.S_below (xS a9.out) hb)
       replace a8 := ak (Kd.Q_below (xQ a8.out) hb)
       replace a2 := ak (Kd.S_below (xS a2.out) hb)
       replace a1 := ak (Kd.Q_below (xQ a1.out) hb)
       replace a7 := ak (Kd.S_below (xS a7.out) hb)
       replace a6 := ak (Kd.Q_below (xQ a6.out) hb)
       replace b3 := ak (Kd.S_below (xS b3.out) hb)
       replace b4 := ak (Kd.Q_below (xQ b4.out) hb)
       replace b5 := ak (Kd.S_below (xS b5.out) hb)
       replace b6 := ak (Kd.Q_below (xQ b6.out) hb)
       replace a5 := ak (blk_below (g := d6) (o := .cells #[.slice f2 e0.length f0, .slice e1 d5.length d8] 27 (0, 0)) (xb a5.out) hb)
       replace b1 := ak (blk_below (g := d7) (o := .cells #[.slice f7 e8.length f5, .slice e4 d0.length e2] 27 (0, 0)) (xb b1.out) hb)
       replace b0 := ak (blk_below (g := e3) (o := .cells #[.slice g0 e9.length f8, .slice e7 b8.length e6] 27 (0, 0)) (xb b0.out) hb)
       replace b2 := ak (blk_below (g := d1) (o := .cells #[.slice g3 d9.length g1, .slice f6 d3.length f4] 27 (0, 0)) (xb b2.out) hb)
       replace b9 := ak (blk_below (g := d4) (o := .cells #[.slice h8 f3.length h5, .slice h0 e5.length g8] 27 (0, 0)) (xb b9.out) hb)
       replace b7 := ak (blk_below (g := d2) (o := .cells #[.slice i1 f9.length i2, .slice h3 f1.length h4] 27 (0, 0)) (xb b7.out) hb)
       replace HB := ak (below_step zj_0 hb)
       (try clear hb)
       (try clear hb2)
       (try clear hk)
       (try clear hi)
       refine hK.out _ _ ⟨(blk_cell a5.out 0).trans rfl, (blk_cell a5.out 1).trans rfl, (blk_cell b1.out 0).trans rfl, (blk_cell b1.out 1).trans rfl⟩ (fun hHeld => ?_)
       clear hK K
       refine no_ (N := some 110) ?_
       refine pu_ (i := 18) (N := some 111) (bA 20 524287) ?_
       refine pu_ (i := 19) (N := some 16) (bA 20 1048575) ?_
       refine done_ (done_of HT_.out (by kernel_rfl)) ?_
       have g4 := cz20 b0.out
       have g5 := cz21 b0.out
       have g6 := blk_frozen b0.out 0
       have g7 := blk_frozen b0.out 1
       try go_wp2_with (first | ((with_reducible refine gate_callee (f := 20) rfl ?_); refine gl_ (some 113) Try.func20 #[.agg #[.slice g0 e9.length f8, .slice e7 b8.length e6]] ?_; (with_reducible refine (impl_LogicOk.calls _ _ e9 _ _ b8 true _ (y1 a2.out) (y2 a2.out) (y1 a1.out) (y2 a1.out) o5.out).mono ?_); rintro e w' ⟨rfl, hb⟩; refine ⟨_, rfl, ?_⟩; replace a4 := ak (Kd.S_below (xS a4.out) hb); replace a3 := ak (Kd.Q_below (xQ a3.out) hb); replace a9 := ak (Kd.S_below (xS a9.out) hb); replace a8 := ak (Kd.Q_below (xQ a8.out) hb); replace a2 := ak (Kd.S_below (xS a2.out) hb); replace a1 := ak (Kd.Q_below (xQ a1.out) hb); replace a7 := ak (Kd.S_below (xS a7.out) hb); replace a6 := ak (Kd.Q_below (xQ a6.out) hb); replace b3 := ak (Kd.S_below (xS b3.out) hb); replace b4 := ak (Kd.Q_below (xQ b4.out) hb); replace b5 := ak (Kd.S_below (xS b5.out) hb); replace b6 := ak (Kd.Q_below (xQ b6.out) hb); replace a5 := ak (blk_below (g := d6) (o := .cells #[.slice f2 e0.length f0, .slice e1 d5.length d8] 27 (0, 0)) (xb a5.out) hb); replace b1 := ak (blk_below (g := d7) (o := .cells #[.slice f7 e8.length f5, .slice e4 d0.length e2] 27 (0, 0)) (xb b1.out) hb); replace b0 := ak (blk_below (g := e3) (o := .cells #[.slice g0 e9.length f8, .slice e7 b8.length e6] 27 (0, 0)) (xb b0.out) hb); replace b2 := ak (blk_below (g := d1) (o := .cells #[.slice g3 d9.length g1, .slice f6 d3.length f4] 27 (0, 0)) (xb b2.out) hb); replace b9 := ak (blk_below (g := d4) (o := .cells #[.slice h8 f3.length h5, .slice h0 e5.length g8] 27 (0, 0)) (xb b9.out) hb); replace b7 := ak (blk_below (g := d2) (o := .cells #[.slice i1 f9.length i2, .slice h3 f1.length h4] 27 (0, 0)) (xb b7.out) hb); replace HB := ak (below_step zj_0 hb); (try clear hb); (try clear hb2); (try clear hk); (try clear hi); have g4 := cz20 b0.out; have g5 := cz21 b0.out; have g6 := blk_frozen b0.out 0; have g7 := blk_frozen b0.out 1; have D3 := g9.out; have D4 := h7.out; have D5 := i5.out; have D6 := j5.out; have D7 := i3.out; have D8 := j6.out; have g4 := cz20 a5.out; have g5 := cz21 a5.out; have g6 := blk_frozen a5.out 0; have g7 := blk_frozen a5.out 1))
       go_ret
       exact ⟨zj_52, zj_0⟩
      obtain rfl := Option.some.inj H
      have D9 := i0.out
      have E0 := h9.out
      have E1 := i6.out
      have E2 := j8.out
      have E3 := i7.out
      have E4 := k5.out
      have E5 := k6.out
      have E6 := l7.out
      have E7 := j4.out
      have E8 := k9.out
      have g4 := cz20 b1.out
      have g5 := cz21 b1.out
      have g6 := blk_frozen b1.out 0
      have g7 := blk_frozen b1.out 1
      have E9 := h2.out
      have F0 := g2.out
      have F1 := h6.out
      have F2 := i8.out
      have F3 := i9.out
      have F4 := k7.out
      have F5 := i4.out
      have F6 := j7.out
      have g4 := cz20 b0.out
      have g5 := cz21 b0.out
      have g6 := blk_frozen b0.out 0
      have g7 := blk_frozen b0.out 1
      try go_wp2
      replace a4 := ak (Kd.S_drew a4.out)
      replace a3 := ak (Kd.Q_drew a3.out)
      replace a9 := ak (Kd.S_drew a9.out)
      replace a8 := ak (Kd.Q_drew a8.out)
      replace a2 := ak (Kd.S_drew a2.out)
      replace a1 := ak (Kd.Q_drew a1.out)
      replace a7 := ak (Kd.S_drew a7.out)
      replace a6 := ak (Kd.Q_drew a6.out)
      replace b3 := ak (Kd.S_drew b3.out)
      replace b4 := ak (Kd.Q_drew b4.out)
      replace b5 := ak (Kd.S_drew b5.out)
      replace b6 := ak (Kd.Q_drew b6.out)
      replace a5 := ak (blk_drew a5.out)
      replace b1 := ak (blk_drew b1.out)
      replace b0 := ak (blk_drew b0.out)
      replace b2 := ak (blk_drew b2.out)
      replace b9 := ak (blk_drew b9.out)
      replace b7 := ak (blk_drew b7.out)
      replace HB := ak (below_drew1 HB.out)
      refine start_ (n := 20) (S := fun w' => w'.cell? ⟨d6, 0, none⟩ = some (.slice f2 e0.length f0) ∧ w'.cell? ⟨d6, 1, none⟩ = some (.slice e1 d5.length d8) ∧ w'.cell? ⟨d7, 0, none⟩ = some (.slice f7 e8.length f5) ∧ w'.cell? ⟨d7, 1, none⟩ = some (.slice e4 d0.length e2)) (ds := []) (bA 20 0) (by kernel_rfl) rfl rfl ⟨(blk_cell a5.out 0).trans rfl, (blk_cell a5.out 1).trans rfl, (blk_cell b1.out 0).trans rfl, (blk_cell b1.out 1).trans rfl⟩ (fun hHeld => ?_); refine with_tabW laws_FnTimesOf.tab17 laws_FnTimesOf.bits17 (fun HT_ HW_ => ?_)
      generalize wc.drew = T6 at a4 a3 a9 a8 a2 a1 a7 a6 b3 b4 b5 b6 a5 b1 b0 b2 b9 b7 HB hHeld ⊢
      refine pu_ (i := 1) (N := some 94) (bA 20 2) ?_
      refine pu_ (i := 2) (N := some 95) (bA 20 6) ?_
      refine pu_ (i := 3) (N := some 96) (bA 20 14) ?_
      refine pu_ (i := 4) (N := some 97) (bA 20 30) ?_
      refine pu_ (i := 5) (N := some 98) (bA 20 62) ?_
      refine pu_ (i := 6) (N := some 99) (bA 20 126) ?_
      refine pu_ (i := 8) (N := some 101) (bA 20 382) ?_
      refine pu_ (i := 11) (N := some 104) (bA 20 2430) ?_
      refine pu_ (i := 12) (N := some 105) (bA 20 6526) ?_
      refine pu_ (i := 13) (N := some 106) (bA 20 14718) ?_
      refine pu_ (i := 14) (N := some 107) (bA 20 31102) ?_
      refine pu_ (i := 15) (N := some 108) (bA 20 63870) ?_
      refine pu_ (i := 16) (N := some 109) (bA 20 129406) ?_
      refine tk_ (i := 0) (N := some 93) (bA 20 129407) ?_
      refine tk_ (i := 10) (N := some 103) (bA 20 130431) ?_
      refine one_ (i := 7) (N := some 100) (bA 20 130559) rfl rfl (one_of HT_.out (by kernel_rfl)) (by decide) (fun K hK => ?_)
      refine ge_ Try.func47 #[.agg #[.slice f2 e0.length f0, .slice e1 d5.length d8], .int .i64 (wrap64 (Int.tdiv (wrap64 ((b8.length : Int) / 2)) (d0.length : Int))), .int .i64 (wrap64 (Int.tdiv (wrap64 ((wrap64 ((b8.length : Int) - 1)) - (wrap64 (Int.tdiv (wrap64 ((b8.length : Int) / 2)) 2)))) (d0.length : Int)))] ?_
      with_reducible refine (impl_AndOf.calls _ _ e0 _ _ d5 (wrap64 (Int.tdiv (wrap64 ((b8.length : Int) / 2)) (d0.length : Int))) (wrap64 (Int.tdiv (wrap64 ((wrap64 ((b8.length : Int) - 1)) - (wrap64 (Int.tdiv (wrap64 ((b8.length : Int) / 2)) 2)))) (d0.length : Int))) n1 _ ?side1 ?side2 ?side3 ?side4 o3.out).mono ?_
      (case side1 => repeat (first | exact (Kd.S_reads' a4.out).2.2 | (with_reducible refine Kd.C_alloc ?_ _) | (with_reducible refine Kd.C_drewN ?_ _) | (with_reducible refine Kd.C_drew ?_)))
      (case side2 => exact (Kd.S_reads' a4.out).2.1)
      (case side3 => repeat (first | exact (Kd.Q_reads' a3.out).2.2 | (with_reducible refine Kd.C_alloc ?_ _) | (with_reducible refine Kd.C_drewN ?_ _) | (with_reducible refine Kd.C_drew ?_)))
      (case side4 => exact (Kd.Q_reads' a3.out).2.1)
      rintro e w' ⟨rfl, hb⟩
      refine ⟨_, rfl, ?_⟩
      replace a4 := ak (Kd.S_below (xS a4.out) hb)
      replace a3 := ak (Kd.Q_below (xQ a3.out) hb)
      replace a9 := ak (Kd.S_below (xS a9.out) hb)
      replace a8 := ak (Kd.Q_below (xQ a8.out) hb)
      replace a2 := ak (Kd.S_below (xS a2.out) hb)
      replace a1 := ak (Kd.Q_below (xQ a1.out) hb)
      replace a7 := ak (Kd.S_below (xS a7.out) hb)
      replace a6 := ak (Kd.Q_below (xQ a6.out) hb)
      replace b3 := ak (Kd.S_below (xS b3.out) hb)
      replace b4 := ak (Kd.Q_below (xQ b4.out) hb)
      replace b5 := ak (Kd.S_below (xS b5.out) hb)
      replace b6 := ak (Kd.Q_below (xQ b6.out) hb)
      replace a5 := ak (blk_below (g := d6) (o := .cells #[.slice f2 e0.length f0, .slice e1 d5.length d8] 27 (0, 0)) (xb a5.out) hb)
      replace b1 := ak (blk_below (g := d7) (o := .cells #[.slice f7 e8.length f5, .slice e4 d0.length e2] 27 (0, 0)) (xb b1.out) hb)
      replace b0 := ak (blk_below (g := e3) (o := .cells #[.slice g0 e9.length f8, .slice e7 b8.length e6] 27 (0, 0)) (xb b0.out) hb)
      replace b2 := ak (blk_below (g := d1) (o := .cells #[.slice g3 d9.length g1, .slice f6 d3.length f4] 27 (0, 0)) (xb b2.out) hb)
      replace b9 := ak (blk_below (g := d4) (o := .cells #[.slice h8 f3.length h5, .slice h0 e5.length g8] 27 (0, 0)) (xb b9.out) hb)
      replace b7 := ak (blk_below (g := d2) (o := .cells #[.slice i1 f9.length i2, .slice h3 f1.length h4] 27 (0, 0)) (xb b7.out) hb)
      replace HB := ak (below_step zj_0 hb)
      (try clear hb)
      (try clear hb2)
      (try clear hk)
      (try clear hi)
      refine hK.out _ _ ⟨(blk_cell a5.out 0).trans rfl, (blk_cell a5.out 1).trans rfl, (blk_cell b1.out 0).trans rfl, (blk_cell b1.out 1).trans rfl⟩ (fun hHeld => ?_)
      clear hK K
      refine no_ (N := some 100) ?_
      refine pu_ (i := 9) (N := some 102) (bA 20 131071) ?_
      refine one_ (i := 17) (N := some 110) (bA 20 262143) rfl rfl (one_of HT_.out (by kernel_rfl)) (by decide) (fun K hK => ?_)
      refine ge_ Try.func47 #[.agg #[.slice f7 e8.length f5, .slice e4 d0.length e2], .int .i64 (Int.tmod (wrap64 ((b8.length : Int) / 2)) (d0.length : Int)), .int .i64 (Int.tmod (wrap64 ((wrap64 ((b8.length : Int) - 1)) - (wrap64 (Int.tdiv (wrap64 ((b8.length : Int) / 2)) 2)))) (d0.length : Int))] ?_
      with_reducible refine (impl_AndOf.calls _ _ e8 _ _ d0 (Int.tmod (wrap64 ((b8.length : Int) / 2)) (d0.length : Int)) (Int.tmod (wrap64 ((wrap64 ((b8.length : Int) - 1)) - (wrap64 (Int.tdiv (wrap64 ((b8.length : Int) / 2)) 2)))) (d0.length : Int)) n2 _ ?side1 ?side2 ?side3 ?side4 o4.out).mono ?_
      (case side1 => repeat (first | exact (Kd.S_reads' a9.out).2.2 | (with_reducible refine Kd.C_alloc ?_ _) | (with_reducible refine Kd.C_drewN ?_ _) | (with_reducible refine Kd.C_drew ?_)))
      (case side2 => exact (Kd.S_reads' a9.out).2.1)
      (case side3 => repeat (first | exact (Kd.Q_reads' a8.out).2.2 | (with_reducible refine Kd.C_alloc ?_ _) | (with_reducible refine Kd.C_drewN ?_ _) | (with_reducible refine Kd.C_drew ?_)))
      (case side4 => exact (Kd.Q_reads' a8.out).2.1)
      rintro e w' ⟨rfl, hb⟩
      refine ⟨_, rfl, ?_⟩
      replace a4 := ak (Kd.S_below (xS a4.out) hb)
      replace a3 := ak (Kd.Q_below (xQ a3.out) hb)
      replace a9 := ak (Kd.S_below (xS a9.out) hb)
      replace a8 := ak (Kd.Q_below (xQ a8.out) hb)
      replace a2 := ak (Kd.S_below (xS a2.out) hb)
      replace a1 := ak (Kd.Q_below (xQ a1.out) hb)
      replace a7 := ak (Kd.S_below (xS a7.out) hb)
      replace a6 := ak (Kd.Q_below (xQ a6.out) hb)
      replace b3 := ak (Kd.S_below (xS b3.out) hb)
      replace b4 := ak (Kd.Q_below (xQ b4.out) hb)
      replace b5 := ak (Kd.S_below (xS b5.out) hb)
      replace b6 := ak (Kd.Q_below (xQ b6.out) hb)
      replace a5 := ak (blk_below (g := d6) (o := .cells #[.slice f2 e0.length f0, .slice e1 d5.length d8] 27 (0, 0)) (xb a5.out) hb)
      replace b1 := ak (blk_below (g := d7) (o := .cells #[.slice f7 e8.length f5, .slice e4 d0.length e2] 27 (0, 0)) (xb b1.out) hb)
      replace b0 := ak (blk_below (g := e3) (o := .cells #[.slice g0 e9.length f8, .slice e7 b8.length e6] 27 (0, 0)) (xb b0.out) hb)
      replace b2 := ak (blk_below (g := d1) (o := .cells #[.slice g3 d9.length g1, .slice f6 d3.length f4] 27 (0, 0)) (xb b2.out) hb)
      replace b9 := ak (blk_below (g := d4) (o := .cells #[.slice h8 f3.length h5, .slice h0 e5.length g8] 27 (0, 0)) (xb b9.out) hb)
      replace b7 := ak (blk_below (g := d2) (o := .cells #[.slice i1 f9.length i2, .slice h3 f1.length h4] 27 (0, 0)) (xb b7.out) hb)
      replace HB := ak (below_step zj_0 hb)
      (try clear hb)
      (try clear hb2)
      (try clear hk)
      (try clear hi)
      refine hK.out _ _ ⟨(blk_cell a5.out 0).trans rfl, (blk_cell a5.out 1).trans rfl, (blk_cell b1.out 0).trans rfl, (blk_cell b1.out 1).trans rfl⟩ (fun hHeld => ?_)
      clear hK K
      refine no_ (N := some 110) ?_
      refine pu_ (i := 18) (N := some 111) (bA 20 524287) ?_
      refine pu_ (i := 19) (N := some 16) (bA 20 1048575) ?_
      refine done_ (done_of HT_.out (by kernel_rfl)) ?_
      have g4 := cz20 b0.out
      have g5 := cz21 b0.out
      have g6 := blk_frozen b0.out 0
      have g7 := blk_frozen b0.out 1
      try go_wp2_with (first | ((with_reducible refine gate_callee (f := 20) rfl ?_); refine gl_ (some 113) Try.func20 #[.agg #[.slice g0 e9.length f8, .slice e7 b8.length e6]] ?_; (with_reducible refine (impl_LogicOk.calls _ _ e9 _ _ b8 false _ (y1 a2.out) (y2 a2.out) (y1 a1.out) (y2 a1.out) o5.out).mono ?_); rintro e w' ⟨rfl, hb⟩; refine ⟨_, rfl, ?_⟩; replace a4 := ak (Kd.S_below (xS a4.out) hb); replace a3 := ak (Kd.Q_below (xQ a3.out) hb); replace a9 := ak (Kd.S_below (xS a9.out) hb); replace a8 := ak (Kd.Q_below (xQ a8.out) hb); replace a2 := ak (Kd.S_below (xS a2.out) hb); replace a1 := ak (Kd.Q_below (xQ a1.out) hb); replace a7 := ak (Kd.S_below (xS a7.out) hb); replace a6 := ak (Kd.Q_below (xQ a6.out) hb); replace b3 := ak (Kd.S_below (xS b3.out) hb); replace b4 := ak (Kd.Q_below (xQ b4.out) hb); replace b5 := ak (Kd.S_below (xS b5.out) hb); replace b6 := ak (Kd.Q_below (xQ b6.out) hb); replace a5 := ak (blk_below (g := d6) (o := .cells #[.slice f2 e0.length f0, .slice e1 d5.length d8] 27 (0, 0)) (xb a5.out) hb); replace b1 := ak (blk_below (g := d7) (o := .cells #[.slice f7 e8.length f5, .slice e4 d0.length e2] 27 (0, 0)) (xb b1.out) hb); replace b0 := ak (blk_below (g := e3) (o := .cells #[.slice g0 e9.length f8, .slice e7 b8.length e6] 27 (0, 0)) (xb b0.out) hb); replace b2 := ak (blk_below (g := d1) (o := .cells #[.slice g3 d9.length g1, .slice f6 d3.length f4] 27 (0, 0)) (xb b2.out) hb); replace b9 := ak (blk_below (g := d4) (o := .cells #[.slice h8 f3.length h5, .slice h0 e5.length g8] 27 (0, 0)) (xb b9.out) hb); replace b7 := ak (blk_below (g := d2) (o := .cells #[.slice i1 f9.length i2, .slice h3 f1.length h4] 27 (0, 0)) (xb b7.out) hb); replace HB := ak (below_step zj_0 hb); (try clear hb); (try clear hb2); (try clear hk); (try clear hi)))
      go_ret
      exact ⟨zj_52, zj_0⟩
     replace H := bd_ H
     obtain ⟨R8, q2, H⟩ := H
     try dsimp only at H
     replace H := ox_ H
     rcases H with ⟨rfl, H⟩ | ⟨rfl, H⟩
     ·
      replace H := bd_ H
      obtain ⟨q3, F7, H⟩ := H
      try dsimp only at H
      obtain rfl := Option.some.inj H
      have F8 := h2.out
      have F9 := g2.out
      have G0 := j8.out
      have G1 := i6.out
      have G2 := h6.out
      have G3 := i8.out
      have G4 := i9.out
      have G5 := k7.out
      have G6 := i4.out
      have G7 := j7.out
      have g4 := cz20 b0.out
      have g5 := cz21 b0.out
      have g6 := blk_frozen b0.out 0
      have g7 := blk_frozen b0.out 1
      go_wp2_with (first | ((first | ((with_reducible refine gate_callee (f := 18) rfl ?_); refine gl_ (some 75) Try.func18 #[.agg #[.slice g0 e9.length f8, .slice e7 b8.length e6]] ?_; (with_reducible refine (laws_noLogic.calls o2 _ _ e9 _ _ b8 true _ (y1 a2.out) (y2 a2.out) (y1 a1.out) (y2 a1.out) q2.out).mono ?_); rintro e w' ⟨rfl, hb⟩; refine ⟨_, rfl, ?_⟩) | (go_at_call 19; (with_reducible refine (laws_alive.calls o2  q3 _ F7.out).mono ?_); rintro e w' ⟨rfl, hb⟩)); replace a4 := ak (Kd.S_below (xS a4.out) hb); replace a3 := ak (Kd.Q_below (xQ a3.out) hb); replace a9 := ak (Kd.S_below (xS a9.out) hb); replace a8 := ak (Kd.Q_below (xQ a8.out) hb); replace a2 := ak (Kd.S_below (xS a2.out) hb); replace a1 := ak (Kd.Q_below (xQ a1.out) hb); replace a7 := ak (Kd.S_below (xS a7.out) hb); replace a6 := ak (Kd.Q_below (xQ a6.out) hb); replace b3 := ak (Kd.S_below (xS b3.out) hb); replace b4 := ak (Kd.Q_below (xQ b4.out) hb); replace b5 := ak (Kd.S_below (xS b5.out) hb); replace b6 := ak (Kd.Q_below (xQ b6.out) hb); replace a5 := ak (blk_below (g := d6) (o := .cells #[.slice f2 e0.length f0, .slice e1 d5.length d8] 27 (0, 0)) (xb a5.out) hb); replace b1 := ak (blk_below (g := d7) (o := .cells #[.slice f7 e8.length f5, .slice e4 d0.length e2] 27 (0, 0)) (xb b1.out) hb); replace b0 := ak (blk_below (g := e3) (o := .cells #[.slice g0 e9.length f8, .slice e7 b8.length e6] 27 (0, 0)) (xb b0.out) hb); replace b2 := ak (blk_below (g := d1) (o := .cells #[.slice g3 d9.length g1, .slice f6 d3.length f4] 27 (0, 0)) (xb b2.out) hb); replace b9 := ak (blk_below (g := d4) (o := .cells #[.slice h8 f3.length h5, .slice h0 e5.length g8] 27 (0, 0)) (xb b9.out) hb); replace b7 := ak (blk_below (g := d2) (o := .cells #[.slice i1 f9.length i2, .slice h3 f1.length h4] 27 (0, 0)) (xb b7.out) hb); replace HB := ak (below_step zj_0 hb); (try clear hb); (try clear hb2); (try clear hk); (try clear hi)))
      go_ret
      exact ⟨zj_52, zj_0⟩
     obtain rfl := Option.some.inj H
     have G8 := h2.out
     have G9 := g2.out
     have I0 := j8.out
     have I1 := i6.out
     have I2 := h6.out
     have I3 := i8.out
     have I4 := i9.out
     have I5 := k7.out
     have I6 := i4.out
     have I7 := j7.out
     have g4 := cz20 b0.out
     have g5 := cz21 b0.out
     have g6 := blk_frozen b0.out 0
     have g7 := blk_frozen b0.out 1
     go_wp2_with (first | ((with_reducible refine gate_callee (f := 18) rfl ?_); refine gl_ (some 75) Try.func18 #[.agg #[.slice g0 e9.length f8, .slice e7 b8.length e6]] ?_; (with_reducible refine (laws_noLogic.calls o2 _ _ e9 _ _ b8 false _ (y1 a2.out) (y2 a2.out) (y1 a1.out) (y2 a1.out) q2.out).mono ?_); rintro e w' ⟨rfl, hb⟩; refine ⟨_, rfl, ?_⟩; replace a4 := ak (Kd.S_below (xS a4.out) hb); replace a3 := ak (Kd.Q_below (xQ a3.out) hb); replace a9 := ak (Kd.S_below (xS a9.out) hb); replace a8 := ak (Kd.Q_below (xQ a8.out) hb); replace a2 := ak (Kd.S_below (xS a2.out) hb); replace a1 := ak (Kd.Q_below (xQ a1.out) hb); replace a7 := ak (Kd.S_below (xS a7.out) hb); replace a6 := ak (Kd.Q_below (xQ a6.out) hb); replace b3 := ak (Kd.S_below (xS b3.out) hb); replace b4 := ak (Kd.Q_below (xQ b4.out) hb); replace b5 := ak (Kd.S_below (xS b5.out) hb); replace b6 := ak (Kd.Q_below (xQ b6.out) hb); replace a5 := ak (blk_below (g := d6) (o := .cells #[.slice f2 e0.length f0, .slice e1 d5.length d8] 27 (0, 0)) (xb a5.out) hb); replace b1 := ak (blk_below (g := d7) (o := .cells #[.slice f7 e8.length f5, .slice e4 d0.length e2] 27 (0, 0)) (xb b1.out) hb); replace b0 := ak (blk_below (g := e3) (o := .cells #[.slice g0 e9.length f8, .slice e7 b8.length e6] 27 (0, 0)) (xb b0.out) hb); replace b2 := ak (blk_below (g := d1) (o := .cells #[.slice g3 d9.length g1, .slice f6 d3.length f4] 27 (0, 0)) (xb b2.out) hb); replace b9 := ak (blk_below (g := d4) (o := .cells #[.slice h8 f3.length h5, .slice h0 e5.length g8] 27 (0, 0)) (xb b9.out) hb); replace b7 := ak (blk_below (g := d2) (o := .cells #[.slice i1 f9.length i2, .slice h3 f1.length h4] 27 (0, 0)) (xb b7.out) hb); replace HB := ak (below_step zj_0 hb); (try clear hb); (try clear hb2); (try clear hk); (try clear hi)))
     go_ret
     exact ⟨zj_52, zj_0⟩

theorem laws_FnTimesOf.walk (P : laws_FnTimesOf.Pure) (a0 : Option Addr) (len0 cap0 : Nat) (z0 : List Int) (w : World) (w0 : (a0 = none ∧ len0 = 0 ∧ cap0 = 0 ∧ z0 = []) ∨ ∃ x, a0 = some x ∧ len0 ≤ cap0 ∧ cap0 ≤ maxLen ∧ z0.length = cap0 ∧ (∀ i, i < z0.length → w.cell? (x.add i) = some (.int .u8 (z0.getD i 0))) ∧ ∀ n ∈ z0, (Lit.int .u8 n).wf = true) (y0 : len0 * 1 ≤ 140737488351232) :
 Calls Try.prog 10 #[.slice a0 len0 cap0] w fun e w' => e = .returned (.bool true) ∧ Below w.heap.size w w' := by
 obtain ⟨l0, rfl, hr0, hm0, hw0, hc0⟩ := ReadsInt.ofRowC w0
 obtain ⟨k, h⟩ := P l0 hm0 y0 hw0
 refine (laws_FnTimesOf.calls k _ _ l0 true w (Kd.C_of_reads (d := (0 : Int)) (h1 := fun _ => rfl) hr0) hc0 h).mono ?_
 rintro e w' ⟨rfl, hd⟩
 exact ⟨rfl, hd⟩

end Go.Proofs.Ytacifhahfamipaa.P
