import Derived.Test.YtacifhahfamipaaPk2
import Derived.Test.YtacifhahfamipaaM1
import Derived.Test.YtacifhahfamipaaL1
namespace Go.Proofs.Ytacifhahfamipaa.P
open Go.RowKit Go.Proofs.YtacifhahfamipaaW.PrintWords Go.Proofs.YtacifhahfamipaaW.PrintLast Go.Proofs.YtacifhahfamipaaW.PrintMore
set_option linter.unusedVariables false
set_option linter.unusedSimpArgs false
theorem sets_and : ∀ a : Nat, a < 8 → ∀ b : Nat, b < 8 → (Go.bits .andNot .i64 (a : Int) (b : Int) == 0) = decide (a &&& b = a) := by decide +kernel
theorem sets_not : ∀ t : Nat, t < 4 → ∀ a : Nat, a < 2 ^ t → Go.bits .andNot .i64 ((2 ^ t - 1 : Nat) : Int) (a : Int) = ((2 ^ t - 1 - a : Nat) : Int) := by decide +kernel
set_option maxHeartbeats 4000000 in
set_option maxRecDepth 100000 in
theorem sets1 (a b : Nat) (ha : a < 8) (hb : b < 8) (w : World) : Calls Try.prog 70 (#[.int .i64 a, .int .i64 b] ++ #[]) w fun e w2 => e = .returned (.bool (decide (a &&& b = a))) ∧ Drawn0 w w2 := by
 have H := ak (sets_and a ha b hb)
 clear ha hb
 go_enter Try.func70, Try.ntmps70
 go_wp2
 go_ret
 exact ⟨(by rw [← H.out]; rfl), Drawn0.refl _⟩
set_option maxHeartbeats 4000000 in
set_option maxRecDepth 100000 in
theorem sets2 {w : World} (t : Nat) (ht : t < 4) (g a : Nat) (ha : a < 2 ^ t) (hg : w.cell? ⟨g, 0, none⟩ = some (.int .i64 ((2 ^ t - 1 : Nat) : Int))) : Calls Try.prog 71 (#[.int .i64 a] ++ #[.pointer (some ⟨g, 0, none⟩)]) w fun e w2 => e = .returned (.int .i64 ((2 ^ t - 1 - a : Nat) : Int)) ∧ Drawn0 w w2 := by
 have H := ak (sets_not t ht a ha)
 clear ha ht
 generalize ((2 ^ t - 1 : Nat) : Int) = m at H hg
 generalize ((2 ^ t - 1 - a : Nat) : Int) = r at H ⊢
 go_enter Try.func71, Try.ntmps71
 go_wp2
 go_ret
 exact ⟨(by rw [← H.out]; rfl), Drawn0.refl _⟩
set_option maxHeartbeats 8000000 in
set_option maxRecDepth 100000 in
theorem sets_at0 (w : World) : Calls Try.prog 23 #[.int .i64 0] w fun e w' => ∃ v0_ v1_ : Value, e = .returned (.tuple #[.agg #[v0_, v1_], .bool true]) ∧ Kd.S (Kd.slice 3 (Kd.int .i64)) 25 w' w.heap.size (fun k_ => some k_ ≠ (v1_ : Value).ownBlock) v0_ (madeU 1 fun a b => decide (a &&& b = a)) ∧ Kd.R (Kd.int .i64) 3 w' w.heap.size (fun _ => True) v1_ (madeN 1 fun a => ((2 ^ 0 - 1 - a : Nat) : Int)) ∧ Below w.heap.size w w' := by
 have hul := Try.underlying27
 have HL := ak (Live.start w)
 have s0 := ak True.intro
 go_enter Try.func23, Try.ntmps23
 go_wp2_with (first
  | (clear s0; (with_reducible refine gate_dst (N := 2) rfl ?_); refine armb_ (rs' := []) HL (fun HL_ => ?_); refine bx_ (N := 2) (cs := #[.slice none 0 0, .slice none 0 0]) (t := 27) ?_; intro g0 hg w1 hbox hb; have HL1 : Aside0 (Live w w1 [.box g0 #[.slice none 0 0, .slice none 0 0] 27]) := ⟨HL_.out.box hb hg hbox⟩; clear HL HL_ hb hg hbox; have HL := HL1; clear HL1; have hp0 : w1.cell? ⟨g0, 0, none⟩ = some (.slice none 0 0) := Live.cell [] HL.out 0 rfl; have hp1 : w1.cell? ⟨g0, 1, none⟩ = some (.slice none 0 0) := Live.cell [] HL.out 1 rfl; have hz0 := Live.frozen [] HL.out 0; have hz1 := Live.frozen [] HL.out 1; have s1 := ak True.intro)
  | (clear s1; (with_reducible refine gate_dst (N := 4) rfl ?_); refine armb_ (rs' := [.box g0 #[.slice none 0 0, .slice none 0 0] 27]) HL (fun HL_ => ?_); refine box_event ?hg (N := 4) ?hd (cs := #[.int .i64 0]) (t := 3) ?hr ?_; (case hd => rfl); (case hg => rfl); (case hr => first | (go_simp; done) | (go_simp; rfl)); intro g1 hg w2 hbox hb; have HL1 : Aside0 (Live w w2 [.box g1 #[.int .i64 0] 3, .box g0 #[.slice none 0 0, .slice none 0 0] 27]) := ⟨HL_.out.box hb hg hbox⟩; clear HL HL_ hb hg hbox; have HL := HL1; clear HL1; have hq0 : w2.cell? ⟨g1, 0, none⟩ = some (.int .i64 0) := Live.cell [] HL.out 0 rfl; have hy0 := Live.frozen [] HL.out 0; have s2 := ak True.intro)
  | (clear s2; go_at_call 63; refine arm_ (rs' := [.box g1 #[.int .i64 0] 3, .box g0 #[.slice none 0 0, .slice none 0 0] 27]) HL ?_; clear HL; intro HL; have HC := ak (Live.cell [] HL.out 0 rfl); (with_reducible refine (made_int 1 1 rfl (by omega) 70 71 #[] #[.pointer (some ⟨g1, 0, none⟩)] (enters_of Try.func70 (by kernel_rfl) rfl) (enters_of Try.func71 (by kernel_rfl) rfl) (fun a b => decide (a &&& b = a)) (fun a => ((2 ^ 0 - 1 - a : Nat) : Int)) ?u1 ?u2).mono ?_); (case u1 => exact fun w' a b _ ha hb => sets1 a b (by omega) (by omega) w'); (case u2 => exact fun w' a hw ha => sets2 0 (by omega) g1 a (by simpa using ha) ((hw.cell (World.block_lt_of_cell? _ _ HC.out)).trans HC.out)); rintro e w3 ⟨v0, v1, rfl, hS, hR, hb⟩; obtain ⟨A0, c0, e0⟩ := Kd.S_slice hS; subst e0; obtain ⟨A1, c1, e1⟩ := Kd.R_slice hR; subst e1; have HL1 := ak (HL.out.logic hS hR hb); clear HL HC hS hR hb; have HL := HL1; clear HL1; have hr0 : w3.cell? ⟨g0, 0, none⟩ = some (.slice none 0 0) := Live.cell [_, _] HL.out 0 rfl; have hr1 : w3.cell? ⟨g0, 1, none⟩ = some (.slice none 0 0) := Live.cell [_, _] HL.out 1 rfl; have hx0 := Live.frozen [_, _] HL.out 0; have hx1 := Live.frozen [_, _] HL.out 1; have s3 := ak True.intro))
 have HP := Live.put [_, _] (Live.put [_, _] HL.out 0 (.slice A0 (madeU 1 fun a b => decide (a &&& b = a)).length c0) rfl) 1 (.slice A1 (madeN 1 fun a => ((2 ^ 0 - 1 - a : Nat) : Int)).length c1) rfl
 refine bodyPost_ret (results_ct rfl _ _ g0 27 #[.slice A0 (madeU 1 fun a b => decide (a &&& b = a)).length c0, .slice A1 (madeN 1 fun a => ((2 ^ 0 - 1 - a : Nat) : Int)).length c1] (0, 0) _ rfl (Live.cells [_, _] HP) hul rfl (by kernel_rfl)) rfl ?_
 obtain ⟨q1, q2, q3⟩ := Live.ret HP
 exact ⟨_, _, rfl, q1, q2, q3⟩
set_option maxHeartbeats 8000000 in
set_option maxRecDepth 100000 in
theorem sets_at1 (w : World) : Calls Try.prog 23 #[.int .i64 1] w fun e w' => ∃ v0_ v1_ : Value, e = .returned (.tuple #[.agg #[v0_, v1_], .bool true]) ∧ Kd.S (Kd.slice 3 (Kd.int .i64)) 25 w' w.heap.size (fun k_ => some k_ ≠ (v1_ : Value).ownBlock) v0_ (madeU 2 fun a b => decide (a &&& b = a)) ∧ Kd.R (Kd.int .i64) 3 w' w.heap.size (fun _ => True) v1_ (madeN 2 fun a => ((2 ^ 1 - 1 - a : Nat) : Int)) ∧ Below w.heap.size w w' := by
 have hul := Try.underlying27
 have HL := ak (Live.start w)
 have s0 := ak True.intro
 go_enter Try.func23, Try.ntmps23
 go_wp2_with (first
  | (clear s0; (with_reducible refine gate_dst (N := 2) rfl ?_); refine armb_ (rs' := []) HL (fun HL_ => ?_); refine bx_ (N := 2) (cs := #[.slice none 0 0, .slice none 0 0]) (t := 27) ?_; intro g0 hg w1 hbox hb; have HL1 : Aside0 (Live w w1 [.box g0 #[.slice none 0 0, .slice none 0 0] 27]) := ⟨HL_.out.box hb hg hbox⟩; clear HL HL_ hb hg hbox; have HL := HL1; clear HL1; have hp0 : w1.cell? ⟨g0, 0, none⟩ = some (.slice none 0 0) := Live.cell [] HL.out 0 rfl; have hp1 : w1.cell? ⟨g0, 1, none⟩ = some (.slice none 0 0) := Live.cell [] HL.out 1 rfl; have hz0 := Live.frozen [] HL.out 0; have hz1 := Live.frozen [] HL.out 1; have s1 := ak True.intro)
  | (clear s1; (with_reducible refine gate_dst (N := 4) rfl ?_); refine armb_ (rs' := [.box g0 #[.slice none 0 0, .slice none 0 0] 27]) HL (fun HL_ => ?_); refine box_event ?hg (N := 4) ?hd (cs := #[.int .i64 0]) (t := 3) ?hr ?_; (case hd => rfl); (case hg => rfl); (case hr => first | (go_simp; done) | (go_simp; rfl)); intro g1 hg w2 hbox hb; have HL1 : Aside0 (Live w w2 [.box g1 #[.int .i64 0] 3, .box g0 #[.slice none 0 0, .slice none 0 0] 27]) := ⟨HL_.out.box hb hg hbox⟩; clear HL HL_ hb hg hbox; have HL := HL1; clear HL1; have hq0 : w2.cell? ⟨g1, 0, none⟩ = some (.int .i64 0) := Live.cell [] HL.out 0 rfl; have hy0 := Live.frozen [] HL.out 0; have s2 := ak True.intro)
  | (clear s2; go_at_call 63; refine arm_ (rs' := [.box g1 #[.int .i64 1] 3, .box g0 #[.slice none 0 0, .slice none 0 0] 27]) HL ?_; clear HL; intro HL; have HC := ak (Live.cell [] HL.out 0 rfl); (with_reducible refine (made_int 2 2 rfl (by omega) 70 71 #[] #[.pointer (some ⟨g1, 0, none⟩)] (enters_of Try.func70 (by kernel_rfl) rfl) (enters_of Try.func71 (by kernel_rfl) rfl) (fun a b => decide (a &&& b = a)) (fun a => ((2 ^ 1 - 1 - a : Nat) : Int)) ?u1 ?u2).mono ?_); (case u1 => exact fun w' a b _ ha hb => sets1 a b (by omega) (by omega) w'); (case u2 => exact fun w' a hw ha => sets2 1 (by omega) g1 a (by simpa using ha) ((hw.cell (World.block_lt_of_cell? _ _ HC.out)).trans HC.out)); rintro e w3 ⟨v0, v1, rfl, hS, hR, hb⟩; obtain ⟨A0, c0, e0⟩ := Kd.S_slice hS; subst e0; obtain ⟨A1, c1, e1⟩ := Kd.R_slice hR; subst e1; have HL1 := ak (HL.out.logic hS hR hb); clear HL HC hS hR hb; have HL := HL1; clear HL1; have hr0 : w3.cell? ⟨g0, 0, none⟩ = some (.slice none 0 0) := Live.cell [_, _] HL.out 0 rfl; have hr1 : w3.cell? ⟨g0, 1, none⟩ = some (.slice none 0 0) := Live.cell [_, _] HL.out 1 rfl; have hx0 := Live.frozen [_, _] HL.out 0; have hx1 := Live.frozen [_, _] HL.out 1; have s3 := ak True.intro))
 have HP := Live.put [_, _] (Live.put [_, _] HL.out 0 (.slice A0 (madeU 2 fun a b => decide (a &&& b = a)).length c0) rfl) 1 (.slice A1 (madeN 2 fun a => ((2 ^ 1 - 1 - a : Nat) : Int)).length c1) rfl
 refine bodyPost_ret (results_ct rfl _ _ g0 27 #[.slice A0 (madeU 2 fun a b => decide (a &&& b = a)).length c0, .slice A1 (madeN 2 fun a => ((2 ^ 1 - 1 - a : Nat) : Int)).length c1] (0, 0) _ rfl (Live.cells [_, _] HP) hul rfl (by kernel_rfl)) rfl ?_
 obtain ⟨q1, q2, q3⟩ := Live.ret HP
 exact ⟨_, _, rfl, q1, q2, q3⟩
set_option maxHeartbeats 8000000 in
set_option maxRecDepth 100000 in
theorem sets_at2 (w : World) : Calls Try.prog 23 #[.int .i64 2] w fun e w' => ∃ v0_ v1_ : Value, e = .returned (.tuple #[.agg #[v0_, v1_], .bool true]) ∧ Kd.S (Kd.slice 3 (Kd.int .i64)) 25 w' w.heap.size (fun k_ => some k_ ≠ (v1_ : Value).ownBlock) v0_ (madeU 4 fun a b => decide (a &&& b = a)) ∧ Kd.R (Kd.int .i64) 3 w' w.heap.size (fun _ => True) v1_ (madeN 4 fun a => ((2 ^ 2 - 1 - a : Nat) : Int)) ∧ Below w.heap.size w w' := by
 have hul := Try.underlying27
 have HL := ak (Live.start w)
 have s0 := ak True.intro
 go_enter Try.func23, Try.ntmps23
 go_wp2_with (first
  | (clear s0; (with_reducible refine gate_dst (N := 2) rfl ?_); refine armb_ (rs' := []) HL (fun HL_ => ?_); refine bx_ (N := 2) (cs := #[.slice none 0 0, .slice none 0 0]) (t := 27) ?_; intro g0 hg w1 hbox hb; have HL1 : Aside0 (Live w w1 [.box g0 #[.slice none 0 0, .slice none 0 0] 27]) := ⟨HL_.out.box hb hg hbox⟩; clear HL HL_ hb hg hbox; have HL := HL1; clear HL1; have hp0 : w1.cell? ⟨g0, 0, none⟩ = some (.slice none 0 0) := Live.cell [] HL.out 0 rfl; have hp1 : w1.cell? ⟨g0, 1, none⟩ = some (.slice none 0 0) := Live.cell [] HL.out 1 rfl; have hz0 := Live.frozen [] HL.out 0; have hz1 := Live.frozen [] HL.out 1; have s1 := ak True.intro)
  | (clear s1; (with_reducible refine gate_dst (N := 4) rfl ?_); refine armb_ (rs' := [.box g0 #[.slice none 0 0, .slice none 0 0] 27]) HL (fun HL_ => ?_); refine box_event ?hg (N := 4) ?hd (cs := #[.int .i64 0]) (t := 3) ?hr ?_; (case hd => rfl); (case hg => rfl); (case hr => first | (go_simp; done) | (go_simp; rfl)); intro g1 hg w2 hbox hb; have HL1 : Aside0 (Live w w2 [.box g1 #[.int .i64 0] 3, .box g0 #[.slice none 0 0, .slice none 0 0] 27]) := ⟨HL_.out.box hb hg hbox⟩; clear HL HL_ hb hg hbox; have HL := HL1; clear HL1; have hq0 : w2.cell? ⟨g1, 0, none⟩ = some (.int .i64 0) := Live.cell [] HL.out 0 rfl; have hy0 := Live.frozen [] HL.out 0; have s2 := ak True.intro)
  | (clear s2; go_at_call 63; refine arm_ (rs' := [.box g1 #[.int .i64 3] 3, .box g0 #[.slice none 0 0, .slice none 0 0] 27]) HL ?_; clear HL; intro HL; have HC := ak (Live.cell [] HL.out 0 rfl); (with_reducible refine (made_int 4 4 rfl (by omega) 70 71 #[] #[.pointer (some ⟨g1, 0, none⟩)] (enters_of Try.func70 (by kernel_rfl) rfl) (enters_of Try.func71 (by kernel_rfl) rfl) (fun a b => decide (a &&& b = a)) (fun a => ((2 ^ 2 - 1 - a : Nat) : Int)) ?u1 ?u2).mono ?_); (case u1 => exact fun w' a b _ ha hb => sets1 a b (by omega) (by omega) w'); (case u2 => exact fun w' a hw ha => sets2 2 (by omega) g1 a (by simpa using ha) ((hw.cell (World.block_lt_of_cell? _ _ HC.out)).trans HC.out)); rintro e w3 ⟨v0, v1, rfl, hS, hR, hb⟩; obtain ⟨A0, c0, e0⟩ := Kd.S_slice hS; subst e0; obtain ⟨A1, c1, e1⟩ := Kd.R_slice hR; subst e1; have HL1 := ak (HL.out.logic hS hR hb); clear HL HC hS hR hb; have HL := HL1; clear HL1; have hr0 : w3.cell? ⟨g0, 0, none⟩ = some (.slice none 0 0) := Live.cell [_, _] HL.out 0 rfl; have hr1 : w3.cell? ⟨g0, 1, none⟩ = some (.slice none 0 0) := Live.cell [_, _] HL.out 1 rfl; have hx0 := Live.frozen [_, _] HL.out 0; have hx1 := Live.frozen [_, _] HL.out 1; have s3 := ak True.intro))
 have HP := Live.put [_, _] (Live.put [_, _] HL.out 0 (.slice A0 (madeU 4 fun a b => decide (a &&& b = a)).length c0) rfl) 1 (.slice A1 (madeN 4 fun a => ((2 ^ 2 - 1 - a : Nat) : Int)).length c1) rfl
 refine bodyPost_ret (results_ct rfl _ _ g0 27 #[.slice A0 (madeU 4 fun a b => decide (a &&& b = a)).length c0, .slice A1 (madeN 4 fun a => ((2 ^ 2 - 1 - a : Nat) : Int)).length c1] (0, 0) _ rfl (Live.cells [_, _] HP) hul rfl (by kernel_rfl)) rfl ?_
 obtain ⟨q1, q2, q3⟩ := Live.ret HP
 exact ⟨_, _, rfl, q1, q2, q3⟩
set_option maxHeartbeats 8000000 in
set_option maxRecDepth 100000 in
theorem sets_at3 (w : World) : Calls Try.prog 23 #[.int .i64 3] w fun e w' => ∃ v0_ v1_ : Value, e = .returned (.tuple #[.agg #[v0_, v1_], .bool true]) ∧ Kd.S (Kd.slice 3 (Kd.int .i64)) 25 w' w.heap.size (fun k_ => some k_ ≠ (v1_ : Value).ownBlock) v0_ (madeU 8 fun a b => decide (a &&& b = a)) ∧ Kd.R (Kd.int .i64) 3 w' w.heap.size (fun _ => True) v1_ (madeN 8 fun a => ((2 ^ 3 - 1 - a : Nat) : Int)) ∧ Below w.heap.size w w' := by
 have hul := Try.underlying27
 have HL := ak (Live.start w)
 have s0 := ak True.intro
 go_enter Try.func23, Try.ntmps23
 go_wp2_with (first
  | (clear s0; (with_reducible refine gate_dst (N := 2) rfl ?_); refine armb_ (rs' := []) HL (fun HL_ => ?_); refine bx_ (N := 2) (cs := #[.slice none 0 0, .slice none 0 0]) (t := 27) ?_; intro g0 hg w1 hbox hb; have HL1 : Aside0 (Live w w1 [.box g0 #[.slice none 0 0, .slice none 0 0] 27]) := ⟨HL_.out.box hb hg hbox⟩; clear HL HL_ hb hg hbox; have HL := HL1; clear HL1; have hp0 : w1.cell? ⟨g0, 0, none⟩ = some (.slice none 0 0) := Live.cell [] HL.out 0 rfl; have hp1 : w1.cell? ⟨g0, 1, none⟩ = some (.slice none 0 0) := Live.cell [] HL.out 1 rfl; have hz0 := Live.frozen [] HL.out 0; have hz1 := Live.frozen [] HL.out 1; have s1 := ak True.intro)
  | (clear s1; (with_reducible refine gate_dst (N := 4) rfl ?_); refine armb_ (rs' := [.box g0 #[.slice none 0 0, .slice none 0 0] 27]) HL (fun HL_ => ?_); refine box_event ?hg (N := 4) ?hd (cs := #[.int .i64 0]) (t := 3) ?hr ?_; (case hd => rfl); (case hg => rfl); (case hr => first | (go_simp; done) | (go_simp; rfl)); intro g1 hg w2 hbox hb; have HL1 : Aside0 (Live w w2 [.box g1 #[.int .i64 0] 3, .box g0 #[.slice none 0 0, .slice none 0 0] 27]) := ⟨HL_.out.box hb hg hbox⟩; clear HL HL_ hb hg hbox; have HL := HL1; clear HL1; have hq0 : w2.cell? ⟨g1, 0, none⟩ = some (.int .i64 0) := Live.cell [] HL.out 0 rfl; have hy0 := Live.frozen [] HL.out 0; have s2 := ak True.intro)
  | (clear s2; go_at_call 63; refine arm_ (rs' := [.box g1 #[.int .i64 7] 3, .box g0 #[.slice none 0 0, .slice none 0 0] 27]) HL ?_; clear HL; intro HL; have HC := ak (Live.cell [] HL.out 0 rfl); (with_reducible refine (made_int 8 8 rfl (by omega) 70 71 #[] #[.pointer (some ⟨g1, 0, none⟩)] (enters_of Try.func70 (by kernel_rfl) rfl) (enters_of Try.func71 (by kernel_rfl) rfl) (fun a b => decide (a &&& b = a)) (fun a => ((2 ^ 3 - 1 - a : Nat) : Int)) ?u1 ?u2).mono ?_); (case u1 => exact fun w' a b _ ha hb => sets1 a b (by omega) (by omega) w'); (case u2 => exact fun w' a hw ha => sets2 3 (by omega) g1 a (by simpa using ha) ((hw.cell (World.block_lt_of_cell? _ _ HC.out)).trans HC.out)); rintro e w3 ⟨v0, v1, rfl, hS, hR, hb⟩; obtain ⟨A0, c0, e0⟩ := Kd.S_slice hS; subst e0; obtain ⟨A1, c1, e1⟩ := Kd.R_slice hR; subst e1; have HL1 := ak (HL.out.logic hS hR hb); clear HL HC hS hR hb; have HL := HL1; clear HL1; have hr0 : w3.cell? ⟨g0, 0, none⟩ = some (.slice none 0 0) := Live.cell [_, _] HL.out 0 rfl; have hr1 : w3.cell? ⟨g0, 1, none⟩ = some (.slice none 0 0) := Live.cell [_, _] HL.out 1 rfl; have hx0 := Live.frozen [_, _] HL.out 0; have hx1 := Live.frozen [_, _] HL.out 1; have s3 := ak True.intro))
 have HP := Live.put [_, _] (Live.put [_, _] HL.out 0 (.slice A0 (madeU 8 fun a b => decide (a &&& b = a)).length c0) rfl) 1 (.slice A1 (madeN 8 fun a => ((2 ^ 3 - 1 - a : Nat) : Int)).length c1) rfl
 refine bodyPost_ret (results_ct rfl _ _ g0 27 #[.slice A0 (madeU 8 fun a b => decide (a &&& b = a)).length c0, .slice A1 (madeN 8 fun a => ((2 ^ 3 - 1 - a : Nat) : Int)).length c1] (0, 0) _ rfl (Live.cells [_, _] HP) hul rfl (by kernel_rfl)) rfl ?_
 obtain ⟨q1, q2, q3⟩ := Live.ret HP
 exact ⟨_, _, rfl, q1, q2, q3⟩
set_option maxHeartbeats 8000000 in
set_option maxRecDepth 100000 in
theorem sets_none (n : Int) (hn : ¬ (0 ≤ n ∧ n ≤ 3)) (w : World) : Calls Try.prog 23 #[.int .i64 n] w fun e w' => ∃ v0_ v1_ : Value, e = .returned (.tuple #[.agg #[v0_, v1_], .bool false]) ∧ Kd.S (Kd.slice 3 (Kd.int .i64)) 25 w' w.heap.size (fun k_ => some k_ ≠ (v1_ : Value).ownBlock) v0_ [] ∧ Kd.R (Kd.int .i64) 3 w' w.heap.size (fun _ => True) v1_ [] ∧ Below w.heap.size w w' := by
 have hul := Try.underlying27
 have HL := ak (Live.start w)
 have s0 := ak True.intro
 by_cases k : n < 0
 ·
  have k1 : decide (n < 0) = true := dT_ k
  clear hn k
  go_enter Try.func23, Try.ntmps23
  go_wp2_with (first
   | (clear s0; (with_reducible refine gate_dst (N := 2) rfl ?_); refine armb_ (rs' := []) HL (fun HL_ => ?_); refine bx_ (N := 2) (cs := #[.slice none 0 0, .slice none 0 0]) (t := 27) ?_; intro g0 hg w1 hbox hb; have HL1 : Aside0 (Live w w1 [.box g0 #[.slice none 0 0, .slice none 0 0] 27]) := ⟨HL_.out.box hb hg hbox⟩; clear HL HL_ hb hg hbox; have HL := HL1; clear HL1; have hp0 : w1.cell? ⟨g0, 0, none⟩ = some (.slice none 0 0) := Live.cell [] HL.out 0 rfl; have hp1 : w1.cell? ⟨g0, 1, none⟩ = some (.slice none 0 0) := Live.cell [] HL.out 1 rfl; have hz0 := Live.frozen [] HL.out 0; have hz1 := Live.frozen [] HL.out 1; have s1 := ak True.intro))
  have HP := Live.put [] (Live.put [] HL.out 0 (.slice none 0 0) rfl) 1 (.slice none 0 0) rfl
  refine bodyPost_ret (results_ct rfl _ _ g0 27 #[.slice none 0 0, .slice none 0 0] (0, 0) _ rfl (Live.cells [] HP) hul rfl (by kernel_rfl)) rfl ?_
  exact ⟨_, _, rfl, Kd.S_nil _ _ _ _ _, Kd.R_nil _ _ _ _ _, HP.below⟩
 have k1 : decide (n < 0) = false := dF_ k
 have k2 : decide (n > 3) = true := dT_ (by omega)
 have k3 : decide (3 < n) = true := dT_ (by omega)
 clear hn k
 go_enter Try.func23, Try.ntmps23
 go_wp2_with (first
  | (clear s0; (with_reducible refine gate_dst (N := 2) rfl ?_); refine armb_ (rs' := []) HL (fun HL_ => ?_); refine bx_ (N := 2) (cs := #[.slice none 0 0, .slice none 0 0]) (t := 27) ?_; intro g0 hg w1 hbox hb; have HL1 : Aside0 (Live w w1 [.box g0 #[.slice none 0 0, .slice none 0 0] 27]) := ⟨HL_.out.box hb hg hbox⟩; clear HL HL_ hb hg hbox; have HL := HL1; clear HL1; have hp0 : w1.cell? ⟨g0, 0, none⟩ = some (.slice none 0 0) := Live.cell [] HL.out 0 rfl; have hp1 : w1.cell? ⟨g0, 1, none⟩ = some (.slice none 0 0) := Live.cell [] HL.out 1 rfl; have hz0 := Live.frozen [] HL.out 0; have hz1 := Live.frozen [] HL.out 1; have s1 := ak True.intro))
 have HP := Live.put [] (Live.put [] HL.out 0 (.slice none 0 0) rfl) 1 (.slice none 0 0) rfl
 refine bodyPost_ret (results_ct rfl _ _ g0 27 #[.slice none 0 0, .slice none 0 0] (0, 0) _ rfl (Live.cells [] HP) hul rfl (by kernel_rfl)) rfl ?_
 exact ⟨_, _, rfl, Kd.S_nil _ _ _ _ _, Kd.R_nil _ _ _ _ _, HP.below⟩
theorem setsOf_core (n : Int) (w : World) (r1 : List (List Int)) (r2 : List Int) (r3 : Bool) (h : setsF n = (r1, r2, r3)) :
 Calls Try.prog 23 #[.int .i64 n] w fun e w' => ∃ v0_ v1_ : Value, e = .returned (.tuple #[.agg #[v0_, v1_], .bool r3]) ∧ Kd.S (Kd.slice 3 (Kd.int .i64)) 25 w' w.heap.size (fun k_ => some k_ ≠ (v1_ : Value).ownBlock) v0_ r1 ∧ Kd.R (Kd.int .i64) 3 w' w.heap.size (fun _ => True) v1_ r2 ∧ Below w.heap.size w w' := by
 by_cases hn : 0 ≤ n ∧ n ≤ 3
 ·
  unfold setsF at h
  rw [if_pos hn] at h
  obtain ⟨e1, e23⟩ := Prod.mk.inj h
  obtain ⟨e2, e3⟩ := Prod.mk.inj e23
  subst e1
  subst e2
  subst e3
  have : n = 0 ∨ n = 1 ∨ n = 2 ∨ n = 3 := by omega
  rcases this with rfl | rfl | rfl | rfl
  ·
   exact sets_at0 w
  ·
   exact sets_at1 w
  ·
   exact sets_at2 w
  exact sets_at3 w
 unfold setsF at h
 rw [if_neg hn] at h
 obtain ⟨e1, e23⟩ := Prod.mk.inj h
 obtain ⟨e2, e3⟩ := Prod.mk.inj e23
 subst e1
 subst e2
 subst e3
 exact sets_none n hn w
end Go.Proofs.Ytacifhahfamipaa.P

