/- 9 texts of this seat joined: walks, and the laws of what they compute. -/
import Derived.Test.YtacifhahfamipaaPk2
import Derived.Test.YtacifhahfamipaaPk6
import Derived.Shelf.Abstract
import Derived.Deep.RegionWith
import Derived.Test.YtacifhahfamipaaPk5
namespace Go.Proofs.Ytacifhahfamipaa.P
open Go.RowKit Go.Proofs.YtacifhahfamipaaW.PrintWords Go.Proofs.YtacifhahfamipaaW.PrintLast Go.Proofs.YtacifhahfamipaaW.PrintMore
set_option linter.unusedVariables false
set_option linter.unusedSimpArgs false
theorem sets_and : ∀ a : Nat, a < 8 → ∀ b : Nat, b < 8 → (Go.bits .andNot .i64 (a : Int) (b : Int) == 0) = decide (a &&& b = a) := by decide +kernel
theorem sets_not : ∀ t : Nat, t < 4 → ∀ a : Nat, a < 2 ^ t → Go.bits .andNot .i64 ((2 ^ t - 1 : Nat) : Int) (a : Int) = ((2 ^ t - 1 - a : Nat) : Int) := by decide +kernel
set_option maxHeartbeats 4000000 in
set_option maxRecDepth 100000 in
theorem sets1 (a b : Nat) (ha : a < 8) (hb : b < 8) (w : World) : Calls Try.prog 70 (#[.int .i64 a, .int .i64 b] ++ #[]) w fun e w2 => e = .returned (.bool (decide (a &&& b = a))) ∧ Drawn0 w w2 := by
 have H := ak (sets_and a ha b hb)
 clear ha hb
 go_enter Try.func70, Try.ntmps70
 go_wp2
 go_ret
 exact ⟨(by rw [← H.out]; rfl), Drawn0.refl _⟩
set_option maxHeartbeats 4000000 in
set_option maxRecDepth 100000 in
theorem sets2 {w : World} (t : Nat) (ht : t < 4) (g a : Nat) (ha : a < 2 ^ t) (hg : w.cell? ⟨g, 0, none⟩ = some (.int .i64 ((2 ^ t - 1 : Nat) : Int))) : Calls Try.prog 71 (#[.int .i64 a] ++ #[.pointer (some ⟨g, 0, none⟩)]) w fun e w2 => e = .returned (.int .i64 ((2 ^ t - 1 - a : Nat) : Int)) ∧ Drawn0 w w2 := by
 have H := ak (sets_not t ht a ha)
 clear ha ht
 generalize ((2 ^ t - 1 : Nat) : Int) = m at H hg
 generalize ((2 ^ t - 1 - a : Nat) : Int) = r at H ⊢
 go_enter Try.func71, Try.ntmps71
 go_wp2
 go_ret
 exact ⟨(by rw [← H.out]; rfl), Drawn0.refl _⟩
set_option maxHeartbeats 8000000 in
set_option maxRecDepth 100000 in
theorem sets_at0 (w : World) : Calls Try.prog 23 #[.int .i64 0] w fun e w' => ∃ v0_ v1_ : Value, e = .returned (.tuple #[.agg #[v0_, v1_], .bool true]) ∧ Kd.S (Kd.slice 3 (Kd.int .i64)) 25 w' w.heap.size (fun k_ => some k_ ≠ (v1_ : Value).ownBlock) v0_ (madeU 1 fun a b => decide (a &&& b = a)) ∧ Kd.R (Kd.int .i64) 3 w' w.heap.size (fun _ => True) v1_ (madeN 1 fun a => ((2 ^ 0 - 1 - a : Nat) : Int)) ∧ Below w.heap.size w w' := by
 have hul := Try.underlying27
 have HL := ak (Live.start w)
 have s0 := ak True.intro
 go_enter Try.func23, Try.ntmps23
 go_wp2_with (first
  | (clear s0; (with_reducible refine gate_dst (N := 2) rfl ?_); refine armb_ (rs' := []) HL (fun HL_ => ?_); refine bx_ (N := 2) (cs := #[.slice none 0 0, .slice none 0 0]) (t := 27) ?_; intro g0 hg w1 hbox hb; have HL1 : Aside0 (Live w w1 [.box g0 #[.slice none 0 0, .slice none 0 0] 27]) := ⟨HL_.out.box hb hg hbox⟩; clear HL HL_ hb hg hbox; have HL := HL1; clear HL1; have hp0 : w1.cell? ⟨g0, 0, none⟩ = some (.slice none 0 0) := Live.cell [] HL.out 0 rfl; have hp1 : w1.cell? ⟨g0, 1, none⟩ = some (.slice none 0 0) := Live.cell [] HL.out 1 rfl; have hz0 := Live.frozen [] HL.out 0; have hz1 := Live.frozen [] HL.out 1; have s1 := ak True.intro)
  | (clear s1; (with_reducible refine gate_dst (N := 4) rfl ?_); refine armb_ (rs' := [.box g0 #[.slice none 0 0, .slice none 0 0] 27]) HL (fun HL_ => ?_); refine box_event ?hg (N := 4) ?hd (cs := #[.int .i64 0]) (t := 3) ?hr ?_; (case hd => rfl); (case hg => rfl); (case hr => first | (go_simp; done) | (go_simp; rfl)); intro g1 hg w2 hbox hb; have HL1 : Aside0 (Live w w2 [.box g1 #[.int .i64 0] 3, .box g0 #[.slice none 0 0, .slice none 0 0] 27]) := ⟨HL_.out.box hb hg hbox⟩; clear HL HL_ hb hg hbox; have HL := HL1; clear HL1; have hq0 : w2.cell? ⟨g1, 0, none⟩ = some (.int .i64 0) := Live.cell [] HL.out 0 rfl; have hy0 := Live.frozen [] HL.out 0; have s2 := ak True.intro)
  | (clear s2; go_at_call 63; refine arm_ (rs' := [.box g1 #[.int .i64 0] 3, .box g0 #[.slice none 0 0, .slice none 0 0] 27]) HL ?_; clear HL; intro HL; have HC := ak (Live.cell [] HL.out 0 rfl); (with_reducible refine (made_int 1 1 rfl (by omega) 70 71 #[] #[.pointer (some ⟨g1, 0, none⟩)] (enters_of Try.func70 (by kernel_rfl) rfl) (enters_of Try.func71 (by kernel_rfl) rfl) (fun a b => decide (a &&& b = a)) (fun a => ((2 ^ 0 - 1 - a : Nat) : Int)) ?u1 ?u2).mono ?_); (case u1 => exact fun w' a b _ ha hb => sets1 a b (by omega) (by omega) w'); (case u2 => exact fun w' a hw ha => sets2 0 (by omega) g1 a (by simpa using ha) ((hw.cell (World.block_lt_of_cell? _ _ HC.out)).trans HC.out)); rintro e w3 ⟨v0, v1, rfl, hS, hR, hb⟩; obtain ⟨A0, c0, e0⟩ := Kd.S_slice hS; subst e0; obtain ⟨A1, c1, e1⟩ := Kd.R_slice hR; subst e1; have HL1 := ak (HL.out.logic hS hR hb); clear HL HC hS hR hb; have HL := HL1; clear HL1; have hr0 : w3.cell? ⟨g0, 0, none⟩ = some (.slice none 0 0) := Live.cell [_, _] HL.out 0 rfl; have hr1 : w3.cell? ⟨g0, 1, none⟩ = some (.slice none 0 0) := Live.cell [_, _] HL.out 1 rfl; have hx0 := Live.frozen [_, _] HL.out 0; have hx1 := Live.frozen [_, _] HL.out 1; have s3 := ak True.intro))
 have HP := Live.put [_, _] (Live.put [_, _] HL.out 0 (.slice A0 (madeU 1 fun a b => decide (a &&& b = a)).length c0) rfl) 1 (.slice A1 (madeN 1 fun a => ((2 ^ 0 - 1 - a : Nat) : Int)).length c1) rfl
 refine bodyPost_ret (results_ct rfl _ _ g0 27 #[.slice A0 (madeU 1 fun a b => decide (a &&& b = a)).length c0, .slice A1 (madeN 1 fun a => ((2 ^ 0 - 1 - a : Nat) : Int)).length c1] (0, 0) _ rfl (Live.cells [_, _] HP) hul rfl (by kernel_rfl)) rfl ?_
 obtain ⟨q1, q2, q3⟩ := Live.ret HP
 exact ⟨_, _, rfl, q1, q2, q3⟩
set_option maxHeartbeats 8000000 in
set_option maxRecDepth 100000 in
theorem sets_at1 (w : World) : Calls Try.prog 23 #[.int .i64 1] w fun e w' => ∃ v0_ v1_ : Value, e = .returned (.tuple #[.agg #[v0_, v1_], .bool true]) ∧ Kd.S (Kd.slice 3 (Kd.int .i64)) 25 w' w.heap.size (fun k_ => some k_ ≠ (v1_ : Value).ownBlock) v0_ (madeU 2 fun a b => decide (a &&& b = a)) ∧ Kd.R (Kd.int .i64) 3 w' w.heap.size (fun _ => True) v1_ (madeN 2 fun a => ((2 ^ 1 - 1 - a : Nat) : Int)) ∧ Below w.heap.size w w' := by
 have hul := Try.underlying27
 have HL := ak (Live.start w)
 have s0 := ak True.intro
 go_enter Try.func23, Try.ntmps23
 go_wp2_with (first
  | (clear s0; (with_reducible refine gate_dst (N := 2) rfl ?_); refine armb_ (rs' := []) HL (fun HL_ => ?_); refine bx_ (N := 2) (cs := #[.slice none 0 0, .slice none 0 0]) (t := 27) ?_; intro g0 hg w1 hbox hb; have HL1 : Aside0 (Live w w1 [.box g0 #[.slice none 0 0, .slice none 0 0] 27]) := ⟨HL_.out.box hb hg hbox⟩; clear HL HL_ hb hg hbox; have HL := HL1; clear HL1; have hp0 : w1.cell? ⟨g0, 0, none⟩ = some (.slice none 0 0) := Live.cell [] HL.out 0 rfl; have hp1 : w1.cell? ⟨g0, 1, none⟩ = some (.slice none 0 0) := Live.cell [] HL.out 1 rfl; have hz0 := Live.frozen [] HL.out 0; have hz1 := Live.frozen [] HL.out 1; have s1 := ak True.intro)
  | (clear s1; (with_reducible refine gate_dst (N := 4) rfl ?_); refine armb_ (rs' := [.box g0 #[.slice none 0 0, .slice none 0 0] 27]) HL (fun HL_ => ?_); refine box_event ?hg (N := 4) ?hd (cs := #[.int .i64 0]) (t := 3) ?hr ?_; (case hd => rfl); (case hg => rfl); (case hr => first | (go_simp; done) | (go_simp; rfl)); intro g1 hg w2 hbox hb; have HL1 : Aside0 (Live w w2 [.box g1 #[.int .i64 0] 3, .box g0 #[.slice none 0 0, .slice none 0 0] 27]) := ⟨HL_.out.box hb hg hbox⟩; clear HL HL_ hb hg hbox; have HL := HL1; clear HL1; have hq0 : w2.cell? ⟨g1, 0, none⟩ = some (.int .i64 0) := Live.cell [] HL.out 0 rfl; have hy0 := Live.frozen [] HL.out 0; have s2 := ak True.intro)
  | (clear s2; go_at_call 63; refine arm_ (rs' := [.box g1 #[.int .i64 1] 3, .box g0 #[.slice none 0 0, .slice none 0 0] 27]) HL ?_; clear HL; intro HL; have HC := ak (Live.cell [] HL.out 0 rfl); (with_reducible refine (made_int 2 2 rfl (by omega) 70 71 #[] #[.pointer (some ⟨g1, 0, none⟩)] (enters_of Try.func70 (by kernel_rfl) rfl) (enters_of Try.func71 (by kernel_rfl) rfl) (fun a b => decide (a &&& b = a)) (fun a => ((2 ^ 1 - 1 - a : Nat) : Int)) ?u1 ?u2).mono ?_); (case u1 => exact fun w' a b _ ha hb => sets1 a b (by omega) (by omega) w'); (case u2 => exact fun w' a hw ha => sets2 1 (by omega) g1 a (by simpa using ha) ((hw.cell (World.block_lt_of_cell? _ _ HC.out)).trans HC.out)); rintro e w3 ⟨v0, v1, rfl, hS, hR, hb⟩; obtain ⟨A0, c0, e0⟩ := Kd.S_slice hS; subst e0; obtain ⟨A1, c1, e1⟩ := Kd.R_slice hR; subst e1; have HL1 := ak (HL.out.logic hS hR hb); clear HL HC hS hR hb; have HL := HL1; clear HL1; have hr0 : w3.cell? ⟨g0, 0, none⟩ = some (.slice none 0 0) := Live.cell [_, _] HL.out 0 rfl; have hr1 : w3.cell? ⟨g0, 1, none⟩ = some (.slice none 0 0) := Live.cell [_, _] HL.out 1 rfl; have hx0 := Live.frozen [_, _] HL.out 0; have hx1 := Live.frozen [_, _] HL.out 1; have s3 := ak True.intro))
 have HP := Live.put [_, _] (Live.put [_, _] HL.out 0 (.slice A0 (madeU 2 fun a b => decide (a &&& b = a)).length c0) rfl) 1 (.slice A1 (madeN 2 fun a => ((2 ^ 1 - 1 - a : Nat) : Int)).length c1) rfl
 refine bodyPost_ret (results_ct rfl _ _ g0 27 #[.slice A0 (madeU 2 fun a b => decide (a &&& b = a)).length c0, .slice A1 (madeN 2 fun a => ((2 ^ 1 - 1 - a : Nat) : Int)).length c1] (0, 0) _ rfl (Live.cells [_, _] HP) hul rfl (by kernel_rfl)) rfl ?_
 obtain ⟨q1, q2, q3⟩ := Live.ret HP
 exact ⟨_, _, rfl, q1, q2, q3⟩
set_option maxHeartbeats 8000000 in
set_option maxRecDepth 100000 in
theorem sets_at2 (w : World) : Calls Try.prog 23 #[.int .i64 2] w fun e w' => ∃ v0_ v1_ : Value, e = .returned (.tuple #[.agg #[v0_, v1_], .bool true]) ∧ Kd.S (Kd.slice 3 (Kd.int .i64)) 25 w' w.heap.size (fun k_ => some k_ ≠ (v1_ : Value).ownBlock) v0_ (madeU 4 fun a b => decide (a &&& b = a)) ∧ Kd.R (Kd.int .i64) 3 w' w.heap.size (fun _ => True) v1_ (madeN 4 fun a => ((2 ^ 2 - 1 - a : Nat) : Int)) ∧ Below w.heap.size w w' := by
 have hul := Try.underlying27
 have HL := ak (Live.start w)
 have s0 := ak True.intro
 go_enter Try.func23, Try.ntmps23
 go_wp2_with (first
  | (clear s0; (with_reducible refine gate_dst (N := 2) rfl ?_); refine armb_ (rs' := []) HL (fun HL_ => ?_); refine bx_ (N := 2) (cs := #[.slice none 0 0, .slice none 0 0]) (t := 27) ?_; intro g0 hg w1 hbox hb; have HL1 : Aside0 (Live w w1 [.box g0 #[.slice none 0 0, .slice none 0 0] 27]) := ⟨HL_.out.box hb hg hbox⟩; clear HL HL_ hb hg hbox; have HL := HL1; clear HL1; have hp0 : w1.cell? ⟨g0, 0, none⟩ = some (.slice none 0 0) := Live.cell [] HL.out 0 rfl; have hp1 : w1.cell? ⟨g0, 1, none⟩ = some (.slice none 0 0) := Live.cell [] HL.out 1 rfl; have hz0 := Live.frozen [] HL.out 0; have hz1 := Live.frozen [] HL.out 1; have s1 := ak True.intro)
  | (clear s1; (with_reducible refine gate_dst (N := 4) rfl ?_); refine armb_ (rs' := [.box g0 #[.slice none 0 0, .slice none 0 0] 27]) HL (fun HL_ => ?_); refine box_event ?hg (N := 4) ?hd (cs := #[.int .i64 0]) (t := 3) ?hr ?_; (case hd => rfl); (case hg => rfl); (case hr => first | (go_simp; done) | (go_simp; rfl)); intro g1 hg w2 hbox hb; have HL1 : Aside0 (Live w w2 [.box g1 #[.int .i64 0] 3, .box g0 #[.slice none 0 0, .slice none 0 0] 27]) := ⟨HL_.out.box hb hg hbox⟩; clear HL HL_ hb hg hbox; have HL := HL1; clear HL1; have hq0 : w2.cell? ⟨g1, 0, none⟩ = some (.int .i64 0) := Live.cell [] HL.out 0 rfl; have hy0 := Live.frozen [] HL.out 0; have s2 := ak True.intro)
  | (clear s2; go_at_call 63; refine arm_ (rs' := [.box g1 #[.int .i64 3] 3, .box g0 #[.slice none 0 0, .slice none 0 0] 27]) HL ?_; clear HL; intro HL; have HC := ak (Live.cell [] HL.out 0 rfl); (with_reducible refine (made_int 4 4 rfl (by omega) 70 71 #[] #[.pointer (some ⟨g1, 0, none⟩)] (enters_of Try.func70 (by kernel_rfl) rfl) (enters_of Try.func71 (by kernel_rfl) rfl) (fun a b => decide (a &&& b = a)) (fun a => ((2 ^ 2 - 1 - a : Nat) : Int)) ?u1 ?u2).mono ?_); (case u1 => exact fun w' a b _ ha hb => sets1 a b (by omega) (by omega) w'); (case u2 => exact fun w' a hw ha => sets2 2 (by omega) g1 a (by simpa using ha) ((hw.cell (World.block_lt_of_cell? _ _ HC.out)).trans HC.out)); rintro e w3 ⟨v0, v1, rfl, hS, hR, hb⟩; obtain ⟨A0, c0, e0⟩ := Kd.S_slice hS; subst e0; obtain ⟨A1, c1, e1⟩ := Kd.R_slice hR; subst e1; have HL1 := ak (HL.out.logic hS hR hb); clear HL HC hS hR hb; have HL := HL1; clear HL1; have hr0 : w3.cell? ⟨g0, 0, none⟩ = some (.slice none 0 0) := Live.cell [_, _] HL.out 0 rfl; have hr1 : w3.cell? ⟨g0, 1, none⟩ = some (.slice none 0 0) := Live.cell [_, _] HL.out 1 rfl; have hx0 := Live.frozen [_, _] HL.out 0; have hx1 := Live.frozen [_, _] HL.out 1; have s3 := ak True.intro))
 have HP := Live.put [_, _] (Live.put [_, _] HL.out 0 (.slice A0 (madeU 4 fun a b => decide (a &&& b = a)).length c0) rfl) 1 (.slice A1 (madeN 4 fun a => ((2 ^ 2 - 1 - a : Nat) : Int)).length c1) rfl
 refine bodyPost_ret (results_ct rfl _ _ g0 27 #[.slice A0 (madeU 4 fun a b => decide (a &&& b = a)).length c0, .slice A1 (madeN 4 fun a => ((2 ^ 2 - 1 - a : Nat) : Int)).length c1] (0, 0) _ rfl (Live.cells [_, _] HP) hul rfl (by kernel_rfl)) rfl ?_
 obtain ⟨q1, q2, q3⟩ := Live.ret HP
 exact ⟨_, _, rfl, q1, q2, q3⟩
set_option maxHeartbeats 8000000 in
set_option maxRecDepth 100000 in
theorem sets_at3 (w : World) : Calls Try.prog 23 #[.int .i64 3] w fun e w' => ∃ v0_ v1_ : Value, e = .returned (.tuple #[.agg #[v0_, v1_], .bool true]) ∧ Kd.S (Kd.slice 3 (Kd.int .i64)) 25 w' w.heap.size (fun k_ => some k_ ≠ (v1_ : Value).ownBlock) v0_ (madeU 8 fun a b => decide (a &&& b = a)) ∧ Kd.R (Kd.int .i64) 3 w' w.heap.size (fun _ => True) v1_ (madeN 8 fun a => ((2 ^ 3 - 1 - a : Nat) : Int)) ∧ Below w.heap.size w w' := by
 have hul := Try.underlying27
 have HL := ak (Live.start w)
 have s0 := ak True.intro
 go_enter Try.func23, Try.ntmps23
 go_wp2_with (first
  | (clear s0; (with_reducible refine gate_dst (N := 2) rfl ?_); refine armb_ (rs' := []) HL (fun HL_ => ?_); refine bx_ (N := 2) (cs := #[.slice none 0 0, .slice none 0 0]) (t := 27) ?_; intro g0 hg w1 hbox hb; have HL1 : Aside0 (Live w w1 [.box g0 #[.slice none 0 0, .slice none 0 0] 27]) := ⟨HL_.out.box hb hg hbox⟩; clear HL HL_ hb hg hbox; have HL := HL1; clear HL1; have hp0 : w1.cell? ⟨g0, 0, none⟩ = some (.slice none 0 0) := Live.cell [] HL.out 0 rfl; have hp1 : w1.cell? ⟨g0, 1, none⟩ = some (.slice none 0 0) := Live.cell [] HL.out 1 rfl; have hz0 := Live.frozen [] HL.out 0; have hz1 := Live.frozen [] HL.out 1; have s1 := ak True.intro)
  | (clear s1; (with_reducible refine gate_dst (N := 4) rfl ?_); refine armb_ (rs' := [.box g0 #[.slice none 0 0, .slice none 0 0] 27]) HL (fun HL_ => ?_); refine box_event ?hg (N := 4) ?hd (cs := #[.int .i64 0]) (t := 3) ?hr ?_; (case hd => rfl); (case hg => rfl); (case hr => first | (go_simp; done) | (go_simp; rfl)); intro g1 hg w2 hbox hb; have HL1 : Aside0 (Live w w2 [.box g1 #[.int .i64 0] 3, .box g0 #[.slice none 0 0, .slice none 0 0] 27]) := ⟨HL_.out.box hb hg hbox⟩; clear HL HL_ hb hg hbox; have HL := HL1; clear HL1; have hq0 : w2.cell? ⟨g1, 0, none⟩ = some (.int .i64 0) := Live.cell [] HL.out 0 rfl; have hy0 := Live.frozen [] HL.out 0; have s2 := ak True.intro)
  | (clear s2; go_at_call 63; refine arm_ (rs' := [.box g1 #[.int .i64 7] 3, .box g0 #[.slice none 0 0, .slice none 0 0] 27]) HL ?_; clear HL; intro HL; have HC := ak (Live.cell [] HL.out 0 rfl); (with_reducible refine (made_int 8 8 rfl (by omega) 70 71 #[] #[.pointer (some ⟨g1, 0, none⟩)] (enters_of Try.func70 (by kernel_rfl) rfl) (enters_of Try.func71 (by kernel_rfl) rfl) (fun a b => decide (a &&& b = a)) (fun a => ((2 ^ 3 - 1 - a : Nat) : Int)) ?u1 ?u2).mono ?_); (case u1 => exact fun w' a b _ ha hb => sets1 a b (by omega) (by omega) w'); (case u2 => exact fun w' a hw ha => sets2 3 (by omega) g1 a (by simpa using ha) ((hw.cell (World.block_lt_of_cell? _ _ HC.out)).trans HC.out)); rintro e w3 ⟨v0, v1, rfl, hS, hR, hb⟩; obtain ⟨A0, c0, e0⟩ := Kd.S_slice hS; subst e0; obtain ⟨A1, c1, e1⟩ := Kd.R_slice hR; subst e1; have HL1 := ak (HL.out.logic hS hR hb); clear HL HC hS hR hb; have HL := HL1; clear HL1; have hr0 : w3.cell? ⟨g0, 0, none⟩ = some (.slice none 0 0) := Live.cell [_, _] HL.out 0 rfl; have hr1 : w3.cell? ⟨g0, 1, none⟩ = some (.slice none 0 0) := Live.cell [_, _] HL.out 1 rfl; have hx0 := Live.frozen [_, _] HL.out 0; have hx1 := Live.frozen [_, _] HL.out 1; have s3 := ak True.intro))
 have HP := Live.put [_, _] (Live.put [_, _] HL.out 0 (.slice A0 (madeU 8 fun a b => decide (a &&& b = a)).length c0) rfl) 1 (.slice A1 (madeN 8 fun a => ((2 ^ 3 - 1 - a : Nat) : Int)).length c1) rfl
 refine bodyPost_ret (results_ct rfl _ _ g0 27 #[.slice A0 (madeU 8 fun a b => decide (a &&& b = a)).length c0, .slice A1 (madeN 8 fun a => ((2 ^ 3 - 1 - a : Nat) : Int)).length c1] (0, 0) _ rfl (Live.cells [_, _] HP) hul rfl (by kernel_rfl)) rfl ?_
 obtain ⟨q1, q2, q3⟩ := Live.ret HP
 exact ⟨_, _, rfl, q1, q2, q3⟩
set_option maxHeartbeats 8000000 in
set_option maxRecDepth 100000 in
theorem sets_none (n : Int) (hn : ¬ (0 ≤ n ∧ n ≤ 3)) (w : World) : Calls Try.prog 23 #[.int .i64 n] w fun e w' => ∃ v0_ v1_ : Value, e = .returned (.tuple #[.agg #[v0_, v1_], .bool false]) ∧ Kd.S (Kd.slice 3 (Kd.int .i64)) 25 w' w.heap.size (fun k_ => some k_ ≠ (v1_ : Value).ownBlock) v0_ [] ∧ Kd.R (Kd.int .i64) 3 w' w.heap.size (fun _ => True) v1_ [] ∧ Below w.heap.size w w' := by
 have hul := Try.underlying27
 have HL := ak (Live.start w)
 have s0 := ak True.intro
 by_cases k : n < 0
 ·
  have k1 : decide (n < 0) = true := dT_ k
  clear hn k
  go_enter Try.func23, Try.ntmps23
  go_wp2_with (first
   | (clear s0; (with_reducible refine gate_dst (N := 2) rfl ?_); refine armb_ (rs' := []) HL (fun HL_ => ?_); refine bx_ (N := 2) (cs := #[.slice none 0 0, .slice none 0 0]) (t := 27) ?_; intro g0 hg w1 hbox hb; have HL1 : Aside0 (Live w w1 [.box g0 #[.slice none 0 0, .slice none 0 0] 27]) := ⟨HL_.out.box hb hg hbox⟩; clear HL HL_ hb hg hbox; have HL := HL1; clear HL1; have hp0 : w1.cell? ⟨g0, 0, none⟩ = some (.slice none 0 0) := Live.cell [] HL.out 0 rfl; have hp1 : w1.cell? ⟨g0, 1, none⟩ = some (.slice none 0 0) := Live.cell [] HL.out 1 rfl; have hz0 := Live.frozen [] HL.out 0; have hz1 := Live.frozen [] HL.out 1; have s1 := ak True.intro))
  have HP := Live.put [] (Live.put [] HL.out 0 (.slice none 0 0) rfl) 1 (.slice none 0 0) rfl
  refine bodyPost_ret (results_ct rfl _ _ g0 27 #[.slice none 0 0, .slice none 0 0] (0, 0) _ rfl (Live.cells [] HP) hul rfl (by kernel_rfl)) rfl ?_
  exact ⟨_, _, rfl, Kd.S_nil _ _ _ _ _, Kd.R_nil _ _ _ _ _, HP.below⟩
 have k1 : decide (n < 0) = false := dF_ k
 have k2 : decide (n > 3) = true := dT_ (by omega)
 have k3 : decide (3 < n) = true := dT_ (by omega)
 clear hn k
 go_enter Try.func23, Try.ntmps23
 go_wp2_with (first
  | (clear s0; (with_reducible refine gate_dst (N := 2) rfl ?_); refine armb_ (rs' := []) HL (fun HL_ => ?_); refine bx_ (N := 2) (cs := #[.slice none 0 0, .slice none 0 0]) (t := 27) ?_; intro g0 hg w1 hbox hb; have HL1 : Aside0 (Live w w1 [.box g0 #[.slice none 0 0, .slice none 0 0] 27]) := ⟨HL_.out.box hb hg hbox⟩; clear HL HL_ hb hg hbox; have HL := HL1; clear HL1; have hp0 : w1.cell? ⟨g0, 0, none⟩ = some (.slice none 0 0) := Live.cell [] HL.out 0 rfl; have hp1 : w1.cell? ⟨g0, 1, none⟩ = some (.slice none 0 0) := Live.cell [] HL.out 1 rfl; have hz0 := Live.frozen [] HL.out 0; have hz1 := Live.frozen [] HL.out 1; have s1 := ak True.intro))
 have HP := Live.put [] (Live.put [] HL.out 0 (.slice none 0 0) rfl) 1 (.slice none 0 0) rfl
 refine bodyPost_ret (results_ct rfl _ _ g0 27 #[.slice none 0 0, .slice none 0 0] (0, 0) _ rfl (Live.cells [] HP) hul rfl (by kernel_rfl)) rfl ?_
 exact ⟨_, _, rfl, Kd.S_nil _ _ _ _ _, Kd.R_nil _ _ _ _ _, HP.below⟩
theorem setsOf_core (n : Int) (w : World) (r1 : List (List Int)) (r2 : List Int) (r3 : Bool) (h : setsF n = (r1, r2, r3)) :
 Calls Try.prog 23 #[.int .i64 n] w fun e w' => ∃ v0_ v1_ : Value, e = .returned (.tuple #[.agg #[v0_, v1_], .bool r3]) ∧ Kd.S (Kd.slice 3 (Kd.int .i64)) 25 w' w.heap.size (fun k_ => some k_ ≠ (v1_ : Value).ownBlock) v0_ r1 ∧ Kd.R (Kd.int .i64) 3 w' w.heap.size (fun _ => True) v1_ r2 ∧ Below w.heap.size w w' := by
 by_cases hn : 0 ≤ n ∧ n ≤ 3
 ·
  unfold setsF at h
  rw [if_pos hn] at h
  obtain ⟨e1, e23⟩ := Prod.mk.inj h
  obtain ⟨e2, e3⟩ := Prod.mk.inj e23
  subst e1
  subst e2
  subst e3
  have : n = 0 ∨ n = 1 ∨ n = 2 ∨ n = 3 := by omega
  rcases this with rfl | rfl | rfl | rfl
  ·
   exact sets_at0 w
  ·
   exact sets_at1 w
  ·
   exact sets_at2 w
  exact sets_at3 w
 unfold setsF at h
 rw [if_neg hn] at h
 obtain ⟨e1, e23⟩ := Prod.mk.inj h
 obtain ⟨e2, e3⟩ := Prod.mk.inj e23
 subst e1
 subst e2
 subst e3
 exact sets_none n hn w
end Go.Proofs.Ytacifhahfamipaa.P

namespace Go.Proofs.Ytacifhahfamipaa.P
open Go.RowKit Go.Proofs.YtacifhahfamipaaW.PrintWords Go.Proofs.YtacifhahfamipaaW.PrintLast Go.Proofs.YtacifhahfamipaaW.PrintMore Go.Proofs.Cl
set_option linter.unusedVariables false
theorem impl_SetsOf.calls (a0 : Int) (r1 : List (List Int)) (r2 : List Int) (r3 : Bool) (w : World) (h : impl_SetsOf.f a0 = some (r1, r2, r3)) :
    Calls Try.prog 23 #[.int .i64 a0] w fun e w' => ∃ v0_ v1_ : Value, e = .returned (.tuple #[.agg #[v0_, v1_], .bool r3]) ∧ Kd.S (Kd.slice 3 (Kd.int .i64)) 25 w' w.heap.size (fun k_ => some k_ ≠ (v1_ : Value).ownBlock) v0_ r1 ∧ Kd.R (Kd.int .i64) 3 w' w.heap.size (fun _ => True) v1_ r2 ∧ Below w.heap.size w w' := setsOf_core a0 w  r1 r2 r3 (Option.some.inj h)
end Go.Proofs.Ytacifhahfamipaa.P

namespace Go.Proofs.Ytacifhahfamipaa.P
open Go.RowKit Go.Proofs.YtacifhahfamipaaW.PrintWords Go.Proofs.YtacifhahfamipaaW.PrintLast Go.Proofs.YtacifhahfamipaaW.PrintMore
set_option linter.unusedVariables false
set_option linter.unusedSimpArgs false
set_option maxHeartbeats 4000000 in
set_option maxRecDepth 100000 in
theorem every_inv {w : World} {g n c : Nat} {A : Option Addr} (k : Nat) (cap : Array Value) (hk : Enters Try.prog k) (I : Nat → Nat → World → Prop) (Out : World → Prop)
 (hg : ∀ i j w', I i j w' → w'.cell? ⟨g, 0, none⟩ = some (.slice A n c)) (hn : n ≤ 1000) (h0 : I 0 0 w) (hrow : ∀ i w', i < n → I i n w' → I (i + 1) 0 w')
 (hstep : ∀ i j w', i < n → j < n → I i j w' → Calls Try.prog k (#[.int .i64 i, .int .i64 j] ++ cap) w' fun e w'' => ∃ b, e = .returned (.bool b) ∧ (b = true → I i (j + 1) w'') ∧ (b = false → Out w'')) :
 Calls Try.prog 74 #[.pointer (some ⟨g, 0, none⟩), .func (.func k) #[] cap] w fun e w' => (e = .returned (.bool true) ∧ I n 0 w') ∨ (e = .returned (.bool false) ∧ Out w') := by
 have eg : ∀ (args : Array Value) (w : World), (callFunc k args).run Try.prog w = .ok (.enter k args) w := hk
 have HG := ak hg
 have HS := ak hstep
 have HR := ak hrow
 have hc0 := hg 0 0 w h0
 have H0 := ak h0
 clear hg hstep hrow hk h0
 go_enter Try.func74, Try.ntmps74
 go_wp2
 go_loopw [12] (fun a0 wr => ∃ i : Nat, i ≤ n ∧ a0 = .int .i64 i ∧ Aside0 (I i 0 wr)) (fun a0 _ => n - (intOf a0).toNat)
 case atStart => exact ⟨0, Nat.zero_le _, rfl, H0⟩
 case round =>
  obtain ⟨i, hi, rfl, HI⟩ := hrel
  by_cases hlt : i < n
  ·
   have hc1 := HG.out i 0 _ HI.out
   go_wp2
   obtain ⟨W1, hW1⟩ : ∃ W1, W1 = wr := ⟨_, rfl⟩
   go_loopw [20] (fun a1 wr => ∃ j : Nat, j ≤ n ∧ a1 = .int .i64 j ∧ Aside0 (I i j wr)) (fun a1 _ => n - (intOf a1).toNat)
   case atStart => exact ⟨0, Nat.zero_le _, rfl, HI⟩
   case round =>
    obtain ⟨j, hj, rfl, HJ⟩ := hrel
    by_cases hlj : j < n
    ·
     have HC := ak (HS.out i j _ hlt hlj HJ.out)
     go_wp2_with (go_at_fn k; refine HC.out.mono ?_; rintro e w2 ⟨b, rfl, hT, hF⟩; have HT := ak hT; have HF := ak hF; clear hT hF; cases b)
     ·
      go_ret
      exact Or.inr ⟨rfl, HF.out (by first | trivial | rfl)⟩
     go_roundw
     case rel => exact ⟨j + 1, (by omega), (by go_num), ⟨HT.out (by first | trivial | rfl)⟩⟩
     case measure => simp [intOf]; omega
    have e : j = n := by omega
    subst e
    have HN := ak (HR.out i _ hlt HJ.out)
    go_wp2
    go_roundw
    case rel => exact ⟨i + 1, (by omega), (by go_num), HN⟩
    case measure => simp [intOf]; omega
  have e : i = n := by omega
  subst e
  go_wp2
  go_ret
  exact Or.inl ⟨rfl, HI.out⟩
theorem pure_every {W : World} {g n c B : Nat} {A : Option Addr} (k : Nat) (hk : Enters Try.prog k) (P : Nat → Nat → Prop) [∀ a b, Decidable (P a b)] (hc : W.cell? ⟨g, 0, none⟩ = some (.slice A n c)) (hn : n ≤ 1000)
 (hF : ∀ w' (i j : Nat), Drawn0 W w' → i < n → j < n → Calls Try.prog k #[.int .i64 i, .int .i64 j, .pointer (some ⟨B, 0, none⟩)] w' fun e w2 => e = .returned (.bool (decide (P i j))) ∧ Drawn0 w' w2) :
 Calls Try.prog 74 #[.pointer (some ⟨g, 0, none⟩), .func (.func k) #[] #[.pointer (some ⟨B, 0, none⟩)]] W fun e w' => e = .returned (.bool (decide (∀ a, a < n → ∀ b, b < n → P a b))) ∧ Drawn0 W w' := by
 have tr : ∀ {w1 w2 : World}, Drawn0 W w1 → Drawn0 w1 w2 → Drawn0 W w2 := by
  rintro w1 w2 ⟨a, rfl⟩ ⟨b, rfl⟩
  exact ⟨⟨a + b, World.drewN_drewN ..⟩⟩
 refine (every_inv (g := g) (n := n) (c := c) (A := A) k _ hk (fun i j w' => Drawn0 W w' ∧ ∀ a b, (a < i ∧ b < n ∨ a = i ∧ b < j) → P a b) (fun w' => Drawn0 W w' ∧ ¬ ∀ a, a < n → ∀ b, b < n → P a b) ?_ hn ?_ ?_ ?_).mono ?_
 ·
  rintro i j w' ⟨⟨m, rfl⟩, _⟩
  exact hc
 ·
  exact ⟨Drawn0.refl _, fun a b h => by omega⟩
 ·
  rintro i w' hi ⟨hD, h⟩
  exact ⟨hD, fun a b q => h a b (by omega)⟩
 ·
  rintro i j w' hi hj ⟨hD, h⟩
  refine (hF w' i j hD hi hj).mono ?_
  rintro e w2 ⟨rfl, hD2⟩
  refine ⟨_, rfl, fun q => ⟨tr hD hD2, fun a b r => ?_⟩, fun q => ⟨tr hD hD2, fun r => absurd (r i hi j hj) (of_decide_eq_false q)⟩⟩
  by_cases e : a = i ∧ b = j
  ·
   obtain ⟨rfl, rfl⟩ := e
   exact oe_ q
  exact h a b (by omega)
 rintro e w' (⟨rfl, hD, h⟩ | ⟨rfl, hD, h⟩)
 ·
  exact ⟨(by rw [dT_ (fun a ha b hb => h a b (by omega))]), hD⟩
 exact ⟨(by rw [dF_ h]), hD⟩
end Go.Proofs.Ytacifhahfamipaa.P

namespace Go.Proofs.Ytacifhahfamipaa.P
open Go.RowKit Go.Proofs.YtacifhahfamipaaW.PrintWords Go.Proofs.YtacifhahfamipaaW.PrintLast Go.Proofs.YtacifhahfamipaaW.PrintMore Go.Proofs.Cl
set_option linter.unusedVariables false
set_option linter.unusedSimpArgs false
theorem dec_and {p q : Prop} [Decidable p] [Decidable q] (h : p) : decide (p ∧ q) = decide q := by simp [h]
theorem keeps_reads {w : World} {g : Nat} {u : List (List Int)} {nt : List Int} {no yes : Int} (h : AlgAt w g u (mtab u) (jtab u) nt no yes) (hl : OL u nt) {a b : Int} (ha : 0 ≤ a ∧ a < u.length) (hb : 0 ≤ b ∧ b < u.length) :
 ∃ (v y z r : Int) (ad ar ae bo am an2 an : Addr) (bu be ba bn c1 c2 c3 : Nat), rdN u a.toNat b.toNat = v ∧ jn u a (mt u b (rd nt a)) = r ∧ (0 ≤ y ∧ y < (u.length : Int)) ∧ (0 ≤ z ∧ z < (u.length : Int)) ∧
  w.cell? ⟨g, 0, none⟩ = some (.slice (some ad) u.length bu) ∧ w.cell? (ad.add a.toNat) = some (.slice (some ar) u.length c1) ∧ w.cell? (ar.add b.toNat) = some (.int .i64 v) ∧
  w.cell? ⟨g, 2, none⟩ = some (.slice (some ae) u.length be) ∧ w.cell? (ae.add a.toNat) = some (.slice (some bo) u.length c2) ∧
  w.cell? ⟨g, 1, none⟩ = some (.slice (some am) u.length ba) ∧ w.cell? (am.add b.toNat) = some (.slice (some an2) u.length c3) ∧
  w.cell? ⟨g, 3, none⟩ = some (.slice (some an) u.length bn) ∧ w.cell? (an.add a.toNat) = some (.int .i64 y) ∧ w.cell? (an2.add y.toNat) = some (.int .i64 z) ∧ w.cell? (bo.add z.toNat) = some (.int .i64 r) := by
 obtain ⟨Bu, bu, Ba, ba, Bo, be, Bn, bn, h0, h1, h2, h3, h4, h5, h6, h7, h8⟩ := h
 have hy := ng_in hl ha
 have hz := mt_in hl.1 hb hy
 have hlm : (mtab u).length = u.length := by simp [mtab]
 have hlj : (jtab u).length = u.length := by simp [jtab]
 rw [hlm, hlj, hl.2.1] at h0
 obtain ⟨ad, A0, c1, e1, k1, k2, k3⟩ := at_L1 h1 a ha.1 ha.2
 have hr : (rd_L1 u a).length = u.length := by obtain ⟨n, rfl, hn⟩ := Q.nat_of ha; rw [Q.row_nat]; exact hl.1.1.row hn
 rw [hr] at k1 k3
 obtain ⟨ar, e2, k4⟩ := Kd.at_int k3 b hb.1 hb.2
 obtain ⟨ae, bo, c2, e3, k5, k6⟩ := tab_row (f := joinI u) rfl h5 ha
 obtain ⟨am, an2, c3, e4, k7, k8⟩ := tab_row (f := meetI u) rfl h3 hb
 obtain ⟨an, e5, k9⟩ := Kd.at_int h7 a ha.1 (by rw [hl.2.1]; exact ha.2)
 subst e1
 subst e2
 subst e3
 subst e4
 subst e5
 have hv : rdN u a.toNat b.toNat = rd (rd_L1 u a) b := by
  obtain ⟨n, rfl, hn⟩ := Q.nat_of ha
  obtain ⟨m, rfl, hm⟩ := Q.nat_of hb
  rw [Int.toNat_natCast, Int.toNat_natCast, Q.at_nat]
 exact ⟨_, _, _, _, ad, ar, ae, bo, am, an2, an, bu, be, ba, bn, c1, c2, c3, hv, rfl, hy, hz, (blk_cell h0 0).trans rfl, k1, k4, (blk_cell h0 2).trans rfl, k5, (blk_cell h0 1).trans rfl, k7, (blk_cell h0 3).trans rfl, k9, k8 _ hy, k6 _ hz⟩
set_option maxHeartbeats 4000000 in
set_option maxRecDepth 100000 in
theorem keeps1_calls {w : World} {B g : Nat} {u : List (List Int)} {nt : List Int} {no yes : Int} (hB : w.cell? ⟨B, 0, none⟩ = some (.pointer (some ⟨g, 0, none⟩))) (h : AlgAt w g u (mtab u) (jtab u) nt no yes) (hl : OL u nt) {a b : Int} (ha : 0 ≤ a ∧ a < u.length) (hb : 0 ≤ b ∧ b < u.length) :
 Calls Try.prog 75 #[.int .i64 a, .int .i64 b, .pointer (some ⟨B, 0, none⟩)] w fun e w' => e = .returned (.bool (decide (rdN u a.toNat b.toNat = 0 ∨ jn u a (mt u b (rd nt a)) = b))) ∧ Drawn0 w w' := by
 obtain ⟨v, y, z, r, ad, ar, ae, bo, am, an2, an, bu, be, ba, bn, c1, c2, c3, ev, er, ⟨hy0, hy1⟩, ⟨hz0, hz1⟩, f1, f2, f3, f4, f5, f6, f7, f8, f9, f10, f11⟩ := keeps_reads h hl ha hb
 have f0 := hB
 rw [ev, er]
 clear h hl hB ev er
 obtain ⟨ha0, ha1⟩ := ha
 obtain ⟨hb0, hb1⟩ := hb
 by_cases hv : v = 0
 ·
  subst hv
  have HR : Aside0 (decide ((0 : Int) = 0 ∨ r = b) = true) := ⟨dT_ (Or.inl rfl)⟩
  clear f4 f5 f6 f7 f8 f9 f10 f11 hy0 hy1 hz0 hz1
  go_enter Try.func75, Try.ntmps75
  try go_wp2
  refine start_ (n := 41) (S := fun w' => w'.cell? ⟨B, 0, none⟩ = some (.pointer (some ⟨g, 0, none⟩)) ∧ w'.cell? ⟨g, 0, none⟩ = some (.slice (some ad) u.length bu) ∧ w'.cell? (ad.add a.toNat) = some (.slice (some ar) u.length c1) ∧ w'.cell? (ar.add b.toNat) = some (.int .i64 0)) (ds := []) (bA 41 0) (by kernel_rfl) rfl rfl ⟨f0, f1, f2, f3⟩ (fun hHeld => ?_)
  refine tk_ (i := 0) (N := some 6) (bA 41 1) ?_
  refine pu_ (i := 1) (N := some 7) (bA 41 3) ?_
  refine pu_ (i := 2) (N := some 8) (bA 41 7) ?_
  refine tk_ (i := 3) (N := some 9) (bA 41 15) ?_
  refine pu_ (i := 4) (N := some 10) (bA 41 31) ?_
  refine pu_ (i := 5) (N := some 11) (bA 41 63) ?_
  refine tk_ (i := 6) (N := some 12) (bA 41 127) ?_
  refine pu_ (i := 7) (N := some 13) (bA 41 255) ?_
  refine pu_ (i := 8) (N := some 14) (bA 41 511) ?_
  refine tk_ (i := 9) (N := some 15) (bA 41 1023) ?_
  refine pu_ (i := 10) (N := some 16) (bA 41 2047) ?_
  refine pu_ (i := 11) (N := some 17) (bA 41 4095) ?_
  refine of_ (i := 12) (N := some 18) (bA 41 8191) ?_
  refine of_ (i := 13) (N := some 19) (bA 41 16383) ?_
  refine of_ (i := 14) (N := some 20) (bA 41 32767) ?_
  refine of_ (i := 15) (N := some 21) (bA 41 65535) ?_
  refine of_ (i := 16) (N := some 22) (bA 41 131071) ?_
  refine of_ (i := 17) (N := some 23) (bA 41 262143) ?_
  refine of_ (i := 18) (N := some 24) (bA 41 524287) ?_
  refine of_ (i := 19) (N := some 25) (bA 41 1048575) ?_
  refine of_ (i := 20) (N := some 26) (bA 41 2097151) ?_
  refine of_ (i := 21) (N := some 27) (bA 41 4194303) ?_
  refine of_ (i := 22) (N := some 28) (bA 41 8388607) ?_
  refine of_ (i := 23) (N := some 29) (bA 41 16777215) ?_
  refine of_ (i := 24) (N := some 30) (bA 41 33554431) ?_
  refine of_ (i := 25) (N := some 31) (bA 41 67108863) ?_
  refine of_ (i := 26) (N := some 32) (bA 41 134217727) ?_
  refine of_ (i := 27) (N := some 33) (bA 41 268435455) ?_
  refine of_ (i := 28) (N := some 34) (bA 41 536870911) ?_
  refine of_ (i := 29) (N := some 35) (bA 41 1073741823) ?_
  refine of_ (i := 30) (N := some 36) (bA 41 2147483647) ?_
  refine of_ (i := 31) (N := some 37) (bA 41 4294967295) ?_
  refine of_ (i := 32) (N := some 38) (bA 41 8589934591) ?_
  refine of_ (i := 33) (N := some 39) (bA 41 17179869183) ?_
  refine of_ (i := 34) (N := some 40) (bA 41 34359738367) ?_
  refine of_ (i := 35) (N := some 41) (bA 41 68719476735) ?_
  refine of_ (i := 36) (N := some 42) (bA 41 137438953471) ?_
  refine of_ (i := 37) (N := some 43) (bA 41 274877906943) ?_
  refine of_ (i := 38) (N := some 44) (bA 41 549755813887) ?_
  refine pu_ (i := 39) (N := some 45) (bA 41 1099511627775) ?_
  refine pu_ (i := 40) (N := some 5) (bA 41 2199023255551) ?_
  refine done_ (by kernel_rfl) ?_
  try go_wp2
  go_ret
  exact ⟨(by first | rfl | (rw [HR.out]; rfl)), ⟨_, rfl⟩⟩
 have HR : Aside0 (decide (v = 0 ∨ r = b) = (r == b)) := ⟨(by rw [Bool.eq_iff_iff, decide_eq_true_iff, beq_iff_eq]; exact ⟨fun q => q.resolve_left hv, Or.inr⟩)⟩
 have hv0 : (v == 0) = false := by simpa using hv
 go_enter Try.func75, Try.ntmps75
 try go_wp2
 refine start_ (n := 41) (S := fun w' => w'.cell? ⟨B, 0, none⟩ = some (.pointer (some ⟨g, 0, none⟩)) ∧ w'.cell? ⟨g, 0, none⟩ = some (.slice (some ad) u.length bu) ∧ w'.cell? (ad.add a.toNat) = some (.slice (some ar) u.length c1) ∧ w'.cell? (ar.add b.toNat) = some (.int .i64 v) ∧ w'.cell? ⟨g, 2, none⟩ = some (.slice (some ae) u.length be) ∧ w'.cell? (ae.add a.toNat) = some (.slice (some bo) u.length c2) ∧ w'.cell? ⟨g, 1, none⟩ = some (.slice (some am) u.length ba) ∧ w'.cell? (am.add b.toNat) = some (.slice (some an2) u.length c3) ∧ w'.cell? ⟨g, 3, none⟩ = some (.slice (some an) u.length bn) ∧ w'.cell? (an.add a.toNat) = some (.int .i64 y) ∧ w'.cell? (an2.add y.toNat) = some (.int .i64 z) ∧ w'.cell? (bo.add z.toNat) = some (.int .i64 r)) (ds := []) (bA 41 0) (by kernel_rfl) rfl rfl ⟨f0, f1, f2, f3, f4, f5, f6, f7, f8, f9, f10, f11⟩ (fun hHeld => ?_)
 refine tk_ (i := 0) (N := some 6) (bA 41 1) ?_
 refine pu_ (i := 1) (N := some 7) (bA 41 3) ?_
 refine pu_ (i := 2) (N := some 8) (bA 41 7) ?_
 refine tk_ (i := 3) (N := some 9) (bA 41 15) ?_
 refine pu_ (i := 4) (N := some 10) (bA 41 31) ?_
 refine pu_ (i := 5) (N := some 11) (bA 41 63) ?_
 refine tk_ (i := 6) (N := some 12) (bA 41 127) ?_
 refine pu_ (i := 7) (N := some 13) (bA 41 255) ?_
 refine pu_ (i := 8) (N := some 14) (bA 41 511) ?_
 refine tk_ (i := 9) (N := some 15) (bA 41 1023) ?_
 refine pu_ (i := 10) (N := some 16) (bA 41 2047) ?_
 refine pu_ (i := 11) (N := some 17) (bA 41 4095) ?_
 refine tk_ (i := 12) (N := some 18) (bA 41 8191) ?_
 refine pu_ (i := 13) (N := some 19) (bA 41 16383) ?_
 refine pu_ (i := 14) (N := some 20) (bA 41 32767) ?_
 refine tk_ (i := 15) (N := some 21) (bA 41 65535) ?_
 refine pu_ (i := 16) (N := some 22) (bA 41 131071) ?_
 refine pu_ (i := 17) (N := some 23) (bA 41 262143) ?_
 refine tk_ (i := 18) (N := some 24) (bA 41 524287) ?_
 refine tk_ (i := 19) (N := some 25) (bA 41 1048575) ?_
 refine pu_ (i := 20) (N := some 26) (bA 41 2097151) ?_
 refine pu_ (i := 21) (N := some 27) (bA 41 4194303) ?_
 refine tk_ (i := 22) (N := some 28) (bA 41 8388607) ?_
 refine pu_ (i := 23) (N := some 29) (bA 41 16777215) ?_
 refine pu_ (i := 24) (N := some 30) (bA 41 33554431) ?_
 refine tk_ (i := 25) (N := some 31) (bA 41 67108863) ?_
 refine tk_ (i := 26) (N := some 32) (bA 41 134217727) ?_
 refine pu_ (i := 27) (N := some 33) (bA 41 268435455) ?_
 refine pu_ (i := 28) (N := some 34) (bA 41 536870911) ?_
 refine tk_ (i := 29) (N := some 35) (bA 41 1073741823) ?_
 refine pu_ (i := 30) (N := some 36) (bA 41 2147483647) ?_
 refine pu_ (i := 31) (N := some 37) (bA 41 4294967295) ?_
 refine tk_ (i := 32) (N := some 38) (bA 41 8589934591) ?_
 refine pu_ (i := 33) (N := some 39) (bA 41 17179869183) ?_
 refine tk_ (i := 34) (N := some 40) (bA 41 34359738367) ?_
 refine pu_ (i := 35) (N := some 41) (bA 41 68719476735) ?_
 refine tk_ (i := 36) (N := some 42) (bA 41 137438953471) ?_
 refine pu_ (i := 37) (N := some 43) (bA 41 274877906943) ?_
 refine pu_ (i := 38) (N := some 44) (bA 41 549755813887) ?_
 refine pu_ (i := 39) (N := some 45) (bA 41 1099511627775) ?_
 refine pu_ (i := 40) (N := some 5) (bA 41 2199023255551) ?_
 refine done_ (by kernel_rfl) ?_
 try go_wp2
 go_ret
 exact ⟨(by first | rfl | (rw [HR.out]; rfl)), ⟨_, rfl⟩⟩
theorem keeps_every {W : World} {B g : Nat} {u : List (List Int)} {nt : List Int} {no yes : Int} (hB : W.cell? ⟨B, 0, none⟩ = some (.pointer (some ⟨g, 0, none⟩))) (h : AlgAt W g u (mtab u) (jtab u) nt no yes) (hl : OL u nt) :
 Calls Try.prog 74 #[.pointer (some ⟨g, 0, none⟩), .func (.func 75) #[] #[.pointer (some ⟨B, 0, none⟩)]] W fun e w' => e = .returned (.bool (decide (∀ a, a < u.length → ∀ b, b < u.length → rdN u a b = 0 ∨ jn u a (mt u b (rd nt a)) = b))) ∧ Drawn0 W w' := by
 obtain ⟨Bu, bu, Ba, ba, Bo, bo, Bn, bn, h0, _⟩ := id h
 refine pure_every (c := bu) (A := Bu) 75 (enters_of Try.func75 (by kernel_rfl) rfl) (fun a b => rdN u a b = 0 ∨ jn u a (mt u b (rd nt a)) = b) ((blk_cell h0 0).trans rfl) (by have := hl.1.1.2.1; omega) ?_
 rintro w' i j ⟨m, rfl⟩ hi hj
 exact keeps1_calls (w := W.drewN m) hB (h.drewN m) hl (a := i) (b := j) ⟨(by omega), (by omega)⟩ ⟨(by omega), (by omega)⟩
set_option maxHeartbeats 4000000 in
set_option maxRecDepth 100000 in
theorem keepsOk_core (Au : Option Addr) (cu : Nat) (u : List (List Int)) (An : Option Addr) (cn : Nat) (nt : List Int) (w : World)
 (hu : Kd.C (Kd.slice 3 (Kd.int .i64)) w Au u.length u) (hcu : u.length ≤ cu) (hn : Kd.C (Kd.int .i64) w An nt.length nt) (hcn : nt.length ≤ cn) :
 Calls Try.prog 26 #[.agg #[.slice Au u.length cu, .slice An nt.length cn]] w fun e w' => e = .returned (.bool (keepsF u nt)) ∧ Below w.heap.size w w' := by
 have hul := Try.underlying27
 have HU := ak hu
 have HC := ak hcu
 have HN := ak hn
 have HCN := ak hcn
 clear hu hcu hn hcn
 by_cases hl : OL u nt
 ·
  have HL := ak hl
  clear hl
  go_enter Try.func26, Try.ntmps26
  go_wp2_with (first
   | ((with_reducible refine gate_dst (N := 1) rfl ?_); refine bx_ (N := 1) (cs := #[.slice Au u.length cu, .slice An nt.length cn]) (t := 27) ?_; intro gb hg w4 hbox hb; have hc0 : w4.cell? ⟨gb, 0, none⟩ = some (.slice Au u.length cu) := (blk_cell hbox 0).trans rfl; have hc1 : w4.cell? ⟨gb, 1, none⟩ = some (.slice An nt.length cn) := (blk_cell hbox 1).trans rfl; have HB4 := ak hb; clear hb hg hbox)
   | (go_at_call 68; (with_reducible refine (told_some _ _ u _ _ nt _ ?s1 ?s2 ?s3 ?s4 HL.out).mono ?_); (case s1 => repeat (first | exact (Kd.C_below HU.out HB4.out) | (with_reducible refine Kd.C_alloc ?_ _) | (with_reducible refine Kd.C_drewN ?_ _) | (with_reducible refine Kd.C_drew ?_))); (case s2 => exact HC.out); (case s3 => repeat (first | exact (Kd.C_below HN.out HB4.out) | (with_reducible refine Kd.C_alloc ?_ _) | (with_reducible refine Kd.C_drewN ?_ _) | (with_reducible refine Kd.C_drew ?_))); (case s4 => exact HCN.out); rintro e w5 ⟨g, rfl, hge, hAl, hD⟩; have HB5 := ak (below_step HB4.out hD); have HA := ak hAl; clear hD hge hAl; skip)
   | (go_at_call 74; (with_reducible refine (keeps_every (B := w5.heap.size) (g := g) (no := leastI u) (yes := rd nt (leastI u)) ?e1 ?e2 HL.out).mono ?_); (case e1 => exact (blk_cell (blk_new _ _) 0).trans rfl); (case e2 => exact HA.out.below (below_alloc (Below.refl _ _) _)); rintro e w' ⟨rfl, hD⟩; obtain ⟨nd, rfl⟩ := hD))
  go_ret
  exact ⟨(by unfold keepsF; rw [dec_and HL.out]; rfl), (by repeat (first | exact HB5.out | (with_reducible first | apply below_alloc | apply pw_below_drewN | apply below_drew1)))⟩
 have HL := ak hl
 clear hl
 go_enter Try.func26, Try.ntmps26
 go_wp2_with (first
  | ((with_reducible refine gate_dst (N := 1) rfl ?_); refine bx_ (N := 1) (cs := #[.slice Au u.length cu, .slice An nt.length cn]) (t := 27) ?_; intro gb hg w4 hbox hb; have hc0 : w4.cell? ⟨gb, 0, none⟩ = some (.slice Au u.length cu) := (blk_cell hbox 0).trans rfl; have hc1 : w4.cell? ⟨gb, 1, none⟩ = some (.slice An nt.length cn) := (blk_cell hbox 1).trans rfl; have HB4 := ak hb; clear hb hg hbox)
  | (go_at_call 68; (with_reducible refine (told_none _ _ u _ _ nt _ ?s1 ?s2 ?s3 ?s4 HL.out).mono ?_); (case s1 => repeat (first | exact (Kd.C_below HU.out HB4.out) | (with_reducible refine Kd.C_alloc ?_ _) | (with_reducible refine Kd.C_drewN ?_ _) | (with_reducible refine Kd.C_drew ?_))); (case s2 => exact HC.out); (case s3 => repeat (first | exact (Kd.C_below HN.out HB4.out) | (with_reducible refine Kd.C_alloc ?_ _) | (with_reducible refine Kd.C_drewN ?_ _) | (with_reducible refine Kd.C_drew ?_))); (case s4 => exact HCN.out); rintro e w5 ⟨rfl, hD⟩; have HB5 := ak (below_step HB4.out hD); clear hD))
 go_ret
 exact ⟨(by unfold keepsF; rw [dF_ (fun q => HL.out q.1)]; rfl), (by repeat (first | exact HB5.out | (with_reducible first | apply below_alloc | apply pw_below_drewN | apply below_drew1)))⟩
theorem impl_KeepsOk.calls (A0_0 : Option Addr) (c0_0 : Nat) (l0_0 : List (List Int)) (A0_1 : Option Addr) (c0_1 : Nat) (l0_1 : List Int) (r : Bool) (w : World) (hr0_0 : Kd.C (Kd.slice 3 (Kd.int .i64)) w A0_0 l0_0.length l0_0) (hc0_0 : l0_0.length ≤ c0_0) (hr0_1 : Kd.C (Kd.int .i64) w A0_1 l0_1.length l0_1) (hc0_1 : l0_1.length ≤ c0_1) (h : impl_KeepsOk.f l0_0 l0_1 = some r) :
    Calls Try.prog 26 #[.agg #[.slice A0_0 l0_0.length c0_0, .slice A0_1 l0_1.length c0_1]] w fun e w' => e = .returned (.bool r) ∧ Below w.heap.size w w' := by
  have e := Option.some.inj h
  subst e
  exact keepsOk_core A0_0 c0_0 l0_0 A0_1 c0_1 l0_1  w hr0_0 hc0_0 hr0_1 hc0_1
end Go.Proofs.Ytacifhahfamipaa.P

namespace Go.Proofs.Ytacifhahfamipaa.P
open Go.RowKit Go.Proofs.YtacifhahfamipaaW.PrintWords Go.Proofs.YtacifhahfamipaaW.PrintLast Go.Proofs.YtacifhahfamipaaW.PrintMore
set_option linter.unusedVariables false
set_option linter.unusedSimpArgs false
theorem under6 {a : Nat} (h : a < 6) : a = 0 ∨ a = 1 ∨ a = 2 ∨ a = 3 ∨ a = 4 ∨ a = 5 := by omega
set_option maxHeartbeats 8000000 in
set_option maxRecDepth 100000 in
theorem ring1 (a b : Nat) (ha : a < 6) (hb : b < 6) (w : World) : Calls Try.prog 64 (#[.int .i64 a, .int .i64 b] ++ #[]) w fun e w2 => e = .returned (.bool (ringB a b)) ∧ Drawn0 w w2 := by
 rcases under6 ha with rfl | rfl | rfl | rfl | rfl | rfl <;> rcases under6 hb with rfl | rfl | rfl | rfl | rfl | rfl
 all_goals
  clear ha hb
  go_enter Try.func64, Try.ntmps64
  go_wp2
  go_ret
  exact ⟨rfl, Drawn0.refl _⟩
set_option maxHeartbeats 8000000 in
set_option maxRecDepth 100000 in
theorem ring2 (a : Nat) (ha : a < 6) (w : World) : Calls Try.prog 65 (#[.int .i64 a] ++ #[]) w fun e w2 => e = .returned (.int .i64 (5 - (a : Int))) ∧ Drawn0 w w2 := by
 rcases under6 ha with rfl | rfl | rfl | rfl | rfl | rfl
 all_goals
  clear ha
  go_enter Try.func65, Try.ntmps65
  go_wp2
  go_ret
  exact ⟨rfl, Drawn0.refl _⟩
set_option maxHeartbeats 8000000 in
set_option maxRecDepth 100000 in
theorem ringOf_core (n : Int) (w : World) (r1 : List (List Int)) (r2 : List Int) (r3 : Bool) (h : ringF n = (r1, r2, r3)) :
 Calls Try.prog 15 #[.int .i64 n] w fun e w' => ∃ v0_ v1_ : Value, e = .returned (.tuple #[.agg #[v0_, v1_], .bool r3]) ∧ Kd.S (Kd.slice 3 (Kd.int .i64)) 25 w' w.heap.size (fun k_ => some k_ ≠ (v1_ : Value).ownBlock) v0_ r1 ∧ Kd.R (Kd.int .i64) 3 w' w.heap.size (fun _ => True) v1_ r2 ∧ Below w.heap.size w w' := by
 have hul := Try.underlying27
 have HB := ak (Below.refl w.heap.size w)
 by_cases hn : n = 6
 ·
  subst hn
  obtain ⟨e1, e23⟩ := Prod.mk.inj h
  obtain ⟨e2, e3⟩ := Prod.mk.inj e23
  have E1 := ak e1
  have E2 := ak e2
  have E3 := ak e3
  clear h e23 e1 e2 e3
  go_enter Try.func15, Try.ntmps15
  go_wp2_with (first
   | ((with_reducible refine gate_dst (N := 2) rfl ?_); refine bx_ (N := 2) (cs := #[.slice none 0 0, .slice none 0 0]) (t := 27) ?_; intro g0 hg w4 hbox hb; have HX := ak hbox; have HBX := ak (below_step HB.out hb); have HG := ak (Nat.le_of_eq hg.symm); clear hb hg hbox)
   | (go_at_call 63; (with_reducible refine (made_int (w := w4) 6 6 rfl (by omega) 64 65 #[] #[] (enters_of Try.func64 (by kernel_rfl) rfl) (enters_of Try.func65 (by kernel_rfl) rfl) ringB (fun a => 5 - (a : Int)) (fun w' a b _ ha hb => ring1 a b ha hb w') (fun w' a _ ha => ring2 a ha w')).mono ?_); rintro e w5 ⟨v0, v1, rfl, hS, hR, hb⟩; have HX5 := ak (blk_below HX.out hb); have HB5 := ak (below_step HBX.out hb); have HS := ak hS; have HR := ak hR; clear hS hR hb HX; obtain ⟨A0, c0, e0⟩ := Kd.S_slice HS.out; subst e0; obtain ⟨A1, c1, e1⟩ := Kd.R_slice HR.out; subst e1; have hq0 : w5.cell? ⟨g0, 0, none⟩ = some (.slice none 0 0) := (blk_cell HX5.out 0).trans rfl; have hq1 : w5.cell? ⟨g0, 1, none⟩ = some (.slice none 0 0) := (blk_cell HX5.out 1).trans rfl; have hz0 := blk_frozen HX5.out 0; have hz1 := blk_frozen HX5.out 1))
  refine bodyPost_ret (results_ct rfl _ _ g0 27 #[.slice A0 (madeU 6 ringB).length c0, .slice A1 (madeN 6 fun a => 5 - (a : Int)).length c1] (0, 0) _ rfl (blk_put (cs := #[.slice A0 (madeU 6 ringB).length c0, .slice none 0 0]) (blk_put (cs := #[.slice none 0 0, .slice none 0 0]) HX5.out 0 _ rfl) 1 _ rfl) hul rfl (by kernel_rfl)) rfl ?_
  rw [← E1.out, ← E2.out, ← E3.out]
  have hs := Kd.S_far (p := ⟨g0, 1, none⟩) (Kd.S_far (p := ⟨g0, 0, none⟩) (Kd.S_types (Kd.S_lower HS.out (below_size HBX.out)) HX5.out (by decide)) (fun _ hk => hk.2) (.slice A0 (madeU 6 ringB).length c0)) (fun _ hk => hk.2) (.slice A1 (madeN 6 fun a => 5 - (a : Int)).length c1)
  exact ⟨_, _, rfl, Kd.S_mono hs (fun _ hk => hk.1), Kd.R_mono (Kd.R_far (p := ⟨g0, 1, none⟩) (Kd.R_far (p := ⟨g0, 0, none⟩) (Kd.R_types (Kd.R_lower HR.out (below_size HBX.out)) HX5.out (by decide)) (fun _ hk => hk.2) _) (fun _ hk => hk.2) _) (fun _ _ => trivial), below_set (below_set HB5.out HG.out) HG.out⟩
 have e : ringF n = ([], [], false) := by unfold ringF; rw [if_neg hn]
 rw [e] at h
 obtain ⟨e1, e23⟩ := Prod.mk.inj h
 obtain ⟨e2, e3⟩ := Prod.mk.inj e23
 subst e1
 subst e2
 subst e3
 clear h e23 e
 have hn1 : (n == 6) = false := by simpa using hn
 have hn2 : (n != 6) = true := by simpa using hn
 go_enter Try.func15, Try.ntmps15
 go_wp2_with ((with_reducible refine gate_dst (N := 2) rfl ?_); refine bx_ (N := 2) (cs := #[.slice none 0 0, .slice none 0 0]) (t := 27) ?_; intro g0 hg w4 hbox hb; have HX := ak hbox; have HBX := ak (below_step HB.out hb); have HG := ak (Nat.le_of_eq hg.symm); clear hb hg hbox; have hq0 : w4.cell? ⟨g0, 0, none⟩ = some (.slice none 0 0) := (blk_cell HX.out 0).trans rfl; have hq1 : w4.cell? ⟨g0, 1, none⟩ = some (.slice none 0 0) := (blk_cell HX.out 1).trans rfl; have hz0 := blk_frozen HX.out 0; have hz1 := blk_frozen HX.out 1)
 refine bodyPost_ret (results_ct rfl _ _ g0 27 #[.slice none 0 0, .slice none 0 0] (0, 0) _ rfl (blk_put (cs := #[.slice none 0 0, .slice none 0 0]) (blk_put (cs := #[.slice none 0 0, .slice none 0 0]) HX.out 0 _ rfl) 1 _ rfl) hul rfl (by kernel_rfl)) rfl ?_
 exact ⟨_, _, rfl, Kd.S_nil _ _ _ _ _, Kd.R_nil _ _ _ _ _, below_set (below_set HBX.out HG.out) HG.out⟩
end Go.Proofs.Ytacifhahfamipaa.P

namespace Go.Proofs.Ytacifhahfamipaa.P
open Go.RowKit Go.Proofs.YtacifhahfamipaaW.PrintWords Go.Proofs.YtacifhahfamipaaW.PrintLast Go.Proofs.YtacifhahfamipaaW.PrintMore Go.Proofs.Cl
set_option linter.unusedVariables false
theorem impl_RingOf.calls (a0 : Int) (r1 : List (List Int)) (r2 : List Int) (r3 : Bool) (w : World) (h : impl_RingOf.f a0 = some (r1, r2, r3)) :
    Calls Try.prog 15 #[.int .i64 a0] w fun e w' => ∃ v0_ v1_ : Value, e = .returned (.tuple #[.agg #[v0_, v1_], .bool r3]) ∧ Kd.S (Kd.slice 3 (Kd.int .i64)) 25 w' w.heap.size (fun k_ => some k_ ≠ (v1_ : Value).ownBlock) v0_ r1 ∧ Kd.R (Kd.int .i64) 3 w' w.heap.size (fun _ => True) v1_ r2 ∧ Below w.heap.size w w' := ringOf_core a0 w  r1 r2 r3 (Option.some.inj h)
set_option linter.unusedSimpArgs false
theorem break_reads {w : World} {g : Nat} {u : List (List Int)} {nt : List Int} {no yes : Int} (h : AlgAt w g u (mtab u) (jtab u) nt no yes) (hl : OL u nt) {a b : Int} (ha : 0 ≤ a ∧ a < u.length) (hb : 0 ≤ b ∧ b < u.length) :
 ∃ (v y z : Int) (ad ar am an2 an : Addr) (bu ba bn c1 c3 : Nat), rdN u a.toNat b.toNat = v ∧ mt u b (rd nt a) = z ∧ (0 ≤ y ∧ y < (u.length : Int)) ∧
  w.cell? ⟨g, 0, none⟩ = some (.slice (some ad) u.length bu) ∧ w.cell? (ad.add a.toNat) = some (.slice (some ar) u.length c1) ∧ w.cell? (ar.add b.toNat) = some (.int .i64 v) ∧
  w.cell? ⟨g, 1, none⟩ = some (.slice (some am) u.length ba) ∧ w.cell? (am.add b.toNat) = some (.slice (some an2) u.length c3) ∧
  w.cell? ⟨g, 3, none⟩ = some (.slice (some an) u.length bn) ∧ w.cell? (an.add a.toNat) = some (.int .i64 y) ∧ w.cell? (an2.add y.toNat) = some (.int .i64 z) ∧ w.cell? ⟨g, 4, none⟩ = some (.int .i64 no) := by
 obtain ⟨Bu, bu, Ba, ba, Bo, be, Bn, bn, h0, h1, h2, h3, h4, h5, h6, h7, h8⟩ := h
 have hy := ng_in hl ha
 have hlm : (mtab u).length = u.length := by simp [mtab]
 rw [hlm, hl.2.1] at h0
 obtain ⟨ad, A0, c1, e1, k1, k2, k3⟩ := at_L1 h1 a ha.1 ha.2
 have hr : (rd_L1 u a).length = u.length := by obtain ⟨n, rfl, hn⟩ := Q.nat_of ha; rw [Q.row_nat]; exact hl.1.1.row hn
 rw [hr] at k1 k3
 obtain ⟨ar, e2, k4⟩ := Kd.at_int k3 b hb.1 hb.2
 obtain ⟨am, an2, c3, e4, k7, k8⟩ := tab_row (f := meetI u) rfl h3 hb
 obtain ⟨an, e5, k9⟩ := Kd.at_int h7 a ha.1 (by rw [hl.2.1]; exact ha.2)
 subst e1
 subst e2
 subst e4
 subst e5
 have hv : rdN u a.toNat b.toNat = rd (rd_L1 u a) b := by
  obtain ⟨n, rfl, hn⟩ := Q.nat_of ha
  obtain ⟨m, rfl, hm⟩ := Q.nat_of hb
  rw [Int.toNat_natCast, Int.toNat_natCast, Q.at_nat]
 exact ⟨_, _, _, ad, ar, am, an2, an, bu, ba, bn, c1, c3, hv, rfl, hy, (blk_cell h0 0).trans rfl, k1, k4, (blk_cell h0 1).trans rfl, k7, (blk_cell h0 3).trans rfl, k9, k8 _ hy, (blk_cell h0 4).trans rfl⟩
theorem z24_0 {p : Prop} (h : p := by repeat (first | (with_reducible first | exact HB5.out | apply below_alloc | apply pw_below_drewN | apply below_drew1) | exact HB5.out)) : p := h
set_option maxHeartbeats 4000000 in
set_option maxRecDepth 100000 in
theorem breakOf_core (Au : Option Addr) (cu : Nat) (u : List (List Int)) (An : Option Addr) (cn : Nat) (nt : List Int) (w : World)
 (hu : Kd.C (Kd.slice 3 (Kd.int .i64)) w Au u.length u) (hcu : u.length ≤ cu) (hn : Kd.C (Kd.int .i64) w An nt.length nt) (hcn : nt.length ≤ cn) :
 Calls Try.prog 28 #[.agg #[.slice Au u.length cu, .slice An nt.length cn]] w fun e w' => e = .returned (.tuple #[.int .i64 (breakF u nt).1, .int .i64 (breakF u nt).2.1, .bool (breakF u nt).2.2]) ∧ Below w.heap.size w w' := by
 have hul := Try.underlying27
 have HU := ak hu
 have HC := ak hcu
 have HN := ak hn
 have HCN := ak hcn
 clear hu hcu hn hcn
 by_cases hl : OL u nt
 ·
  have HL := ak hl
  have h12 := hl.1.1.le12
  clear hl
  go_enter Try.func28, Try.ntmps28
  go_wp2_with (first
   | ((with_reducible refine gate_dst (N := 1) rfl ?_); refine bx_ (N := 1) (cs := #[.slice Au u.length cu, .slice An nt.length cn]) (t := 27) ?_; intro gb hg w4 hbox hb; have hc0 : w4.cell? ⟨gb, 0, none⟩ = some (.slice Au u.length cu) := (blk_cell hbox 0).trans rfl; have hc1 : w4.cell? ⟨gb, 1, none⟩ = some (.slice An nt.length cn) := (blk_cell hbox 1).trans rfl; have HB4 := ak hb; clear hb hg hbox)
   | (go_at_call 68; (with_reducible refine (told_some _ _ u _ _ nt _ ?s1 ?s2 ?s3 ?s4 HL.out).mono ?_); (case s1 => repeat (first | exact (Kd.C_below HU.out HB4.out) | (with_reducible refine Kd.C_alloc ?_ _) | (with_reducible refine Kd.C_drewN ?_ _) | (with_reducible refine Kd.C_drew ?_))); (case s2 => exact HC.out); (case s3 => repeat (first | exact (Kd.C_below HN.out HB4.out) | (with_reducible refine Kd.C_alloc ?_ _) | (with_reducible refine Kd.C_drewN ?_ _) | (with_reducible refine Kd.C_drew ?_))); (case s4 => exact HCN.out); rintro e w5 ⟨g, rfl, hge, hAl, hD⟩; have HB5 := ak (below_step HB4.out hD); have HA := ak hAl; clear hD hge hAl; obtain ⟨Bu, bu, _, _, _, _, _, _, hz, _⟩ := HA.out; have hq := (blk_cell hz 0).trans rfl; clear hz))
  go_loopw [17] (fun a0 wr => ∃ i : Nat, i ≤ u.length ∧ a0 = .int .i64 i ∧ Aside0 (∀ a, a < i → ∀ b, b < u.length → brkB u nt a b = false) ∧ Aside0 (AlgAt wr g u (mtab u) (jtab u) nt (leastI u) (rd nt (leastI u))) ∧ Aside0 (Below w.heap.size w wr)) (fun a0 _ => u.length - (intOf a0).toNat)
  case atStart => exact ⟨0, Nat.zero_le _, rfl, ⟨fun a ha => absurd ha (Nat.not_lt_zero _)⟩, HA, ⟨z24_0⟩⟩
  case round =>
   clear hq HA HB5
   obtain ⟨i, hi, rfl, HI, HW, HB⟩ := hrel
   by_cases hlt : i < u.length
   ·
    obtain ⟨Bu, bu, _, _, _, _, _, _, hz, _⟩ := HW.out
    have hq := (blk_cell hz 0).trans rfl
    clear hz
    go_wp2
    go_loopw [25] (fun a1 wr => ∃ j : Nat, j ≤ u.length ∧ a1 = .int .i64 j ∧ Aside0 (∀ b, b < j → brkB u nt i b = false) ∧ Aside0 (AlgAt wr g u (mtab u) (jtab u) nt (leastI u) (rd nt (leastI u))) ∧ Aside0 (Below w.heap.size w wr)) (fun a1 _ => u.length - (intOf a1).toNat)
    case atStart => exact ⟨0, Nat.zero_le _, rfl, ⟨fun a ha => absurd ha (Nat.not_lt_zero _)⟩, HW, HB⟩
    case round =>
     clear hq HW HB
     obtain ⟨j, hj, rfl, HJ, HW, HB⟩ := hrel
     by_cases hjt : j < u.length
     ·
      obtain ⟨v, y, z, ad, ar, am, an2, an, bu2, ba, bn, c1, c3, ev, ez, ⟨hy0, hy1⟩, f0, f1, f2, f3, f4, f5, f6, f7, f8⟩ := break_reads HW.out HL.out (a := (i : Int)) (b := (j : Int)) ⟨(by omega), (by omega)⟩ ⟨(by omega), (by omega)⟩
      simp only [Int.toNat_natCast] at ev f1 f2 f4 f6
      have hi0 : (0 : Int) ≤ i := by omega
      have hj0 : (0 : Int) ≤ j := by omega
      have hi1 : (i : Int) < (u.length : Int) := by omega
      have hj1 : (j : Int) < (u.length : Int) := by omega
      by_cases hij : i = j
      ·
       have HNO : Aside0 (brkB u nt i j = false) := ⟨dF_ (fun q => q.1 hij)⟩
       have hn1 : ((i : Int) != (j : Int)) = false := by simp [hij]
       have hn2 : ((i : Int) == (j : Int)) = true := by simp [hij]
       clear f1 f2 f3 f4 f5 f6 f7 f8 hy0 hy1 ev ez hij
       go_wp2
       refine start_ (n := 39) (S := fun w' => w'.cell? ⟨g, 0, none⟩ = some (.slice (some ad) u.length bu2)) (ds := []) (bA 39 0) (by kernel_rfl) rfl rfl f0 (fun hHeld => ?_)
       have GW := ak (HW.out.below (below_drew (Below.refl _ _)))
       have GB := ak (below_drew1 HB.out)
       clear HW HB f0
       generalize wr.drew = wd at GW GB hHeld ⊢
       refine pu_ (i := 0) (N := some 28) (bA 39 1) ?_
       refine pu_ (i := 1) (N := some 29) (bA 39 3) ?_
       refine pu_ (i := 2) (N := some 30) (bA 39 7) ?_
       refine pu_ (i := 3) (N := some 31) (bA 39 15) ?_
       refine of_ (i := 4) (N := some 32) (bA 39 31) ?_
       refine of_ (i := 5) (N := some 33) (bA 39 63) ?_
       refine of_ (i := 6) (N := some 34) (bA 39 127) ?_
       refine of_ (i := 7) (N := some 35) (bA 39 255) ?_
       refine of_ (i := 8) (N := some 36) (bA 39 511) ?_
       refine of_ (i := 9) (N := some 37) (bA 39 1023) ?_
       refine of_ (i := 10) (N := some 38) (bA 39 2047) ?_
       refine of_ (i := 11) (N := some 39) (bA 39 4095) ?_
       refine of_ (i := 12) (N := some 40) (bA 39 8191) ?_
       refine of_ (i := 13) (N := some 41) (bA 39 16383) ?_
       refine of_ (i := 14) (N := some 42) (bA 39 32767) ?_
       refine pu_ (i := 15) (N := some 43) (bA 39 65535) ?_
       refine pu_ (i := 16) (N := some 44) (bA 39 131071) ?_
       refine of_ (i := 17) (N := some 45) (bA 39 262143) ?_
       refine of_ (i := 18) (N := some 46) (bA 39 524287) ?_
       refine of_ (i := 19) (N := some 47) (bA 39 1048575) ?_
       refine of_ (i := 20) (N := some 48) (bA 39 2097151) ?_
       refine of_ (i := 21) (N := some 49) (bA 39 4194303) ?_
       refine of_ (i := 22) (N := some 50) (bA 39 8388607) ?_
       refine of_ (i := 23) (N := some 51) (bA 39 16777215) ?_
       refine of_ (i := 24) (N := some 52) (bA 39 33554431) ?_
       refine of_ (i := 25) (N := some 53) (bA 39 67108863) ?_
       refine of_ (i := 26) (N := some 54) (bA 39 134217727) ?_
       refine of_ (i := 27) (N := some 55) (bA 39 268435455) ?_
       refine of_ (i := 28) (N := some 56) (bA 39 536870911) ?_
       refine of_ (i := 29) (N := some 57) (bA 39 1073741823) ?_
       refine of_ (i := 30) (N := some 58) (bA 39 2147483647) ?_
       refine of_ (i := 31) (N := some 59) (bA 39 4294967295) ?_
       refine of_ (i := 32) (N := some 60) (bA 39 8589934591) ?_
       refine of_ (i := 33) (N := some 61) (bA 39 17179869183) ?_
       refine of_ (i := 34) (N := some 62) (bA 39 34359738367) ?_
       refine of_ (i := 35) (N := some 63) (bA 39 68719476735) ?_
       refine of_ (i := 36) (N := some 64) (bA 39 137438953471) ?_
       refine of_ (i := 37) (N := some 65) (bA 39 274877906943) ?_
       refine pu_ (i := 38) (N := some 66) (bA 39 549755813887) ?_
       refine done_ (by kernel_rfl) ?_
       go_wp2
       go_roundw
       case rel => exact ⟨j + 1, (by omega), (by go_num), ⟨fun b hb => if q : b < j then HJ.out b q else (show b = j by omega) ▸ HNO.out⟩, GW, GB⟩
       case measure => simp [intOf]; omega
      have hn1 : ((i : Int) != (j : Int)) = true := by simp; omega
      have hn2 : ((i : Int) == (j : Int)) = false := by simp; omega
      by_cases hv : v = 1
      ·
       have hv1 := bt_ hv
       by_cases hz : z = leastI u
       ·
        have HYES : Aside0 (brkB u nt i j = true) := ⟨dT_ ⟨hij, (by rw [ev]; exact hv), (by rw [← hz, ← ez])⟩⟩
        have hz1 := bt_ hz
        clear ev ez hij hv hz
        go_wp2
        refine start_ (n := 39) (S := fun w' => w'.cell? ⟨g, 0, none⟩ = some (.slice (some ad) u.length bu2) ∧ w'.cell? (ad.add i) = some (.slice (some ar) u.length c1) ∧ w'.cell? (ar.add j) = some (.int .i64 v) ∧ w'.cell? ⟨g, 1, none⟩ = some (.slice (some am) u.length ba) ∧ w'.cell? (am.add j) = some (.slice (some an2) u.length c3) ∧ w'.cell? ⟨g, 3, none⟩ = some (.slice (some an) u.length bn) ∧ w'.cell? (an.add i) = some (.int .i64 y) ∧ w'.cell? (an2.add y.toNat) = some (.int .i64 z) ∧ w'.cell? ⟨g, 4, none⟩ = some (.int .i64 (leastI u))) (ds := []) (bA 39 0) (by kernel_rfl) rfl rfl ⟨f0, f1, f2, f3, f4, f5, f6, f7, f8⟩ (fun hHeld => ?_)
        have GW := ak (HW.out.below (below_drew (Below.refl _ _)))
        have GB := ak (below_drew1 HB.out)
        clear HW HB f0 f1 f2 f3 f4 f5 f6 f7 f8
        generalize wr.drew = wd at GW GB hHeld ⊢
        refine pu_ (i := 0) (N := some 28) (bA 39 1) ?_
        refine pu_ (i := 1) (N := some 29) (bA 39 3) ?_
        refine pu_ (i := 2) (N := some 30) (bA 39 7) ?_
        refine pu_ (i := 3) (N := some 31) (bA 39 15) ?_
        refine pu_ (i := 4) (N := some 32) (bA 39 31) ?_
        refine pu_ (i := 5) (N := some 33) (bA 39 63) ?_
        refine pu_ (i := 6) (N := some 34) (bA 39 127) ?_
        refine tk_ (i := 7) (N := some 35) (bA 39 255) ?_
        refine pu_ (i := 8) (N := some 36) (bA 39 511) ?_
        refine pu_ (i := 9) (N := some 37) (bA 39 1023) ?_
        refine tk_ (i := 10) (N := some 38) (bA 39 2047) ?_
        refine pu_ (i := 11) (N := some 39) (bA 39 4095) ?_
        refine pu_ (i := 12) (N := some 40) (bA 39 8191) ?_
        refine tk_ (i := 13) (N := some 41) (bA 39 16383) ?_
        refine pu_ (i := 14) (N := some 42) (bA 39 32767) ?_
        refine pu_ (i := 15) (N := some 43) (bA 39 65535) ?_
        refine pu_ (i := 16) (N := some 44) (bA 39 131071) ?_
        refine pu_ (i := 17) (N := some 45) (bA 39 262143) ?_
        refine pu_ (i := 18) (N := some 46) (bA 39 524287) ?_
        refine pu_ (i := 19) (N := some 47) (bA 39 1048575) ?_
        refine tk_ (i := 20) (N := some 48) (bA 39 2097151) ?_
        refine pu_ (i := 21) (N := some 49) (bA 39 4194303) ?_
        refine pu_ (i := 22) (N := some 50) (bA 39 8388607) ?_
        refine tk_ (i := 23) (N := some 51) (bA 39 16777215) ?_
        refine pu_ (i := 24) (N := some 52) (bA 39 33554431) ?_
        refine pu_ (i := 25) (N := some 53) (bA 39 67108863) ?_
        refine pu_ (i := 26) (N := some 54) (bA 39 134217727) ?_
        refine tk_ (i := 27) (N := some 55) (bA 39 268435455) ?_
        refine pu_ (i := 28) (N := some 56) (bA 39 536870911) ?_
        refine pu_ (i := 29) (N := some 57) (bA 39 1073741823) ?_
        refine tk_ (i := 30) (N := some 58) (bA 39 2147483647) ?_
        refine pu_ (i := 31) (N := some 59) (bA 39 4294967295) ?_
        refine tk_ (i := 32) (N := some 60) (bA 39 8589934591) ?_
        refine pu_ (i := 33) (N := some 61) (bA 39 17179869183) ?_
        refine pu_ (i := 34) (N := some 62) (bA 39 34359738367) ?_
        refine pu_ (i := 35) (N := some 63) (bA 39 68719476735) ?_
        refine tk_ (i := 36) (N := some 64) (bA 39 137438953471) ?_
        refine pu_ (i := 37) (N := some 65) (bA 39 274877906943) ?_
        refine pu_ (i := 38) (N := some 66) (bA 39 549755813887) ?_
        refine done_ (by kernel_rfl) ?_
        go_wp2
        refine bodyPost_ret (results_tmp3 rfl _ _ _) rfl ?_
        exact ⟨(by rw [break_hit HL.out hlt hjt HI.out HJ.out HYES.out]; rfl), GB.out⟩
       have HNO : Aside0 (brkB u nt i j = false) := ⟨dF_ (fun q => hz (by rw [← ez]; exact q.2.2))⟩
       have hz1 := bv_ hz
       clear ev ez hij hv hz
       go_wp2
       refine start_ (n := 39) (S := fun w' => w'.cell? ⟨g, 0, none⟩ = some (.slice (some ad) u.length bu2) ∧ w'.cell? (ad.add i) = some (.slice (some ar) u.length c1) ∧ w'.cell? (ar.add j) = some (.int .i64 v) ∧ w'.cell? ⟨g, 1, none⟩ = some (.slice (some am) u.length ba) ∧ w'.cell? (am.add j) = some (.slice (some an2) u.length c3) ∧ w'.cell? ⟨g, 3, none⟩ = some (.slice (some an) u.length bn) ∧ w'.cell? (an.add i) = some (.int .i64 y) ∧ w'.cell? (an2.add y.toNat) = some (.int .i64 z) ∧ w'.cell? ⟨g, 4, none⟩ = some (.int .i64 (leastI u))) (ds := []) (bA 39 0) (by kernel_rfl) rfl rfl ⟨f0, f1, f2, f3, f4, f5, f6, f7, f8⟩ (fun hHeld => ?_)
       have GW := ak (HW.out.below (below_drew (Below.refl _ _)))
       have GB := ak (below_drew1 HB.out)
       clear HW HB f0 f1 f2 f3 f4 f5 f6 f7 f8
       generalize wr.drew = wd at GW GB hHeld ⊢
       refine pu_ (i := 0) (N := some 28) (bA 39 1) ?_
       refine pu_ (i := 1) (N := some 29) (bA 39 3) ?_
       refine pu_ (i := 2) (N := some 30) (bA 39 7) ?_
       refine pu_ (i := 3) (N := some 31) (bA 39 15) ?_
       refine pu_ (i := 4) (N := some 32) (bA 39 31) ?_
       refine pu_ (i := 5) (N := some 33) (bA 39 63) ?_
       refine pu_ (i := 6) (N := some 34) (bA 39 127) ?_
       refine tk_ (i := 7) (N := some 35) (bA 39 255) ?_
       refine pu_ (i := 8) (N := some 36) (bA 39 511) ?_
       refine pu_ (i := 9) (N := some 37) (bA 39 1023) ?_
       refine tk_ (i := 10) (N := some 38) (bA 39 2047) ?_
       refine pu_ (i := 11) (N := some 39) (bA 39 4095) ?_
       refine pu_ (i := 12) (N := some 40) (bA 39 8191) ?_
       refine tk_ (i := 13) (N := some 41) (bA 39 16383) ?_
       refine pu_ (i := 14) (N := some 42) (bA 39 32767) ?_
       refine pu_ (i := 15) (N := some 43) (bA 39 65535) ?_
       refine pu_ (i := 16) (N := some 44) (bA 39 131071) ?_
       refine pu_ (i := 17) (N := some 45) (bA 39 262143) ?_
       refine pu_ (i := 18) (N := some 46) (bA 39 524287) ?_
       refine pu_ (i := 19) (N := some 47) (bA 39 1048575) ?_
       refine tk_ (i := 20) (N := some 48) (bA 39 2097151) ?_
       refine pu_ (i := 21) (N := some 49) (bA 39 4194303) ?_
       refine pu_ (i := 22) (N := some 50) (bA 39 8388607) ?_
       refine tk_ (i := 23) (N := some 51) (bA 39 16777215) ?_
       refine pu_ (i := 24) (N := some 52) (bA 39 33554431) ?_
       refine pu_ (i := 25) (N := some 53) (bA 39 67108863) ?_
       refine pu_ (i := 26) (N := some 54) (bA 39 134217727) ?_
       refine tk_ (i := 27) (N := some 55) (bA 39 268435455) ?_
       refine pu_ (i := 28) (N := some 56) (bA 39 536870911) ?_
       refine pu_ (i := 29) (N := some 57) (bA 39 1073741823) ?_
       refine tk_ (i := 30) (N := some 58) (bA 39 2147483647) ?_
       refine pu_ (i := 31) (N := some 59) (bA 39 4294967295) ?_
       refine tk_ (i := 32) (N := some 60) (bA 39 8589934591) ?_
       refine pu_ (i := 33) (N := some 61) (bA 39 17179869183) ?_
       refine pu_ (i := 34) (N := some 62) (bA 39 34359738367) ?_
       refine pu_ (i := 35) (N := some 63) (bA 39 68719476735) ?_
       refine tk_ (i := 36) (N := some 64) (bA 39 137438953471) ?_
       refine pu_ (i := 37) (N := some 65) (bA 39 274877906943) ?_
       refine pu_ (i := 38) (N := some 66) (bA 39 549755813887) ?_
       refine done_ (by kernel_rfl) ?_
       go_wp2
       go_roundw
       case rel => exact ⟨j + 1, (by omega), (by go_num), ⟨fun b hb => if q : b < j then HJ.out b q else (show b = j by omega) ▸ HNO.out⟩, GW, GB⟩
       case measure => simp [intOf]; omega
      have HNO : Aside0 (brkB u nt i j = false) := ⟨dF_ (fun q => hv (by rw [← ev]; exact q.2.1))⟩
      have hv1 := bv_ hv
      clear f3 f4 f5 f6 f7 f8 hy0 hy1 ev ez hij hv
      go_wp2
      refine start_ (n := 39) (S := fun w' => w'.cell? ⟨g, 0, none⟩ = some (.slice (some ad) u.length bu2) ∧ w'.cell? (ad.add i) = some (.slice (some ar) u.length c1) ∧ w'.cell? (ar.add j) = some (.int .i64 v)) (ds := []) (bA 39 0) (by kernel_rfl) rfl rfl ⟨f0, f1, f2⟩ (fun hHeld => ?_)
      have GW := ak (HW.out.below (below_drew (Below.refl _ _)))
      have GB := ak (below_drew1 HB.out)
      clear HW HB f0 f1 f2
      generalize wr.drew = wd at GW GB hHeld ⊢
      refine pu_ (i := 0) (N := some 28) (bA 39 1) ?_
      refine pu_ (i := 1) (N := some 29) (bA 39 3) ?_
      refine pu_ (i := 2) (N := some 30) (bA 39 7) ?_
      refine pu_ (i := 3) (N := some 31) (bA 39 15) ?_
      refine pu_ (i := 4) (N := some 32) (bA 39 31) ?_
      refine pu_ (i := 5) (N := some 33) (bA 39 63) ?_
      refine pu_ (i := 6) (N := some 34) (bA 39 127) ?_
      refine tk_ (i := 7) (N := some 35) (bA 39 255) ?_
      refine pu_ (i := 8) (N := some 36) (bA 39 511) ?_
      refine pu_ (i := 9) (N := some 37) (bA 39 1023) ?_
      refine tk_ (i := 10) (N := some 38) (bA 39 2047) ?_
      refine pu_ (i := 11) (N := some 39) (bA 39 4095) ?_
      refine pu_ (i := 12) (N := some 40) (bA 39 8191) ?_
      refine tk_ (i := 13) (N := some 41) (bA 39 16383) ?_
      refine pu_ (i := 14) (N := some 42) (bA 39 32767) ?_
      refine pu_ (i := 15) (N := some 43) (bA 39 65535) ?_
      refine pu_ (i := 16) (N := some 44) (bA 39 131071) ?_
      refine of_ (i := 17) (N := some 45) (bA 39 262143) ?_
      refine of_ (i := 18) (N := some 46) (bA 39 524287) ?_
      refine of_ (i := 19) (N := some 47) (bA 39 1048575) ?_
      refine of_ (i := 20) (N := some 48) (bA 39 2097151) ?_
      refine of_ (i := 21) (N := some 49) (bA 39 4194303) ?_
      refine of_ (i := 22) (N := some 50) (bA 39 8388607) ?_
      refine of_ (i := 23) (N := some 51) (bA 39 16777215) ?_
      refine of_ (i := 24) (N := some 52) (bA 39 33554431) ?_
      refine of_ (i := 25) (N := some 53) (bA 39 67108863) ?_
      refine of_ (i := 26) (N := some 54) (bA 39 134217727) ?_
      refine of_ (i := 27) (N := some 55) (bA 39 268435455) ?_
      refine of_ (i := 28) (N := some 56) (bA 39 536870911) ?_
      refine of_ (i := 29) (N := some 57) (bA 39 1073741823) ?_
      refine of_ (i := 30) (N := some 58) (bA 39 2147483647) ?_
      refine of_ (i := 31) (N := some 59) (bA 39 4294967295) ?_
      refine of_ (i := 32) (N := some 60) (bA 39 8589934591) ?_
      refine of_ (i := 33) (N := some 61) (bA 39 17179869183) ?_
      refine of_ (i := 34) (N := some 62) (bA 39 34359738367) ?_
      refine of_ (i := 35) (N := some 63) (bA 39 68719476735) ?_
      refine of_ (i := 36) (N := some 64) (bA 39 137438953471) ?_
      refine of_ (i := 37) (N := some 65) (bA 39 274877906943) ?_
      refine pu_ (i := 38) (N := some 66) (bA 39 549755813887) ?_
      refine done_ (by kernel_rfl) ?_
      go_wp2
      go_roundw
      case rel => exact ⟨j + 1, (by omega), (by go_num), ⟨fun b hb => if q : b < j then HJ.out b q else (show b = j by omega) ▸ HNO.out⟩, GW, GB⟩
      case measure => simp [intOf]; omega
     have ej : j = u.length := by omega
     have a2 : Aside0 (∀ b, b < u.length → brkB u nt i b = false) := ⟨(by rw [← ej]; exact HJ.out)⟩
     clear ej HJ
     go_wp2
     go_roundw
     case rel => exact ⟨i + 1, (by omega), (by go_num), ⟨fun a ha => if q : a < i then HI.out a q else (show a = i by omega) ▸ a2.out⟩, HW, HB⟩
     case measure => simp [intOf]; omega
   have ei : i = u.length := by omega
   have HN : Aside0 (breakF u nt = (-1, -1, false)) := ⟨break_none (fun a ha => HI.out a (by omega))⟩
   clear ei
   go_wp2
   refine bodyPost_ret (results_tmp3 rfl _ _ _) rfl ?_
   exact ⟨(by rw [HN.out]; rfl), HB.out⟩
 have HL := ak hl
 clear hl
 go_enter Try.func28, Try.ntmps28
 go_wp2_with (first
  | ((with_reducible refine gate_dst (N := 1) rfl ?_); refine bx_ (N := 1) (cs := #[.slice Au u.length cu, .slice An nt.length cn]) (t := 27) ?_; intro gb hg w4 hbox hb; have hc0 : w4.cell? ⟨gb, 0, none⟩ = some (.slice Au u.length cu) := (blk_cell hbox 0).trans rfl; have hc1 : w4.cell? ⟨gb, 1, none⟩ = some (.slice An nt.length cn) := (blk_cell hbox 1).trans rfl; have HB4 := ak hb; clear hb hg hbox)
  | (go_at_call 68; (with_reducible refine (told_none _ _ u _ _ nt _ ?s1 ?s2 ?s3 ?s4 HL.out).mono ?_); (case s1 => repeat (first | exact (Kd.C_below HU.out HB4.out) | (with_reducible refine Kd.C_alloc ?_ _) | (with_reducible refine Kd.C_drewN ?_ _) | (with_reducible refine Kd.C_drew ?_))); (case s2 => exact HC.out); (case s3 => repeat (first | exact (Kd.C_below HN.out HB4.out) | (with_reducible refine Kd.C_alloc ?_ _) | (with_reducible refine Kd.C_drewN ?_ _) | (with_reducible refine Kd.C_drew ?_))); (case s4 => exact HCN.out); rintro e w5 ⟨rfl, hD⟩; have HB5 := ak (below_step HB4.out hD); clear hD))
 refine bodyPost_ret (results_tmp3 rfl _ _ _) rfl ?_
 exact ⟨(by rw [break_not HL.out]; rfl), z24_0⟩
theorem impl_BreakOf.calls (A0_0 : Option Addr) (c0_0 : Nat) (l0_0 : List (List Int)) (A0_1 : Option Addr) (c0_1 : Nat) (l0_1 : List Int) (r1 : Int) (r2 : Int) (r3 : Bool) (w : World) (hr0_0 : Kd.C (Kd.slice 3 (Kd.int .i64)) w A0_0 l0_0.length l0_0) (hc0_0 : l0_0.length ≤ c0_0) (hr0_1 : Kd.C (Kd.int .i64) w A0_1 l0_1.length l0_1) (hc0_1 : l0_1.length ≤ c0_1) (h : impl_BreakOf.f l0_0 l0_1 = some (r1, r2, r3)) :
    Calls Try.prog 28 #[.agg #[.slice A0_0 l0_0.length c0_0, .slice A0_1 l0_1.length c0_1]] w fun e w' => e = .returned (.tuple #[.int .i64 r1, .int .i64 r2, .bool r3]) ∧ Below w.heap.size w w' := by
  have e := Option.some.inj h
  have q := breakOf_core A0_0 c0_0 l0_0 A0_1 c0_1 l0_1 w hr0_0 hc0_0 hr0_1 hc0_1
  rw [e] at q
  exact q
end Go.Proofs.Ytacifhahfamipaa.P
