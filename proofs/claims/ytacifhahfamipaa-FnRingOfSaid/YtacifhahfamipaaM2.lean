import Derived.Test.YtacifhahfamipaaPk2
import Derived.Test.YtacifhahfamipaaPk4
namespace Go.Proofs.Ytacifhahfamipaa.P
open Go.RowKit Go.Proofs.YtacifhahfamipaaW.PrintWords Go.Proofs.YtacifhahfamipaaW.PrintLast Go.Proofs.YtacifhahfamipaaW.PrintMore
set_option linter.unusedVariables false
set_option linter.unusedSimpArgs false
theorem under6 {a : Nat} (h : a < 6) : a = 0 ∨ a = 1 ∨ a = 2 ∨ a = 3 ∨ a = 4 ∨ a = 5 := by omega
set_option maxHeartbeats 8000000 in
set_option maxRecDepth 100000 in
theorem ring1 (a b : Nat) (ha : a < 6) (hb : b < 6) (w : World) : Calls Try.prog 64 (#[.int .i64 a, .int .i64 b] ++ #[]) w fun e w2 => e = .returned (.bool (ringB a b)) ∧ Drawn0 w w2 := by
 rcases under6 ha with rfl | rfl | rfl | rfl | rfl | rfl <;> rcases under6 hb with rfl | rfl | rfl | rfl | rfl | rfl
 all_goals
  clear ha hb
  go_enter Try.func64, Try.ntmps64
  go_wp2
  go_ret
  exact ⟨rfl, Drawn0.refl _⟩
set_option maxHeartbeats 8000000 in
set_option maxRecDepth 100000 in
theorem ring2 (a : Nat) (ha : a < 6) (w : World) : Calls Try.prog 65 (#[.int .i64 a] ++ #[]) w fun e w2 => e = .returned (.int .i64 (5 - (a : Int))) ∧ Drawn0 w w2 := by
 rcases under6 ha with rfl | rfl | rfl | rfl | rfl | rfl
 all_goals
  clear ha
  go_enter Try.func65, Try.ntmps65
  go_wp2
  go_ret
  exact ⟨rfl, Drawn0.refl _⟩
set_option maxHeartbeats 8000000 in
set_option maxRecDepth 100000 in
theorem ringOf_core (n : Int) (w : World) (r1 : List (List Int)) (r2 : List Int) (r3 : Bool) (h : ringF n = (r1, r2, r3)) :
 Calls Try.prog 15 #[.int .i64 n] w fun e w' => ∃ v0_ v1_ : Value, e = .returned (.tuple #[.agg #[v0_, v1_], .bool r3]) ∧ Kd.S (Kd.slice 3 (Kd.int .i64)) 25 w' w.heap.size (fun k_ => some k_ ≠ (v1_ : Value).ownBlock) v0_ r1 ∧ Kd.R (Kd.int .i64) 3 w' w.heap.size (fun _ => True) v1_ r2 ∧ Below w.heap.size w w' := by
 have hul := Try.underlying27
 have HB := ak (Below.refl w.heap.size w)
 by_cases hn : n = 6
 ·
  subst hn
  obtain ⟨e1, e23⟩ := Prod.mk.inj h
  obtain ⟨e2, e3⟩ := Prod.mk.inj e23
  have E1 := ak e1
  have E2 := ak e2
  have E3 := ak e3
  clear h e23 e1 e2 e3
  go_enter Try.func15, Try.ntmps15
  go_wp2_with (first
   | ((with_reducible refine gate_dst (N := 2) rfl ?_); refine bx_ (N := 2) (cs := #[.slice none 0 0, .slice none 0 0]) (t := 27) ?_; intro g0 hg w4 hbox hb; have HX := ak hbox; have HBX := ak (below_step HB.out hb); have HG := ak (Nat.le_of_eq hg.symm); clear hb hg hbox)
   | (go_at_call 63; (with_reducible refine (made_int (w := w4) 6 6 rfl (by omega) 64 65 #[] #[] (enters_of Try.func64 (by kernel_rfl) rfl) (enters_of Try.func65 (by kernel_rfl) rfl) ringB (fun a => 5 - (a : Int)) (fun w' a b _ ha hb => ring1 a b ha hb w') (fun w' a _ ha => ring2 a ha w')).mono ?_); rintro e w5 ⟨v0, v1, rfl, hS, hR, hb⟩; have HX5 := ak (blk_below HX.out hb); have HB5 := ak (below_step HBX.out hb); have HS := ak hS; have HR := ak hR; clear hS hR hb HX; obtain ⟨A0, c0, e0⟩ := Kd.S_slice HS.out; subst e0; obtain ⟨A1, c1, e1⟩ := Kd.R_slice HR.out; subst e1; have hq0 : w5.cell? ⟨g0, 0, none⟩ = some (.slice none 0 0) := (blk_cell HX5.out 0).trans rfl; have hq1 : w5.cell? ⟨g0, 1, none⟩ = some (.slice none 0 0) := (blk_cell HX5.out 1).trans rfl; have hz0 := blk_frozen HX5.out 0; have hz1 := blk_frozen HX5.out 1))
  refine bodyPost_ret (results_ct rfl _ _ g0 27 #[.slice A0 (madeU 6 ringB).length c0, .slice A1 (madeN 6 fun a => 5 - (a : Int)).length c1] (0, 0) _ rfl (blk_put (cs := #[.slice A0 (madeU 6 ringB).length c0, .slice none 0 0]) (blk_put (cs := #[.slice none 0 0, .slice none 0 0]) HX5.out 0 _ rfl) 1 _ rfl) hul rfl (by kernel_rfl)) rfl ?_
  rw [← E1.out, ← E2.out, ← E3.out]
  have hs := Kd.S_far (p := ⟨g0, 1, none⟩) (Kd.S_far (p := ⟨g0, 0, none⟩) (Kd.S_types (Kd.S_lower HS.out (below_size HBX.out)) HX5.out (by decide)) (fun _ hk => hk.2) (.slice A0 (madeU 6 ringB).length c0)) (fun _ hk => hk.2) (.slice A1 (madeN 6 fun a => 5 - (a : Int)).length c1)
  exact ⟨_, _, rfl, Kd.S_mono hs (fun _ hk => hk.1), Kd.R_mono (Kd.R_far (p := ⟨g0, 1, none⟩) (Kd.R_far (p := ⟨g0, 0, none⟩) (Kd.R_types (Kd.R_lower HR.out (below_size HBX.out)) HX5.out (by decide)) (fun _ hk => hk.2) _) (fun _ hk => hk.2) _) (fun _ _ => trivial), below_set (below_set HB5.out HG.out) HG.out⟩
 have e : ringF n = ([], [], false) := by unfold ringF; rw [if_neg hn]
 rw [e] at h
 obtain ⟨e1, e23⟩ := Prod.mk.inj h
 obtain ⟨e2, e3⟩ := Prod.mk.inj e23
 subst e1
 subst e2
 subst e3
 clear h e23 e
 have hn1 : (n == 6) = false := by simpa using hn
 have hn2 : (n != 6) = true := by simpa using hn
 go_enter Try.func15, Try.ntmps15
 go_wp2_with ((with_reducible refine gate_dst (N := 2) rfl ?_); refine bx_ (N := 2) (cs := #[.slice none 0 0, .slice none 0 0]) (t := 27) ?_; intro g0 hg w4 hbox hb; have HX := ak hbox; have HBX := ak (below_step HB.out hb); have HG := ak (Nat.le_of_eq hg.symm); clear hb hg hbox; have hq0 : w4.cell? ⟨g0, 0, none⟩ = some (.slice none 0 0) := (blk_cell HX.out 0).trans rfl; have hq1 : w4.cell? ⟨g0, 1, none⟩ = some (.slice none 0 0) := (blk_cell HX.out 1).trans rfl; have hz0 := blk_frozen HX.out 0; have hz1 := blk_frozen HX.out 1)
 refine bodyPost_ret (results_ct rfl _ _ g0 27 #[.slice none 0 0, .slice none 0 0] (0, 0) _ rfl (blk_put (cs := #[.slice none 0 0, .slice none 0 0]) (blk_put (cs := #[.slice none 0 0, .slice none 0 0]) HX.out 0 _ rfl) 1 _ rfl) hul rfl (by kernel_rfl)) rfl ?_
 exact ⟨_, _, rfl, Kd.S_nil _ _ _ _ _, Kd.R_nil _ _ _ _ _, below_set (below_set HBX.out HG.out) HG.out⟩
end Go.Proofs.Ytacifhahfamipaa.P

