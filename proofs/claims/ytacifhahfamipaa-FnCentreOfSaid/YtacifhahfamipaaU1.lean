
import Derived.Test.YtacifhahfamipaaPk2
import Derived.Test.YtacifhahfamipaaPk6
namespace Go.Proofs.Ytacifhahfamipaa.P
open Go.RowKit Go.Proofs.YtacifhahfamipaaW.PrintWords Go.Proofs.YtacifhahfamipaaW.PrintLast Go.Proofs.YtacifhahfamipaaW.PrintMore Go.Proofs.Cl
set_option linter.unusedVariables false
set_option linter.unusedSimpArgs false
theorem z2b_0 {p : Prop} (h : p := by repeat (first | exact HB5.out | (with_reducible first | apply below_alloc | apply pw_below_drewN | apply below_drew1))) : p := h
set_option maxHeartbeats 4000000 in
set_option maxRecDepth 100000 in
theorem noOf_core (Au : Option Addr) (cu : Nat) (u : List (List Int)) (An : Option Addr) (cn : Nat) (nt : List Int) (w : World)
 (hu : Kd.C (Kd.slice 3 (Kd.int .i64)) w Au u.length u) (hcu : u.length ≤ cu) (hn : Kd.C (Kd.int .i64) w An nt.length nt) (hcn : nt.length ≤ cn) :
 Calls Try.prog 54 #[.agg #[.slice Au u.length cu, .slice An nt.length cn]] w fun e w' => e = .returned (.int .i64 (noF u nt)) ∧ Below w.heap.size w w' := by
 have hul := Try.underlying27
 have HU := ak hu
 have HC := ak hcu
 have HN := ak hn
 have HCN := ak hcn
 clear hu hcu hn hcn
 by_cases hl : OL u nt
 ·
  have HL := ak hl
  clear hl
  go_enter Try.func54, Try.ntmps54
  go_wp2_with (first
   | ((with_reducible refine gate_dst (N := 1) rfl ?_); refine bx_ (N := 1) (cs := #[.slice Au u.length cu, .slice An nt.length cn]) (t := 27) ?_; intro gb hg w4 hbox hb; have hc0 : w4.cell? ⟨gb, 0, none⟩ = some (.slice Au u.length cu) := (blk_cell hbox 0).trans rfl; have hc1 : w4.cell? ⟨gb, 1, none⟩ = some (.slice An nt.length cn) := (blk_cell hbox 1).trans rfl; have HB4 := ak hb; clear hb hg hbox)
   | (go_at_call 68; (with_reducible refine (told_some _ _ u _ _ nt _ ?s1 ?s2 ?s3 ?s4 HL.out).mono ?_); (case s1 => repeat (first | exact (Kd.C_below HU.out HB4.out) | (with_reducible refine Kd.C_alloc ?_ _) | (with_reducible refine Kd.C_drewN ?_ _) | (with_reducible refine Kd.C_drew ?_))); (case s2 => exact HC.out); (case s3 => repeat (first | exact (Kd.C_below HN.out HB4.out) | (with_reducible refine Kd.C_alloc ?_ _) | (with_reducible refine Kd.C_drewN ?_ _) | (with_reducible refine Kd.C_drew ?_))); (case s4 => exact HCN.out); rintro e w5 ⟨g, rfl, hge, hAl, hD⟩; have HB5 := ak (below_step HB4.out hD); have HA := ak hAl; clear hD hge hAl; obtain ⟨_, _, _, _, _, _, _, _, h0, _⟩ := HA.out; have hv : w5.cell? ⟨g, 4, none⟩ = some (.int .i64 (leastI u)) := (blk_cell h0 4).trans rfl; clear h0))
  go_ret
  exact ⟨(by unfold noF; rw [if_pos HL.out]; rfl), z2b_0⟩
 have HL := ak hl
 clear hl
 go_enter Try.func54, Try.ntmps54
 go_wp2_with (first
  | ((with_reducible refine gate_dst (N := 1) rfl ?_); refine bx_ (N := 1) (cs := #[.slice Au u.length cu, .slice An nt.length cn]) (t := 27) ?_; intro gb hg w4 hbox hb; have hc0 : w4.cell? ⟨gb, 0, none⟩ = some (.slice Au u.length cu) := (blk_cell hbox 0).trans rfl; have hc1 : w4.cell? ⟨gb, 1, none⟩ = some (.slice An nt.length cn) := (blk_cell hbox 1).trans rfl; have HB4 := ak hb; clear hb hg hbox)
  | (go_at_call 68; (with_reducible refine (told_none _ _ u _ _ nt _ ?s1 ?s2 ?s3 ?s4 HL.out).mono ?_); (case s1 => repeat (first | exact (Kd.C_below HU.out HB4.out) | (with_reducible refine Kd.C_alloc ?_ _) | (with_reducible refine Kd.C_drewN ?_ _) | (with_reducible refine Kd.C_drew ?_))); (case s2 => exact HC.out); (case s3 => repeat (first | exact (Kd.C_below HN.out HB4.out) | (with_reducible refine Kd.C_alloc ?_ _) | (with_reducible refine Kd.C_drewN ?_ _) | (with_reducible refine Kd.C_drew ?_))); (case s4 => exact HCN.out); rintro e w5 ⟨rfl, hD⟩; have HB5 := ak (below_step HB4.out hD); clear hD))
 go_ret
 exact ⟨(by unfold noF; rw [if_neg HL.out]; rfl), z2b_0⟩
set_option maxHeartbeats 4000000 in
set_option maxRecDepth 100000 in
theorem yesOf_core (Au : Option Addr) (cu : Nat) (u : List (List Int)) (An : Option Addr) (cn : Nat) (nt : List Int) (w : World)
 (hu : Kd.C (Kd.slice 3 (Kd.int .i64)) w Au u.length u) (hcu : u.length ≤ cu) (hn : Kd.C (Kd.int .i64) w An nt.length nt) (hcn : nt.length ≤ cn) :
 Calls Try.prog 55 #[.agg #[.slice Au u.length cu, .slice An nt.length cn]] w fun e w' => e = .returned (.int .i64 (yesF u nt)) ∧ Below w.heap.size w w' := by
 have hul := Try.underlying27
 have HU := ak hu
 have HC := ak hcu
 have HN := ak hn
 have HCN := ak hcn
 clear hu hcu hn hcn
 by_cases hl : OL u nt
 ·
  have HL := ak hl
  clear hl
  go_enter Try.func55, Try.ntmps55
  go_wp2_with (first
   | ((with_reducible refine gate_dst (N := 1) rfl ?_); refine bx_ (N := 1) (cs := #[.slice Au u.length cu, .slice An nt.length cn]) (t := 27) ?_; intro gb hg w4 hbox hb; have hc0 : w4.cell? ⟨gb, 0, none⟩ = some (.slice Au u.length cu) := (blk_cell hbox 0).trans rfl; have hc1 : w4.cell? ⟨gb, 1, none⟩ = some (.slice An nt.length cn) := (blk_cell hbox 1).trans rfl; have HB4 := ak hb; clear hb hg hbox)
   | (go_at_call 68; (with_reducible refine (told_some _ _ u _ _ nt _ ?s1 ?s2 ?s3 ?s4 HL.out).mono ?_); (case s1 => repeat (first | exact (Kd.C_below HU.out HB4.out) | (with_reducible refine Kd.C_alloc ?_ _) | (with_reducible refine Kd.C_drewN ?_ _) | (with_reducible refine Kd.C_drew ?_))); (case s2 => exact HC.out); (case s3 => repeat (first | exact (Kd.C_below HN.out HB4.out) | (with_reducible refine Kd.C_alloc ?_ _) | (with_reducible refine Kd.C_drewN ?_ _) | (with_reducible refine Kd.C_drew ?_))); (case s4 => exact HCN.out); rintro e w5 ⟨g, rfl, hge, hAl, hD⟩; have HB5 := ak (below_step HB4.out hD); have HA := ak hAl; clear hD hge hAl; obtain ⟨_, _, _, _, _, _, _, _, h0, _⟩ := HA.out; have hv : w5.cell? ⟨g, 5, none⟩ = some (.int .i64 (rd nt (leastI u))) := (blk_cell h0 5).trans rfl; clear h0))
  go_ret
  exact ⟨(by unfold yesF; rw [if_pos HL.out]; rfl), z2b_0⟩
 have HL := ak hl
 clear hl
 go_enter Try.func55, Try.ntmps55
 go_wp2_with (first
  | ((with_reducible refine gate_dst (N := 1) rfl ?_); refine bx_ (N := 1) (cs := #[.slice Au u.length cu, .slice An nt.length cn]) (t := 27) ?_; intro gb hg w4 hbox hb; have hc0 : w4.cell? ⟨gb, 0, none⟩ = some (.slice Au u.length cu) := (blk_cell hbox 0).trans rfl; have hc1 : w4.cell? ⟨gb, 1, none⟩ = some (.slice An nt.length cn) := (blk_cell hbox 1).trans rfl; have HB4 := ak hb; clear hb hg hbox)
  | (go_at_call 68; (with_reducible refine (told_none _ _ u _ _ nt _ ?s1 ?s2 ?s3 ?s4 HL.out).mono ?_); (case s1 => repeat (first | exact (Kd.C_below HU.out HB4.out) | (with_reducible refine Kd.C_alloc ?_ _) | (with_reducible refine Kd.C_drewN ?_ _) | (with_reducible refine Kd.C_drew ?_))); (case s2 => exact HC.out); (case s3 => repeat (first | exact (Kd.C_below HN.out HB4.out) | (with_reducible refine Kd.C_alloc ?_ _) | (with_reducible refine Kd.C_drewN ?_ _) | (with_reducible refine Kd.C_drew ?_))); (case s4 => exact HCN.out); rintro e w5 ⟨rfl, hD⟩; have HB5 := ak (below_step HB4.out hD); clear hD))
 go_ret
 exact ⟨(by unfold yesF; rw [if_neg HL.out]; rfl), z2b_0⟩
set_option maxHeartbeats 4000000 in
set_option maxRecDepth 100000 in
theorem logicOk_core (Au : Option Addr) (cu : Nat) (u : List (List Int)) (An : Option Addr) (cn : Nat) (nt : List Int) (w : World)
 (hu : Kd.C (Kd.slice 3 (Kd.int .i64)) w Au u.length u) (hcu : u.length ≤ cu) (hn : Kd.C (Kd.int .i64) w An nt.length nt) (hcn : nt.length ≤ cn) :
 Calls Try.prog 20 #[.agg #[.slice Au u.length cu, .slice An nt.length cn]] w fun e w' => e = .returned (.bool (logicF u nt)) ∧ Below w.heap.size w w' := by
 have hul := Try.underlying27
 have HU := ak hu
 have HC := ak hcu
 have HN := ak hn
 have HCN := ak hcn
 clear hu hcu hn hcn
 by_cases hl : OL u nt
 ·
  have HL := ak hl
  clear hl
  go_enter Try.func20, Try.ntmps20
  go_wp2_with (first
   | ((with_reducible refine gate_dst (N := 1) rfl ?_); refine bx_ (N := 1) (cs := #[.slice Au u.length cu, .slice An nt.length cn]) (t := 27) ?_; intro gb hg w4 hbox hb; have hc0 : w4.cell? ⟨gb, 0, none⟩ = some (.slice Au u.length cu) := (blk_cell hbox 0).trans rfl; have hc1 : w4.cell? ⟨gb, 1, none⟩ = some (.slice An nt.length cn) := (blk_cell hbox 1).trans rfl; have HB4 := ak hb; clear hb hg hbox)
   | (go_at_call 68; (with_reducible refine (told_some _ _ u _ _ nt _ ?s1 ?s2 ?s3 ?s4 HL.out).mono ?_); (case s1 => repeat (first | exact (Kd.C_below HU.out HB4.out) | (with_reducible refine Kd.C_alloc ?_ _) | (with_reducible refine Kd.C_drewN ?_ _) | (with_reducible refine Kd.C_drew ?_))); (case s2 => exact HC.out); (case s3 => repeat (first | exact (Kd.C_below HN.out HB4.out) | (with_reducible refine Kd.C_alloc ?_ _) | (with_reducible refine Kd.C_drewN ?_ _) | (with_reducible refine Kd.C_drew ?_))); (case s4 => exact HCN.out); rintro e w5 ⟨g, rfl, hge, hAl, hD⟩; have HB5 := ak (below_step HB4.out hD); have HA := ak hAl; clear hD hge hAl; skip))
  go_ret
  exact ⟨(by unfold logicF; rw [dT_ HL.out]; rfl), z2b_0⟩
 have HL := ak hl
 clear hl
 go_enter Try.func20, Try.ntmps20
 go_wp2_with (first
  | ((with_reducible refine gate_dst (N := 1) rfl ?_); refine bx_ (N := 1) (cs := #[.slice Au u.length cu, .slice An nt.length cn]) (t := 27) ?_; intro gb hg w4 hbox hb; have hc0 : w4.cell? ⟨gb, 0, none⟩ = some (.slice Au u.length cu) := (blk_cell hbox 0).trans rfl; have hc1 : w4.cell? ⟨gb, 1, none⟩ = some (.slice An nt.length cn) := (blk_cell hbox 1).trans rfl; have HB4 := ak hb; clear hb hg hbox)
  | (go_at_call 68; (with_reducible refine (told_none _ _ u _ _ nt _ ?s1 ?s2 ?s3 ?s4 HL.out).mono ?_); (case s1 => repeat (first | exact (Kd.C_below HU.out HB4.out) | (with_reducible refine Kd.C_alloc ?_ _) | (with_reducible refine Kd.C_drewN ?_ _) | (with_reducible refine Kd.C_drew ?_))); (case s2 => exact HC.out); (case s3 => repeat (first | exact (Kd.C_below HN.out HB4.out) | (with_reducible refine Kd.C_alloc ?_ _) | (with_reducible refine Kd.C_drewN ?_ _) | (with_reducible refine Kd.C_drew ?_))); (case s4 => exact HCN.out); rintro e w5 ⟨rfl, hD⟩; have HB5 := ak (below_step HB4.out hD); clear hD))
 go_ret
 exact ⟨(by unfold logicF; rw [dF_ HL.out]; rfl), z2b_0⟩
set_option maxHeartbeats 4000000 in
set_option maxRecDepth 100000 in
theorem andOf_core (Au : Option Addr) (cu : Nat) (u : List (List Int)) (An : Option Addr) (cn : Nat) (nt : List Int) (a : Int) (b : Int) (w : World)
 (hu : Kd.C (Kd.slice 3 (Kd.int .i64)) w Au u.length u) (hcu : u.length ≤ cu) (hn : Kd.C (Kd.int .i64) w An nt.length nt) (hcn : nt.length ≤ cn) :
 Calls Try.prog 47 #[.agg #[.slice Au u.length cu, .slice An nt.length cn], .int .i64 a, .int .i64 b] w fun e w' => e = .returned (.int .i64 (andF u nt a b)) ∧ Below w.heap.size w w' := by
 have hul := Try.underlying27
 have HU := ak hu
 have HC := ak hcu
 have HN := ak hn
 have HCN := ak hcn
 clear hu hcu hn hcn
 by_cases hl : OL u nt
 ·
  have HL := ak hl
  clear hl
  cases hk : okAll u.length [a, b] with
  | true =>
   have HK := ak hk
   clear hk
   have hok := okAll_two HK.out
   have ha0 : 0 ≤ a := hok.1.1
   have hb0 : 0 ≤ b := hok.2.1
   have HOK := ak hok
   clear hok
   go_enter Try.func47, Try.ntmps47
   go_wp2_with (first
    | ((with_reducible refine gate_dst (N := 3) rfl ?_); refine bx_ (N := 3) (cs := #[.slice Au u.length cu, .slice An nt.length cn]) (t := 27) ?_; intro gb hg w4 hbox hb; have hc0 : w4.cell? ⟨gb, 0, none⟩ = some (.slice Au u.length cu) := (blk_cell hbox 0).trans rfl; have hc1 : w4.cell? ⟨gb, 1, none⟩ = some (.slice An nt.length cn) := (blk_cell hbox 1).trans rfl; have HB4 := ak hb; clear hb hg hbox)
    | (go_at_call 68; (with_reducible refine (told_some _ _ u _ _ nt _ ?s1 ?s2 ?s3 ?s4 HL.out).mono ?_); (case s1 => repeat (first | exact (Kd.C_below HU.out HB4.out) | (with_reducible refine Kd.C_alloc ?_ _) | (with_reducible refine Kd.C_drewN ?_ _) | (with_reducible refine Kd.C_drew ?_))); (case s2 => exact HC.out); (case s3 => repeat (first | exact (Kd.C_below HN.out HB4.out) | (with_reducible refine Kd.C_alloc ?_ _) | (with_reducible refine Kd.C_drewN ?_ _) | (with_reducible refine Kd.C_drew ?_))); (case s4 => exact HCN.out); rintro e w5 ⟨g, rfl, hge, hAl, hD⟩; have HB5 := ak (below_step HB4.out hD); have HA := ak hAl; clear hD hge hAl; skip)
    | ((with_reducible refine gate_dst (N := 13) rfl ?_); refine Kd.R_lit (Kd.int .i64) _ 3 ?hg (N := 13) ?hd (xs := ([a, b] : List Int)) (inner := [.int .i64 a, .int .i64 b]) (ok := fun _ => True) (okp := fun _ => True) ?hr ?hp (fun _ hk => hk) trivial (Below.refl _ _) (Nat.le_refl _) (by simp) ?_; (case hd => rfl); (case hg => rfl); (case hr => first | (go_simp; done) | (go_simp; rfl)); (case hp => exact (Reps.one (show Kd.M (Kd.int .i64) _ _ _ a [.int .i64 a] from rfl) (Reps.one (show Kd.M (Kd.int .i64) _ _ _ b [.int .i64 b] from rfl) (Reps.none _ _)))); intro vl w6 ho hb hg_ hnew_; clear hg_ hnew_; obtain ⟨Al, cl, el⟩ := Kd.R_slice ho; subst el; have HXL := ak (Kd.R_reads' ho).2.2; have HB6 := ak (below_step HB5.out hb); have a0 := ak (HA.out.below hb); clear ho hb)
    | (go_at_call 94; (with_reducible refine (knows_n a0.out _ _ [a, b] _ ?s0 ?s1 ?s2).mono ?_); (case s0 => rfl); (case s1 => exact HXL.out); (case s2 => simp); rw [HK.out]; rintro e w7 ⟨rfl, hD⟩; obtain ⟨nd, rfl⟩ := hD; obtain ⟨Bu, bu, Ba, ba, Bo, bo, Bn, bn, h0, h1, h2, h3, h4, h5, h6, h7, h8⟩ := a0.out; obtain ⟨ad, ad2, cc, e0, hlt, hp1, hp2⟩ := tab_at (f := meetI u) rfl h3 HOK.out.1 HOK.out.2; subst e0; have hq : (w6.drewN nd).cell? ⟨g, 1, none⟩ = some _ := (blk_cell h0 1).trans rfl; have hq1 : (w6.drewN nd).cell? (ad.add a.toNat) = _ := hp1; have hq2 : (w6.drewN nd).cell? (ad2.add b.toNat) = _ := hp2; have hbl := HOK.out.2.2; clear h0 h1 h2 h3 h4 h5 h6 h7 h8 hp1 hp2))
   go_ret
   exact ⟨(by unfold andF; rw [if_pos ⟨HL.out, HK.out⟩]; rfl), (by repeat (first | exact HB6.out | (with_reducible first | apply below_alloc | apply pw_below_drewN | apply below_drew1)))⟩
  | false =>
   have HK := ak hk
   clear hk
   go_enter Try.func47, Try.ntmps47
   go_wp2_with (first
    | ((with_reducible refine gate_dst (N := 3) rfl ?_); refine bx_ (N := 3) (cs := #[.slice Au u.length cu, .slice An nt.length cn]) (t := 27) ?_; intro gb hg w4 hbox hb; have hc0 : w4.cell? ⟨gb, 0, none⟩ = some (.slice Au u.length cu) := (blk_cell hbox 0).trans rfl; have hc1 : w4.cell? ⟨gb, 1, none⟩ = some (.slice An nt.length cn) := (blk_cell hbox 1).trans rfl; have HB4 := ak hb; clear hb hg hbox)
    | (go_at_call 68; (with_reducible refine (told_some _ _ u _ _ nt _ ?s1 ?s2 ?s3 ?s4 HL.out).mono ?_); (case s1 => repeat (first | exact (Kd.C_below HU.out HB4.out) | (with_reducible refine Kd.C_alloc ?_ _) | (with_reducible refine Kd.C_drewN ?_ _) | (with_reducible refine Kd.C_drew ?_))); (case s2 => exact HC.out); (case s3 => repeat (first | exact (Kd.C_below HN.out HB4.out) | (with_reducible refine Kd.C_alloc ?_ _) | (with_reducible refine Kd.C_drewN ?_ _) | (with_reducible refine Kd.C_drew ?_))); (case s4 => exact HCN.out); rintro e w5 ⟨g, rfl, hge, hAl, hD⟩; have HB5 := ak (below_step HB4.out hD); have HA := ak hAl; clear hD hge hAl; skip)
    | ((with_reducible refine gate_dst (N := 13) rfl ?_); refine Kd.R_lit (Kd.int .i64) _ 3 ?hg (N := 13) ?hd (xs := ([a, b] : List Int)) (inner := [.int .i64 a, .int .i64 b]) (ok := fun _ => True) (okp := fun _ => True) ?hr ?hp (fun _ hk => hk) trivial (Below.refl _ _) (Nat.le_refl _) (by simp) ?_; (case hd => rfl); (case hg => rfl); (case hr => first | (go_simp; done) | (go_simp; rfl)); (case hp => exact (Reps.one (show Kd.M (Kd.int .i64) _ _ _ a [.int .i64 a] from rfl) (Reps.one (show Kd.M (Kd.int .i64) _ _ _ b [.int .i64 b] from rfl) (Reps.none _ _)))); intro vl w6 ho hb hg_ hnew_; clear hg_ hnew_; obtain ⟨Al, cl, el⟩ := Kd.R_slice ho; subst el; have HXL := ak (Kd.R_reads' ho).2.2; have HB6 := ak (below_step HB5.out hb); have a0 := ak (HA.out.below hb); clear ho hb)
    | (go_at_call 94; (with_reducible refine (knows_n a0.out _ _ [a, b] _ ?s0 ?s1 ?s2).mono ?_); (case s0 => rfl); (case s1 => exact HXL.out); (case s2 => simp); rw [HK.out]; rintro e w7 ⟨rfl, hD⟩; obtain ⟨nd, rfl⟩ := hD; skip))
   go_ret
   exact ⟨(by unfold andF; rw [if_neg (fun q => by have k := HK.out; rw [q.2] at k; cases k)]; rfl), (by repeat (first | exact HB6.out | (with_reducible first | apply below_alloc | apply pw_below_drewN | apply below_drew1)))⟩
 have HL := ak hl
 clear hl
 go_enter Try.func47, Try.ntmps47
 go_wp2_with (first
  | ((with_reducible refine gate_dst (N := 3) rfl ?_); refine bx_ (N := 3) (cs := #[.slice Au u.length cu, .slice An nt.length cn]) (t := 27) ?_; intro gb hg w4 hbox hb; have hc0 : w4.cell? ⟨gb, 0, none⟩ = some (.slice Au u.length cu) := (blk_cell hbox 0).trans rfl; have hc1 : w4.cell? ⟨gb, 1, none⟩ = some (.slice An nt.length cn) := (blk_cell hbox 1).trans rfl; have HB4 := ak hb; clear hb hg hbox)
  | (go_at_call 68; (with_reducible refine (told_none _ _ u _ _ nt _ ?s1 ?s2 ?s3 ?s4 HL.out).mono ?_); (case s1 => repeat (first | exact (Kd.C_below HU.out HB4.out) | (with_reducible refine Kd.C_alloc ?_ _) | (with_reducible refine Kd.C_drewN ?_ _) | (with_reducible refine Kd.C_drew ?_))); (case s2 => exact HC.out); (case s3 => repeat (first | exact (Kd.C_below HN.out HB4.out) | (with_reducible refine Kd.C_alloc ?_ _) | (with_reducible refine Kd.C_drewN ?_ _) | (with_reducible refine Kd.C_drew ?_))); (case s4 => exact HCN.out); rintro e w5 ⟨rfl, hD⟩; have HB5 := ak (below_step HB4.out hD); clear hD)
  | (go_at_call 94; (with_reducible refine (knows_nil _ _).mono ?_); rintro e w6 ⟨rfl, hD⟩; obtain ⟨nd, rfl⟩ := hD))
 go_ret
 exact ⟨(by unfold andF; rw [if_neg (fun q => HL.out q.1)]; rfl), z2b_0⟩
end Go.Proofs.Ytacifhahfamipaa.P

