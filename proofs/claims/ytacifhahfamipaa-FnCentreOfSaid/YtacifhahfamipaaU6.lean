import Derived.Test.YtacifhahfamipaaPk2
import Derived.Test.YtacifhahfamipaaPk6
import Derived.Deep.RegionWith
namespace Go.Proofs.Ytacifhahfamipaa.P
open Go.RowKit Go.Proofs.YtacifhahfamipaaW.PrintWords Go.Proofs.YtacifhahfamipaaW.PrintLast Go.Proofs.YtacifhahfamipaaW.PrintMore Go.Proofs.Cl
set_option linter.unusedVariables false
set_option linter.unusedSimpArgs false
theorem dec_and {p q : Prop} [Decidable p] [Decidable q] (h : p) : decide (p ∧ q) = decide q := by simp [h]
theorem keeps_reads {w : World} {g : Nat} {u : List (List Int)} {nt : List Int} {no yes : Int} (h : AlgAt w g u (mtab u) (jtab u) nt no yes) (hl : OL u nt) {a b : Int} (ha : 0 ≤ a ∧ a < u.length) (hb : 0 ≤ b ∧ b < u.length) :
 ∃ (v y z r : Int) (ad ar ae bo am an2 an : Addr) (bu be ba bn c1 c2 c3 : Nat), rdN u a.toNat b.toNat = v ∧ jn u a (mt u b (rd nt a)) = r ∧ (0 ≤ y ∧ y < (u.length : Int)) ∧ (0 ≤ z ∧ z < (u.length : Int)) ∧
  w.cell? ⟨g, 0, none⟩ = some (.slice (some ad) u.length bu) ∧ w.cell? (ad.add a.toNat) = some (.slice (some ar) u.length c1) ∧ w.cell? (ar.add b.toNat) = some (.int .i64 v) ∧
  w.cell? ⟨g, 2, none⟩ = some (.slice (some ae) u.length be) ∧ w.cell? (ae.add a.toNat) = some (.slice (some bo) u.length c2) ∧
  w.cell? ⟨g, 1, none⟩ = some (.slice (some am) u.length ba) ∧ w.cell? (am.add b.toNat) = some (.slice (some an2) u.length c3) ∧
  w.cell? ⟨g, 3, none⟩ = some (.slice (some an) u.length bn) ∧ w.cell? (an.add a.toNat) = some (.int .i64 y) ∧ w.cell? (an2.add y.toNat) = some (.int .i64 z) ∧ w.cell? (bo.add z.toNat) = some (.int .i64 r) := by
 obtain ⟨Bu, bu, Ba, ba, Bo, be, Bn, bn, h0, h1, h2, h3, h4, h5, h6, h7, h8⟩ := h
 have hy := ng_in hl ha
 have hz := mt_in hl.1 hb hy
 have hlm : (mtab u).length = u.length := by simp [mtab]
 have hlj : (jtab u).length = u.length := by simp [jtab]
 rw [hlm, hlj, hl.2.1] at h0
 obtain ⟨ad, A0, c1, e1, k1, k2, k3⟩ := at_L1 h1 a ha.1 ha.2
 have hr : (rd_L1 u a).length = u.length := by obtain ⟨n, rfl, hn⟩ := Q.nat_of ha; rw [Q.row_nat]; exact hl.1.1.row hn
 rw [hr] at k1 k3
 obtain ⟨ar, e2, k4⟩ := Kd.at_int k3 b hb.1 hb.2
 obtain ⟨ae, bo, c2, e3, k5, k6⟩ := tab_row (f := joinI u) rfl h5 ha
 obtain ⟨am, an2, c3, e4, k7, k8⟩ := tab_row (f := meetI u) rfl h3 hb
 obtain ⟨an, e5, k9⟩ := Kd.at_int h7 a ha.1 (by rw [hl.2.1]; exact ha.2)
 subst e1
 subst e2
 subst e3
 subst e4
 subst e5
 have hv : rdN u a.toNat b.toNat = rd (rd_L1 u a) b := by
  obtain ⟨n, rfl, hn⟩ := Q.nat_of ha
  obtain ⟨m, rfl, hm⟩ := Q.nat_of hb
  rw [Int.toNat_natCast, Int.toNat_natCast, Q.at_nat]
 exact ⟨_, _, _, _, ad, ar, ae, bo, am, an2, an, bu, be, ba, bn, c1, c2, c3, hv, rfl, hy, hz, (blk_cell h0 0).trans rfl, k1, k4, (blk_cell h0 2).trans rfl, k5, (blk_cell h0 1).trans rfl, k7, (blk_cell h0 3).trans rfl, k9, k8 _ hy, k6 _ hz⟩
set_option maxHeartbeats 4000000 in
set_option maxRecDepth 100000 in
theorem keeps1_calls {w : World} {B g : Nat} {u : List (List Int)} {nt : List Int} {no yes : Int} (hB : w.cell? ⟨B, 0, none⟩ = some (.pointer (some ⟨g, 0, none⟩))) (h : AlgAt w g u (mtab u) (jtab u) nt no yes) (hl : OL u nt) {a b : Int} (ha : 0 ≤ a ∧ a < u.length) (hb : 0 ≤ b ∧ b < u.length) :
 Calls Try.prog 75 #[.int .i64 a, .int .i64 b, .pointer (some ⟨B, 0, none⟩)] w fun e w' => e = .returned (.bool (decide (rdN u a.toNat b.toNat = 0 ∨ jn u a (mt u b (rd nt a)) = b))) ∧ Drawn0 w w' := by
 obtain ⟨v, y, z, r, ad, ar, ae, bo, am, an2, an, bu, be, ba, bn, c1, c2, c3, ev, er, ⟨hy0, hy1⟩, ⟨hz0, hz1⟩, f1, f2, f3, f4, f5, f6, f7, f8, f9, f10, f11⟩ := keeps_reads h hl ha hb
 have f0 := hB
 rw [ev, er]
 clear h hl hB ev er
 obtain ⟨ha0, ha1⟩ := ha
 obtain ⟨hb0, hb1⟩ := hb
 by_cases hv : v = 0
 ·
  subst hv
  have HR : Aside0 (decide ((0 : Int) = 0 ∨ r = b) = true) := ⟨dT_ (Or.inl rfl)⟩
  clear f4 f5 f6 f7 f8 f9 f10 f11 hy0 hy1 hz0 hz1
  go_enter Try.func75, Try.ntmps75
  try go_wp2
  refine start_ (n := 41) (S := fun w' => w'.cell? ⟨B, 0, none⟩ = some (.pointer (some ⟨g, 0, none⟩)) ∧ w'.cell? ⟨g, 0, none⟩ = some (.slice (some ad) u.length bu) ∧ w'.cell? (ad.add a.toNat) = some (.slice (some ar) u.length c1) ∧ w'.cell? (ar.add b.toNat) = some (.int .i64 0)) (ds := []) (bA 41 0) (by kernel_rfl) rfl rfl ⟨f0, f1, f2, f3⟩ (fun hHeld => ?_)
  refine tk_ (i := 0) (N := some 6) (bA 41 1) ?_
  refine pu_ (i := 1) (N := some 7) (bA 41 3) ?_
  refine pu_ (i := 2) (N := some 8) (bA 41 7) ?_
  refine tk_ (i := 3) (N := some 9) (bA 41 15) ?_
  refine pu_ (i := 4) (N := some 10) (bA 41 31) ?_
  refine pu_ (i := 5) (N := some 11) (bA 41 63) ?_
  refine tk_ (i := 6) (N := some 12) (bA 41 127) ?_
  refine pu_ (i := 7) (N := some 13) (bA 41 255) ?_
  refine pu_ (i := 8) (N := some 14) (bA 41 511) ?_
  refine tk_ (i := 9) (N := some 15) (bA 41 1023) ?_
  refine pu_ (i := 10) (N := some 16) (bA 41 2047) ?_
  refine pu_ (i := 11) (N := some 17) (bA 41 4095) ?_
  refine of_ (i := 12) (N := some 18) (bA 41 8191) ?_
  refine of_ (i := 13) (N := some 19) (bA 41 16383) ?_
  refine of_ (i := 14) (N := some 20) (bA 41 32767) ?_
  refine of_ (i := 15) (N := some 21) (bA 41 65535) ?_
  refine of_ (i := 16) (N := some 22) (bA 41 131071) ?_
  refine of_ (i := 17) (N := some 23) (bA 41 262143) ?_
  refine of_ (i := 18) (N := some 24) (bA 41 524287) ?_
  refine of_ (i := 19) (N := some 25) (bA 41 1048575) ?_
  refine of_ (i := 20) (N := some 26) (bA 41 2097151) ?_
  refine of_ (i := 21) (N := some 27) (bA 41 4194303) ?_
  refine of_ (i := 22) (N := some 28) (bA 41 8388607) ?_
  refine of_ (i := 23) (N := some 29) (bA 41 16777215) ?_
  refine of_ (i := 24) (N := some 30) (bA 41 33554431) ?_
  refine of_ (i := 25) (N := some 31) (bA 41 67108863) ?_
  refine of_ (i := 26) (N := some 32) (bA 41 134217727) ?_
  refine of_ (i := 27) (N := some 33) (bA 41 268435455) ?_
  refine of_ (i := 28) (N := some 34) (bA 41 536870911) ?_
  refine of_ (i := 29) (N := some 35) (bA 41 1073741823) ?_
  refine of_ (i := 30) (N := some 36) (bA 41 2147483647) ?_
  refine of_ (i := 31) (N := some 37) (bA 41 4294967295) ?_
  refine of_ (i := 32) (N := some 38) (bA 41 8589934591) ?_
  refine of_ (i := 33) (N := some 39) (bA 41 17179869183) ?_
  refine of_ (i := 34) (N := some 40) (bA 41 34359738367) ?_
  refine of_ (i := 35) (N := some 41) (bA 41 68719476735) ?_
  refine of_ (i := 36) (N := some 42) (bA 41 137438953471) ?_
  refine of_ (i := 37) (N := some 43) (bA 41 274877906943) ?_
  refine of_ (i := 38) (N := some 44) (bA 41 549755813887) ?_
  refine pu_ (i := 39) (N := some 45) (bA 41 1099511627775) ?_
  refine pu_ (i := 40) (N := some 5) (bA 41 2199023255551) ?_
  refine done_ (by kernel_rfl) ?_
  try go_wp2
  go_ret
  exact ⟨(by first | rfl | (rw [HR.out]; rfl)), ⟨_, rfl⟩⟩
 have HR : Aside0 (decide (v = 0 ∨ r = b) = (r == b)) := ⟨(by rw [Bool.eq_iff_iff, decide_eq_true_iff, beq_iff_eq]; exact ⟨fun q => q.resolve_left hv, Or.inr⟩)⟩
 have hv0 : (v == 0) = false := by simpa using hv
 go_enter Try.func75, Try.ntmps75
 try go_wp2
 refine start_ (n := 41) (S := fun w' => w'.cell? ⟨B, 0, none⟩ = some (.pointer (some ⟨g, 0, none⟩)) ∧ w'.cell? ⟨g, 0, none⟩ = some (.slice (some ad) u.length bu) ∧ w'.cell? (ad.add a.toNat) = some (.slice (some ar) u.length c1) ∧ w'.cell? (ar.add b.toNat) = some (.int .i64 v) ∧ w'.cell? ⟨g, 2, none⟩ = some (.slice (some ae) u.length be) ∧ w'.cell? (ae.add a.toNat) = some (.slice (some bo) u.length c2) ∧ w'.cell? ⟨g, 1, none⟩ = some (.slice (some am) u.length ba) ∧ w'.cell? (am.add b.toNat) = some (.slice (some an2) u.length c3) ∧ w'.cell? ⟨g, 3, none⟩ = some (.slice (some an) u.length bn) ∧ w'.cell? (an.add a.toNat) = some (.int .i64 y) ∧ w'.cell? (an2.add y.toNat) = some (.int .i64 z) ∧ w'.cell? (bo.add z.toNat) = some (.int .i64 r)) (ds := []) (bA 41 0) (by kernel_rfl) rfl rfl ⟨f0, f1, f2, f3, f4, f5, f6, f7, f8, f9, f10, f11⟩ (fun hHeld => ?_)
 refine tk_ (i := 0) (N := some 6) (bA 41 1) ?_
 refine pu_ (i := 1) (N := some 7) (bA 41 3) ?_
 refine pu_ (i := 2) (N := some 8) (bA 41 7) ?_
 refine tk_ (i := 3) (N := some 9) (bA 41 15) ?_
 refine pu_ (i := 4) (N := some 10) (bA 41 31) ?_
 refine pu_ (i := 5) (N := some 11) (bA 41 63) ?_
 refine tk_ (i := 6) (N := some 12) (bA 41 127) ?_
 refine pu_ (i := 7) (N := some 13) (bA 41 255) ?_
 refine pu_ (i := 8) (N := some 14) (bA 41 511) ?_
 refine tk_ (i := 9) (N := some 15) (bA 41 1023) ?_
 refine pu_ (i := 10) (N := some 16) (bA 41 2047) ?_
 refine pu_ (i := 11) (N := some 17) (bA 41 4095) ?_
 refine tk_ (i := 12) (N := some 18) (bA 41 8191) ?_
 refine pu_ (i := 13) (N := some 19) (bA 41 16383) ?_
 refine pu_ (i := 14) (N := some 20) (bA 41 32767) ?_
 refine tk_ (i := 15) (N := some 21) (bA 41 65535) ?_
 refine pu_ (i := 16) (N := some 22) (bA 41 131071) ?_
 refine pu_ (i := 17) (N := some 23) (bA 41 262143) ?_
 refine tk_ (i := 18) (N := some 24) (bA 41 524287) ?_
 refine tk_ (i := 19) (N := some 25) (bA 41 1048575) ?_
 refine pu_ (i := 20) (N := some 26) (bA 41 2097151) ?_
 refine pu_ (i := 21) (N := some 27) (bA 41 4194303) ?_
 refine tk_ (i := 22) (N := some 28) (bA 41 8388607) ?_
 refine pu_ (i := 23) (N := some 29) (bA 41 16777215) ?_
 refine pu_ (i := 24) (N := some 30) (bA 41 33554431) ?_
 refine tk_ (i := 25) (N := some 31) (bA 41 67108863) ?_
 refine tk_ (i := 26) (N := some 32) (bA 41 134217727) ?_
 refine pu_ (i := 27) (N := some 33) (bA 41 268435455) ?_
 refine pu_ (i := 28) (N := some 34) (bA 41 536870911) ?_
 refine tk_ (i := 29) (N := some 35) (bA 41 1073741823) ?_
 refine pu_ (i := 30) (N := some 36) (bA 41 2147483647) ?_
 refine pu_ (i := 31) (N := some 37) (bA 41 4294967295) ?_
 refine tk_ (i := 32) (N := some 38) (bA 41 8589934591) ?_
 refine pu_ (i := 33) (N := some 39) (bA 41 17179869183) ?_
 refine tk_ (i := 34) (N := some 40) (bA 41 34359738367) ?_
 refine pu_ (i := 35) (N := some 41) (bA 41 68719476735) ?_
 refine tk_ (i := 36) (N := some 42) (bA 41 137438953471) ?_
 refine pu_ (i := 37) (N := some 43) (bA 41 274877906943) ?_
 refine pu_ (i := 38) (N := some 44) (bA 41 549755813887) ?_
 refine pu_ (i := 39) (N := some 45) (bA 41 1099511627775) ?_
 refine pu_ (i := 40) (N := some 5) (bA 41 2199023255551) ?_
 refine done_ (by kernel_rfl) ?_
 try go_wp2
 go_ret
 exact ⟨(by first | rfl | (rw [HR.out]; rfl)), ⟨_, rfl⟩⟩
theorem keeps_every {W : World} {B g : Nat} {u : List (List Int)} {nt : List Int} {no yes : Int} (hB : W.cell? ⟨B, 0, none⟩ = some (.pointer (some ⟨g, 0, none⟩))) (h : AlgAt W g u (mtab u) (jtab u) nt no yes) (hl : OL u nt) :
 Calls Try.prog 74 #[.pointer (some ⟨g, 0, none⟩), .func (.func 75) #[] #[.pointer (some ⟨B, 0, none⟩)]] W fun e w' => e = .returned (.bool (decide (∀ a, a < u.length → ∀ b, b < u.length → rdN u a b = 0 ∨ jn u a (mt u b (rd nt a)) = b))) ∧ Drawn0 W w' := by
 obtain ⟨Bu, bu, Ba, ba, Bo, bo, Bn, bn, h0, _⟩ := id h
 refine pure_every (c := bu) (A := Bu) 75 (enters_of Try.func75 (by kernel_rfl) rfl) (fun a b => rdN u a b = 0 ∨ jn u a (mt u b (rd nt a)) = b) ((blk_cell h0 0).trans rfl) (by have := hl.1.1.2.1; omega) ?_
 rintro w' i j ⟨m, rfl⟩ hi hj
 exact keeps1_calls (w := W.drewN m) hB (h.drewN m) hl (a := i) (b := j) ⟨(by omega), (by omega)⟩ ⟨(by omega), (by omega)⟩
set_option maxHeartbeats 4000000 in
set_option maxRecDepth 100000 in
theorem keepsOk_core (Au : Option Addr) (cu : Nat) (u : List (List Int)) (An : Option Addr) (cn : Nat) (nt : List Int) (w : World)
 (hu : Kd.C (Kd.slice 3 (Kd.int .i64)) w Au u.length u) (hcu : u.length ≤ cu) (hn : Kd.C (Kd.int .i64) w An nt.length nt) (hcn : nt.length ≤ cn) :
 Calls Try.prog 26 #[.agg #[.slice Au u.length cu, .slice An nt.length cn]] w fun e w' => e = .returned (.bool (keepsF u nt)) ∧ Below w.heap.size w w' := by
 have hul := Try.underlying27
 have HU := ak hu
 have HC := ak hcu
 have HN := ak hn
 have HCN := ak hcn
 clear hu hcu hn hcn
 by_cases hl : OL u nt
 ·
  have HL := ak hl
  clear hl
  go_enter Try.func26, Try.ntmps26
  go_wp2_with (first
   | ((with_reducible refine gate_dst (N := 1) rfl ?_); refine bx_ (N := 1) (cs := #[.slice Au u.length cu, .slice An nt.length cn]) (t := 27) ?_; intro gb hg w4 hbox hb; have hc0 : w4.cell? ⟨gb, 0, none⟩ = some (.slice Au u.length cu) := (blk_cell hbox 0).trans rfl; have hc1 : w4.cell? ⟨gb, 1, none⟩ = some (.slice An nt.length cn) := (blk_cell hbox 1).trans rfl; have HB4 := ak hb; clear hb hg hbox)
   | (go_at_call 68; (with_reducible refine (told_some _ _ u _ _ nt _ ?s1 ?s2 ?s3 ?s4 HL.out).mono ?_); (case s1 => repeat (first | exact (Kd.C_below HU.out HB4.out) | (with_reducible refine Kd.C_alloc ?_ _) | (with_reducible refine Kd.C_drewN ?_ _) | (with_reducible refine Kd.C_drew ?_))); (case s2 => exact HC.out); (case s3 => repeat (first | exact (Kd.C_below HN.out HB4.out) | (with_reducible refine Kd.C_alloc ?_ _) | (with_reducible refine Kd.C_drewN ?_ _) | (with_reducible refine Kd.C_drew ?_))); (case s4 => exact HCN.out); rintro e w5 ⟨g, rfl, hge, hAl, hD⟩; have HB5 := ak (below_step HB4.out hD); have HA := ak hAl; clear hD hge hAl; skip)
   | (go_at_call 74; (with_reducible refine (keeps_every (B := w5.heap.size) (g := g) (no := leastI u) (yes := rd nt (leastI u)) ?e1 ?e2 HL.out).mono ?_); (case e1 => exact (blk_cell (blk_new _ _) 0).trans rfl); (case e2 => exact HA.out.below (below_alloc (Below.refl _ _) _)); rintro e w' ⟨rfl, hD⟩; obtain ⟨nd, rfl⟩ := hD))
  go_ret
  exact ⟨(by unfold keepsF; rw [dec_and HL.out]; rfl), (by repeat (first | exact HB5.out | (with_reducible first | apply below_alloc | apply pw_below_drewN | apply below_drew1)))⟩
 have HL := ak hl
 clear hl
 go_enter Try.func26, Try.ntmps26
 go_wp2_with (first
  | ((with_reducible refine gate_dst (N := 1) rfl ?_); refine bx_ (N := 1) (cs := #[.slice Au u.length cu, .slice An nt.length cn]) (t := 27) ?_; intro gb hg w4 hbox hb; have hc0 : w4.cell? ⟨gb, 0, none⟩ = some (.slice Au u.length cu) := (blk_cell hbox 0).trans rfl; have hc1 : w4.cell? ⟨gb, 1, none⟩ = some (.slice An nt.length cn) := (blk_cell hbox 1).trans rfl; have HB4 := ak hb; clear hb hg hbox)
  | (go_at_call 68; (with_reducible refine (told_none _ _ u _ _ nt _ ?s1 ?s2 ?s3 ?s4 HL.out).mono ?_); (case s1 => repeat (first | exact (Kd.C_below HU.out HB4.out) | (with_reducible refine Kd.C_alloc ?_ _) | (with_reducible refine Kd.C_drewN ?_ _) | (with_reducible refine Kd.C_drew ?_))); (case s2 => exact HC.out); (case s3 => repeat (first | exact (Kd.C_below HN.out HB4.out) | (with_reducible refine Kd.C_alloc ?_ _) | (with_reducible refine Kd.C_drewN ?_ _) | (with_reducible refine Kd.C_drew ?_))); (case s4 => exact HCN.out); rintro e w5 ⟨rfl, hD⟩; have HB5 := ak (below_step HB4.out hD); clear hD))
 go_ret
 exact ⟨(by unfold keepsF; rw [dF_ (fun q => HL.out q.1)]; rfl), (by repeat (first | exact HB5.out | (with_reducible first | apply below_alloc | apply pw_below_drewN | apply below_drew1)))⟩
end Go.Proofs.Ytacifhahfamipaa.P

