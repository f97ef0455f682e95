/- 3 texts of this seat joined: walks, and the laws of what they compute. -/
import Derived.Test.YtacifhahfamipaaPk2
import Derived.Test.YtacifhahfamipaaPk6
import Derived.Test.YtacifhahfamipaaPk5
namespace Go.Proofs.Ytacifhahfamipaa.P
open Go.RowKit Go.Proofs.YtacifhahfamipaaW.PrintWords Go.Proofs.YtacifhahfamipaaW.PrintLast Go.Proofs.YtacifhahfamipaaW.PrintMore Go.Proofs.Cl
set_option linter.unusedVariables false
set_option linter.unusedSimpArgs false
theorem break_reads {w : World} {g : Nat} {u : List (List Int)} {nt : List Int} {no yes : Int} (h : AlgAt w g u (mtab u) (jtab u) nt no yes) (hl : OL u nt) {a b : Int} (ha : 0 ≤ a ∧ a < u.length) (hb : 0 ≤ b ∧ b < u.length) :
 ∃ (v y z : Int) (ad ar am an2 an : Addr) (bu ba bn c1 c3 : Nat), rdN u a.toNat b.toNat = v ∧ mt u b (rd nt a) = z ∧ (0 ≤ y ∧ y < (u.length : Int)) ∧
  w.cell? ⟨g, 0, none⟩ = some (.slice (some ad) u.length bu) ∧ w.cell? (ad.add a.toNat) = some (.slice (some ar) u.length c1) ∧ w.cell? (ar.add b.toNat) = some (.int .i64 v) ∧
  w.cell? ⟨g, 1, none⟩ = some (.slice (some am) u.length ba) ∧ w.cell? (am.add b.toNat) = some (.slice (some an2) u.length c3) ∧
  w.cell? ⟨g, 3, none⟩ = some (.slice (some an) u.length bn) ∧ w.cell? (an.add a.toNat) = some (.int .i64 y) ∧ w.cell? (an2.add y.toNat) = some (.int .i64 z) ∧ w.cell? ⟨g, 4, none⟩ = some (.int .i64 no) := by
 obtain ⟨Bu, bu, Ba, ba, Bo, be, Bn, bn, h0, h1, h2, h3, h4, h5, h6, h7, h8⟩ := h
 have hy := ng_in hl ha
 have hlm : (mtab u).length = u.length := by simp [mtab]
 rw [hlm, hl.2.1] at h0
 obtain ⟨ad, A0, c1, e1, k1, k2, k3⟩ := at_L1 h1 a ha.1 ha.2
 have hr : (rd_L1 u a).length = u.length := by obtain ⟨n, rfl, hn⟩ := Q.nat_of ha; rw [Q.row_nat]; exact hl.1.1.row hn
 rw [hr] at k1 k3
 obtain ⟨ar, e2, k4⟩ := Kd.at_int k3 b hb.1 hb.2
 obtain ⟨am, an2, c3, e4, k7, k8⟩ := tab_row (f := meetI u) rfl h3 hb
 obtain ⟨an, e5, k9⟩ := Kd.at_int h7 a ha.1 (by rw [hl.2.1]; exact ha.2)
 subst e1
 subst e2
 subst e4
 subst e5
 have hv : rdN u a.toNat b.toNat = rd (rd_L1 u a) b := by
  obtain ⟨n, rfl, hn⟩ := Q.nat_of ha
  obtain ⟨m, rfl, hm⟩ := Q.nat_of hb
  rw [Int.toNat_natCast, Int.toNat_natCast, Q.at_nat]
 exact ⟨_, _, _, ad, ar, am, an2, an, bu, ba, bn, c1, c3, hv, rfl, hy, (blk_cell h0 0).trans rfl, k1, k4, (blk_cell h0 1).trans rfl, k7, (blk_cell h0 3).trans rfl, k9, k8 _ hy, (blk_cell h0 4).trans rfl⟩
theorem z24_0 {p : Prop} (h : p := by repeat (first | (with_reducible first | exact HB5.out | apply below_alloc | apply pw_below_drewN | apply below_drew1) | exact HB5.out)) : p := h
set_option maxHeartbeats 4000000 in
set_option maxRecDepth 100000 in
theorem breakOf_core (Au : Option Addr) (cu : Nat) (u : List (List Int)) (An : Option Addr) (cn : Nat) (nt : List Int) (w : World)
 (hu : Kd.C (Kd.slice 3 (Kd.int .i64)) w Au u.length u) (hcu : u.length ≤ cu) (hn : Kd.C (Kd.int .i64) w An nt.length nt) (hcn : nt.length ≤ cn) :
 Calls Try.prog 28 #[.agg #[.slice Au u.length cu, .slice An nt.length cn]] w fun e w' => e = .returned (.tuple #[.int .i64 (breakF u nt).1, .int .i64 (breakF u nt).2.1, .bool (breakF u nt).2.2]) ∧ Below w.heap.size w w' := by
 have hul := Try.underlying27
 have HU := ak hu
 have HC := ak hcu
 have HN := ak hn
 have HCN := ak hcn
 clear hu hcu hn hcn
 by_cases hl : OL u nt
 ·
  have HL := ak hl
  have h12 := hl.1.1.le12
  clear hl
  go_enter Try.func28, Try.ntmps28
  go_wp2_with (first
   | ((with_reducible refine gate_dst (N := 1) rfl ?_); refine bx_ (N := 1) (cs := #[.slice Au u.length cu, .slice An nt.length cn]) (t := 27) ?_; intro gb hg w4 hbox hb; have hc0 : w4.cell? ⟨gb, 0, none⟩ = some (.slice Au u.length cu) := (blk_cell hbox 0).trans rfl; have hc1 : w4.cell? ⟨gb, 1, none⟩ = some (.slice An nt.length cn) := (blk_cell hbox 1).trans rfl; have HB4 := ak hb; clear hb hg hbox)
   | (go_at_call 68; (with_reducible refine (told_some _ _ u _ _ nt _ ?s1 ?s2 ?s3 ?s4 HL.out).mono ?_); (case s1 => repeat (first | exact (Kd.C_below HU.out HB4.out) | (with_reducible refine Kd.C_alloc ?_ _) | (with_reducible refine Kd.C_drewN ?_ _) | (with_reducible refine Kd.C_drew ?_))); (case s2 => exact HC.out); (case s3 => repeat (first | exact (Kd.C_below HN.out HB4.out) | (with_reducible refine Kd.C_alloc ?_ _) | (with_reducible refine Kd.C_drewN ?_ _) | (with_reducible refine Kd.C_drew ?_))); (case s4 => exact HCN.out); rintro e w5 ⟨g, rfl, hge, hAl, hD⟩; have HB5 := ak (below_step HB4.out hD); have HA := ak hAl; clear hD hge hAl; obtain ⟨Bu, bu, _, _, _, _, _, _, hz, _⟩ := HA.out; have hq := (blk_cell hz 0).trans rfl; clear hz))
  go_loopw [17] (fun a0 wr => ∃ i : Nat, i ≤ u.length ∧ a0 = .int .i64 i ∧ Aside0 (∀ a, a < i → ∀ b, b < u.length → brkB u nt a b = false) ∧ Aside0 (AlgAt wr g u (mtab u) (jtab u) nt (leastI u) (rd nt (leastI u))) ∧ Aside0 (Below w.heap.size w wr)) (fun a0 _ => u.length - (intOf a0).toNat)
  case atStart => exact ⟨0, Nat.zero_le _, rfl, ⟨fun a ha => absurd ha (Nat.not_lt_zero _)⟩, HA, ⟨z24_0⟩⟩
  case round =>
   clear hq HA HB5
   obtain ⟨i, hi, rfl, HI, HW, HB⟩ := hrel
   by_cases hlt : i < u.length
   ·
    obtain ⟨Bu, bu, _, _, _, _, _, _, hz, _⟩ := HW.out
    have hq := (blk_cell hz 0).trans rfl
    clear hz
    go_wp2
    go_loopw [25] (fun a1 wr => ∃ j : Nat, j ≤ u.length ∧ a1 = .int .i64 j ∧ Aside0 (∀ b, b < j → brkB u nt i b = false) ∧ Aside0 (AlgAt wr g u (mtab u) (jtab u) nt (leastI u) (rd nt (leastI u))) ∧ Aside0 (Below w.heap.size w wr)) (fun a1 _ => u.length - (intOf a1).toNat)
    case atStart => exact ⟨0, Nat.zero_le _, rfl, ⟨fun a ha => absurd ha (Nat.not_lt_zero _)⟩, HW, HB⟩
    case round =>
     clear hq HW HB
     obtain ⟨j, hj, rfl, HJ, HW, HB⟩ := hrel
     by_cases hjt : j < u.length
     ·
      obtain ⟨v, y, z, ad, ar, am, an2, an, bu2, ba, bn, c1, c3, ev, ez, ⟨hy0, hy1⟩, f0, f1, f2, f3, f4, f5, f6, f7, f8⟩ := break_reads HW.out HL.out (a := (i : Int)) (b := (j : Int)) ⟨(by omega), (by omega)⟩ ⟨(by omega), (by omega)⟩
      simp only [Int.toNat_natCast] at ev f1 f2 f4 f6
      have hi0 : (0 : Int) ≤ i := by omega
      have hj0 : (0 : Int) ≤ j := by omega
      have hi1 : (i : Int) < (u.length : Int) := by omega
      have hj1 : (j : Int) < (u.length : Int) := by omega
      by_cases hij : i = j
      ·
       have HNO : Aside0 (brkB u nt i j = false) := ⟨dF_ (fun q => q.1 hij)⟩
       have hn1 : ((i : Int) != (j : Int)) = false := by simp [hij]
       have hn2 : ((i : Int) == (j : Int)) = true := by simp [hij]
       clear f1 f2 f3 f4 f5 f6 f7 f8 hy0 hy1 ev ez hij
       go_wp2
       refine start_ (n := 39) (S := fun w' => w'.cell? ⟨g, 0, none⟩ = some (.slice (some ad) u.length bu2)) (ds := []) (bA 39 0) (by kernel_rfl) rfl rfl f0 (fun hHeld => ?_)
       have GW := ak (HW.out.below (below_drew (Below.refl _ _)))
       have GB := ak (below_drew1 HB.out)
       clear HW HB f0
       generalize wr.drew = wd at GW GB hHeld ⊢
       refine pu_ (i := 0) (N := some 28) (bA 39 1) ?_
       refine pu_ (i := 1) (N := some 29) (bA 39 3) ?_
       refine pu_ (i := 2) (N := some 30) (bA 39 7) ?_
       refine pu_ (i := 3) (N := some 31) (bA 39 15) ?_
       refine of_ (i := 4) (N := some 32) (bA 39 31) ?_
       refine of_ (i := 5) (N := some 33) (bA 39 63) ?_
       refine of_ (i := 6) (N := some 34) (bA 39 127) ?_
       refine of_ (i := 7) (N := some 35) (bA 39 255) ?_
       refine of_ (i := 8) (N := some 36) (bA 39 511) ?_
       refine of_ (i := 9) (N := some 37) (bA 39 1023) ?_
       refine of_ (i := 10) (N := some 38) (bA 39 2047) ?_
       refine of_ (i := 11) (N := some 39) (bA 39 4095) ?_
       refine of_ (i := 12) (N := some 40) (bA 39 8191) ?_
       refine of_ (i := 13) (N := some 41) (bA 39 16383) ?_
       refine of_ (i := 14) (N := some 42) (bA 39 32767) ?_
       refine pu_ (i := 15) (N := some 43) (bA 39 65535) ?_
       refine pu_ (i := 16) (N := some 44) (bA 39 131071) ?_
       refine of_ (i := 17) (N := some 45) (bA 39 262143) ?_
       refine of_ (i := 18) (N := some 46) (bA 39 524287) ?_
       refine of_ (i := 19) (N := some 47) (bA 39 1048575) ?_
       refine of_ (i := 20) (N := some 48) (bA 39 2097151) ?_
       refine of_ (i := 21) (N := some 49) (bA 39 4194303) ?_
       refine of_ (i := 22) (N := some 50) (bA 39 8388607) ?_
       refine of_ (i := 23) (N := some 51) (bA 39 16777215) ?_
       refine of_ (i := 24) (N := some 52) (bA 39 33554431) ?_
       refine of_ (i := 25) (N := some 53) (bA 39 67108863) ?_
       refine of_ (i := 26) (N := some 54) (bA 39 134217727) ?_
       refine of_ (i := 27) (N := some 55) (bA 39 268435455) ?_
       refine of_ (i := 28) (N := some 56) (bA 39 536870911) ?_
       refine of_ (i := 29) (N := some 57) (bA 39 1073741823) ?_
       refine of_ (i := 30) (N := some 58) (bA 39 2147483647) ?_
       refine of_ (i := 31) (N := some 59) (bA 39 4294967295) ?_
       refine of_ (i := 32) (N := some 60) (bA 39 8589934591) ?_
       refine of_ (i := 33) (N := some 61) (bA 39 17179869183) ?_
       refine of_ (i := 34) (N := some 62) (bA 39 34359738367) ?_
       refine of_ (i := 35) (N := some 63) (bA 39 68719476735) ?_
       refine of_ (i := 36) (N := some 64) (bA 39 137438953471) ?_
       refine of_ (i := 37) (N := some 65) (bA 39 274877906943) ?_
       refine pu_ (i := 38) (N := some 66) (bA 39 549755813887) ?_
       refine done_ (by kernel_rfl) ?_
       go_wp2
       go_roundw
       case rel => exact ⟨j + 1, (by omega), (by go_num), ⟨fun b hb => if q : b < j then HJ.out b q else (show b = j by omega) ▸ HNO.out⟩, GW, GB⟩
       case measure => simp [intOf]; omega
      have hn1 : ((i : Int) != (j : Int)) = true := by simp; omega
      have hn2 : ((i : Int) == (j : Int)) = false := by simp; omega
      by_cases hv : v = 1
      ·
       have hv1 := bt_ hv
       by_cases hz : z = leastI u
       ·
        have HYES : Aside0 (brkB u nt i j = true) := ⟨dT_ ⟨hij, (by rw [ev]; exact hv), (by rw [← hz, ← ez])⟩⟩
        have hz1 := bt_ hz
        clear ev ez hij hv hz
        go_wp2
        refine start_ (n := 39) (S := fun w' => w'.cell? ⟨g, 0, none⟩ = some (.slice (some ad) u.length bu2) ∧ w'.cell? (ad.add i) = some (.slice (some ar) u.length c1) ∧ w'.cell? (ar.add j) = some (.int .i64 v) ∧ w'.cell? ⟨g, 1, none⟩ = some (.slice (some am) u.length ba) ∧ w'.cell? (am.add j) = some (.slice (some an2) u.length c3) ∧ w'.cell? ⟨g, 3, none⟩ = some (.slice (some an) u.length bn) ∧ w'.cell? (an.add i) = some (.int .i64 y) ∧ w'.cell? (an2.add y.toNat) = some (.int .i64 z) ∧ w'.cell? ⟨g, 4, none⟩ = some (.int .i64 (leastI u))) (ds := []) (bA 39 0) (by kernel_rfl) rfl rfl ⟨f0, f1, f2, f3, f4, f5, f6, f7, f8⟩ (fun hHeld => ?_)
        have GW := ak (HW.out.below (below_drew (Below.refl _ _)))
        have GB := ak (below_drew1 HB.out)
        clear HW HB f0 f1 f2 f3 f4 f5 f6 f7 f8
        generalize wr.drew = wd at GW GB hHeld ⊢
        refine pu_ (i := 0) (N := some 28) (bA 39 1) ?_
        refine pu_ (i := 1) (N := some 29) (bA 39 3) ?_
        refine pu_ (i := 2) (N := some 30) (bA 39 7) ?_
        refine pu_ (i := 3) (N := some 31) (bA 39 15) ?_
        refine pu_ (i := 4) (N := some 32) (bA 39 31) ?_
        refine pu_ (i := 5) (N := some 33) (bA 39 63) ?_
        refine pu_ (i := 6) (N := some 34) (bA 39 127) ?_
        refine tk_ (i := 7) (N := some 35) (bA 39 255) ?_
        refine pu_ (i := 8) (N := some 36) (bA 39 511) ?_
        refine pu_ (i := 9) (N := some 37) (bA 39 1023) ?_
        refine tk_ (i := 10) (N := some 38) (bA 39 2047) ?_
        refine pu_ (i := 11) (N := some 39) (bA 39 4095) ?_
        refine pu_ (i := 12) (N := some 40) (bA 39 8191) ?_
        refine tk_ (i := 13) (N := some 41) (bA 39 16383) ?_
        refine pu_ (i := 14) (N := some 42) (bA 39 32767) ?_
        refine pu_ (i := 15) (N := some 43) (bA 39 65535) ?_
        refine pu_ (i := 16) (N := some 44) (bA 39 131071) ?_
        refine pu_ (i := 17) (N := some 45) (bA 39 262143) ?_
        refine pu_ (i := 18) (N := some 46) (bA 39 524287) ?_
        refine pu_ (i := 19) (N := some 47) (bA 39 1048575) ?_
        refine tk_ (i := 20) (N := some 48) (bA 39 2097151) ?_
        refine pu_ (i := 21) (N := some 49) (bA 39 4194303) ?_
        refine pu_ (i := 22) (N := some 50) (bA 39 8388607) ?_
        refine tk_ (i := 23) (N := some 51) (bA 39 16777215) ?_
        refine pu_ (i := 24) (N := some 52) (bA 39 33554431) ?_
        refine pu_ (i := 25) (N := some 53) (bA 39 67108863) ?_
        refine pu_ (i := 26) (N := some 54) (bA 39 134217727) ?_
        refine tk_ (i := 27) (N := some 55) (bA 39 268435455) ?_
        refine pu_ (i := 28) (N := some 56) (bA 39 536870911) ?_
        refine pu_ (i := 29) (N := some 57) (bA 39 1073741823) ?_
        refine tk_ (i := 30) (N := some 58) (bA 39 2147483647) ?_
        refine pu_ (i := 31) (N := some 59) (bA 39 4294967295) ?_
        refine tk_ (i := 32) (N := some 60) (bA 39 8589934591) ?_
        refine pu_ (i := 33) (N := some 61) (bA 39 17179869183) ?_
        refine pu_ (i := 34) (N := some 62) (bA 39 34359738367) ?_
        refine pu_ (i := 35) (N := some 63) (bA 39 68719476735) ?_
        refine tk_ (i := 36) (N := some 64) (bA 39 137438953471) ?_
        refine pu_ (i := 37) (N := some 65) (bA 39 274877906943) ?_
        refine pu_ (i := 38) (N := some 66) (bA 39 549755813887) ?_
        refine done_ (by kernel_rfl) ?_
        go_wp2
        refine bodyPost_ret (results_tmp3 rfl _ _ _) rfl ?_
        exact ⟨(by rw [break_hit HL.out hlt hjt HI.out HJ.out HYES.out]; rfl), GB.out⟩
       have HNO : Aside0 (brkB u nt i j = false) := ⟨dF_ (fun q => hz (by rw [← ez]; exact q.2.2))⟩
       have hz1 := bv_ hz
       clear ev ez hij hv hz
       go_wp2
       refine start_ (n := 39) (S := fun w' => w'.cell? ⟨g, 0, none⟩ = some (.slice (some ad) u.length bu2) ∧ w'.cell? (ad.add i) = some (.slice (some ar) u.length c1) ∧ w'.cell? (ar.add j) = some (.int .i64 v) ∧ w'.cell? ⟨g, 1, none⟩ = some (.slice (some am) u.length ba) ∧ w'.cell? (am.add j) = some (.slice (some an2) u.length c3) ∧ w'.cell? ⟨g, 3, none⟩ = some (.slice (some an) u.length bn) ∧ w'.cell? (an.add i) = some (.int .i64 y) ∧ w'.cell? (an2.add y.toNat) = some (.int .i64 z) ∧ w'.cell? ⟨g, 4, none⟩ = some (.int .i64 (leastI u))) (ds := []) (bA 39 0) (by kernel_rfl) rfl rfl ⟨f0, f1, f2, f3, f4, f5, f6, f7, f8⟩ (fun hHeld => ?_)
       have GW := ak (HW.out.below (below_drew (Below.refl _ _)))
       have GB := ak (below_drew1 HB.out)
       clear HW HB f0 f1 f2 f3 f4 f5 f6 f7 f8
       generalize wr.drew = wd at GW GB hHeld ⊢
       refine pu_ (i := 0) (N := some 28) (bA 39 1) ?_
       refine pu_ (i := 1) (N := some 29) (bA 39 3) ?_
       refine pu_ (i := 2) (N := some 30) (bA 39 7) ?_
       refine pu_ (i := 3) (N := some 31) (bA 39 15) ?_
       refine pu_ (i := 4) (N := some 32) (bA 39 31) ?_
       refine pu_ (i := 5) (N := some 33) (bA 39 63) ?_
       refine pu_ (i := 6) (N := some 34) (bA 39 127) ?_
       refine tk_ (i := 7) (N := some 35) (bA 39 255) ?_
       refine pu_ (i := 8) (N := some 36) (bA 39 511) ?_
       refine pu_ (i := 9) (N := some 37) (bA 39 1023) ?_
       refine tk_ (i := 10) (N := some 38) (bA 39 2047) ?_
       refine pu_ (i := 11) (N := some 39) (bA 39 4095) ?_
       refine pu_ (i := 12) (N := some 40) (bA 39 8191) ?_
       refine tk_ (i := 13) (N := some 41) (bA 39 16383) ?_
       refine pu_ (i := 14) (N := some 42) (bA 39 32767) ?_
       refine pu_ (i := 15) (N := some 43) (bA 39 65535) ?_
       refine pu_ (i := 16) (N := some 44) (bA 39 131071) ?_
       refine pu_ (i := 17) (N := some 45) (bA 39 262143) ?_
       refine pu_ (i := 18) (N := some 46) (bA 39 524287) ?_
       refine pu_ (i := 19) (N := some 47) (bA 39 1048575) ?_
       refine tk_ (i := 20) (N := some 48) (bA 39 2097151) ?_
       refine pu_ (i := 21) (N := some 49) (bA 39 4194303) ?_
       refine pu_ (i := 22) (N := some 50) (bA 39 8388607) ?_
       refine tk_ (i := 23) (N := some 51) (bA 39 16777215) ?_
       refine pu_ (i := 24) (N := some 52) (bA 39 33554431) ?_
       refine pu_ (i := 25) (N := some 53) (bA 39 67108863) ?_
       refine pu_ (i := 26) (N := some 54) (bA 39 134217727) ?_
       refine tk_ (i := 27) (N := some 55) (bA 39 268435455) ?_
       refine pu_ (i := 28) (N := some 56) (bA 39 536870911) ?_
       refine pu_ (i := 29) (N := some 57) (bA 39 1073741823) ?_
       refine tk_ (i := 30) (N := some 58) (bA 39 2147483647) ?_
       refine pu_ (i := 31) (N := some 59) (bA 39 4294967295) ?_
       refine tk_ (i := 32) (N := some 60) (bA 39 8589934591) ?_
       refine pu_ (i := 33) (N := some 61) (bA 39 17179869183) ?_
       refine pu_ (i := 34) (N := some 62) (bA 39 34359738367) ?_
       refine pu_ (i := 35) (N := some 63) (bA 39 68719476735) ?_
       refine tk_ (i := 36) (N := some 64) (bA 39 137438953471) ?_
       refine pu_ (i := 37) (N := some 65) (bA 39 274877906943) ?_
       refine pu_ (i := 38) (N := some 66) (bA 39 549755813887) ?_
       refine done_ (by kernel_rfl) ?_
       go_wp2
       go_roundw
       case rel => exact ⟨j + 1, (by omega), (by go_num), ⟨fun b hb => if q : b < j then HJ.out b q else (show b = j by omega) ▸ HNO.out⟩, GW, GB⟩
       case measure => simp [intOf]; omega
      have HNO : Aside0 (brkB u nt i j = false) := ⟨dF_ (fun q => hv (by rw [← ev]; exact q.2.1))⟩
      have hv1 := bv_ hv
      clear f3 f4 f5 f6 f7 f8 hy0 hy1 ev ez hij hv
      go_wp2
      refine start_ (n := 39) (S := fun w' => w'.cell? ⟨g, 0, none⟩ = some (.slice (some ad) u.length bu2) ∧ w'.cell? (ad.add i) = some (.slice (some ar) u.length c1) ∧ w'.cell? (ar.add j) = some (.int .i64 v)) (ds := []) (bA 39 0) (by kernel_rfl) rfl rfl ⟨f0, f1, f2⟩ (fun hHeld => ?_)
      have GW := ak (HW.out.below (below_drew (Below.refl _ _)))
      have GB := ak (below_drew1 HB.out)
      clear HW HB f0 f1 f2
      generalize wr.drew = wd at GW GB hHeld ⊢
      refine pu_ (i := 0) (N := some 28) (bA 39 1) ?_
      refine pu_ (i := 1) (N := some 29) (bA 39 3) ?_
      refine pu_ (i := 2) (N := some 30) (bA 39 7) ?_
      refine pu_ (i := 3) (N := some 31) (bA 39 15) ?_
      refine pu_ (i := 4) (N := some 32) (bA 39 31) ?_
      refine pu_ (i := 5) (N := some 33) (bA 39 63) ?_
      refine pu_ (i := 6) (N := some 34) (bA 39 127) ?_
      refine tk_ (i := 7) (N := some 35) (bA 39 255) ?_
      refine pu_ (i := 8) (N := some 36) (bA 39 511) ?_
      refine pu_ (i := 9) (N := some 37) (bA 39 1023) ?_
      refine tk_ (i := 10) (N := some 38) (bA 39 2047) ?_
      refine pu_ (i := 11) (N := some 39) (bA 39 4095) ?_
      refine pu_ (i := 12) (N := some 40) (bA 39 8191) ?_
      refine tk_ (i := 13) (N := some 41) (bA 39 16383) ?_
      refine pu_ (i := 14) (N := some 42) (bA 39 32767) ?_
      refine pu_ (i := 15) (N := some 43) (bA 39 65535) ?_
      refine pu_ (i := 16) (N := some 44) (bA 39 131071) ?_
      refine of_ (i := 17) (N := some 45) (bA 39 262143) ?_
      refine of_ (i := 18) (N := some 46) (bA 39 524287) ?_
      refine of_ (i := 19) (N := some 47) (bA 39 1048575) ?_
      refine of_ (i := 20) (N := some 48) (bA 39 2097151) ?_
      refine of_ (i := 21) (N := some 49) (bA 39 4194303) ?_
      refine of_ (i := 22) (N := some 50) (bA 39 8388607) ?_
      refine of_ (i := 23) (N := some 51) (bA 39 16777215) ?_
      refine of_ (i := 24) (N := some 52) (bA 39 33554431) ?_
      refine of_ (i := 25) (N := some 53) (bA 39 67108863) ?_
      refine of_ (i := 26) (N := some 54) (bA 39 134217727) ?_
      refine of_ (i := 27) (N := some 55) (bA 39 268435455) ?_
      refine of_ (i := 28) (N := some 56) (bA 39 536870911) ?_
      refine of_ (i := 29) (N := some 57) (bA 39 1073741823) ?_
      refine of_ (i := 30) (N := some 58) (bA 39 2147483647) ?_
      refine of_ (i := 31) (N := some 59) (bA 39 4294967295) ?_
      refine of_ (i := 32) (N := some 60) (bA 39 8589934591) ?_
      refine of_ (i := 33) (N := some 61) (bA 39 17179869183) ?_
      refine of_ (i := 34) (N := some 62) (bA 39 34359738367) ?_
      refine of_ (i := 35) (N := some 63) (bA 39 68719476735) ?_
      refine of_ (i := 36) (N := some 64) (bA 39 137438953471) ?_
      refine of_ (i := 37) (N := some 65) (bA 39 274877906943) ?_
      refine pu_ (i := 38) (N := some 66) (bA 39 549755813887) ?_
      refine done_ (by kernel_rfl) ?_
      go_wp2
      go_roundw
      case rel => exact ⟨j + 1, (by omega), (by go_num), ⟨fun b hb => if q : b < j then HJ.out b q else (show b = j by omega) ▸ HNO.out⟩, GW, GB⟩
      case measure => simp [intOf]; omega
     have ej : j = u.length := by omega
     have a2 : Aside0 (∀ b, b < u.length → brkB u nt i b = false) := ⟨(by rw [← ej]; exact HJ.out)⟩
     clear ej HJ
     go_wp2
     go_roundw
     case rel => exact ⟨i + 1, (by omega), (by go_num), ⟨fun a ha => if q : a < i then HI.out a q else (show a = i by omega) ▸ a2.out⟩, HW, HB⟩
     case measure => simp [intOf]; omega
   have ei : i = u.length := by omega
   have HN : Aside0 (breakF u nt = (-1, -1, false)) := ⟨break_none (fun a ha => HI.out a (by omega))⟩
   clear ei
   go_wp2
   refine bodyPost_ret (results_tmp3 rfl _ _ _) rfl ?_
   exact ⟨(by rw [HN.out]; rfl), HB.out⟩
 have HL := ak hl
 clear hl
 go_enter Try.func28, Try.ntmps28
 go_wp2_with (first
  | ((with_reducible refine gate_dst (N := 1) rfl ?_); refine bx_ (N := 1) (cs := #[.slice Au u.length cu, .slice An nt.length cn]) (t := 27) ?_; intro gb hg w4 hbox hb; have hc0 : w4.cell? ⟨gb, 0, none⟩ = some (.slice Au u.length cu) := (blk_cell hbox 0).trans rfl; have hc1 : w4.cell? ⟨gb, 1, none⟩ = some (.slice An nt.length cn) := (blk_cell hbox 1).trans rfl; have HB4 := ak hb; clear hb hg hbox)
  | (go_at_call 68; (with_reducible refine (told_none _ _ u _ _ nt _ ?s1 ?s2 ?s3 ?s4 HL.out).mono ?_); (case s1 => repeat (first | exact (Kd.C_below HU.out HB4.out) | (with_reducible refine Kd.C_alloc ?_ _) | (with_reducible refine Kd.C_drewN ?_ _) | (with_reducible refine Kd.C_drew ?_))); (case s2 => exact HC.out); (case s3 => repeat (first | exact (Kd.C_below HN.out HB4.out) | (with_reducible refine Kd.C_alloc ?_ _) | (with_reducible refine Kd.C_drewN ?_ _) | (with_reducible refine Kd.C_drew ?_))); (case s4 => exact HCN.out); rintro e w5 ⟨rfl, hD⟩; have HB5 := ak (below_step HB4.out hD); clear hD))
 refine bodyPost_ret (results_tmp3 rfl _ _ _) rfl ?_
 exact ⟨(by rw [break_not HL.out]; rfl), z24_0⟩
theorem impl_BreakOf.calls (A0_0 : Option Addr) (c0_0 : Nat) (l0_0 : List (List Int)) (A0_1 : Option Addr) (c0_1 : Nat) (l0_1 : List Int) (r1 : Int) (r2 : Int) (r3 : Bool) (w : World) (hr0_0 : Kd.C (Kd.slice 3 (Kd.int .i64)) w A0_0 l0_0.length l0_0) (hc0_0 : l0_0.length ≤ c0_0) (hr0_1 : Kd.C (Kd.int .i64) w A0_1 l0_1.length l0_1) (hc0_1 : l0_1.length ≤ c0_1) (h : impl_BreakOf.f l0_0 l0_1 = some (r1, r2, r3)) :
    Calls Try.prog 28 #[.agg #[.slice A0_0 l0_0.length c0_0, .slice A0_1 l0_1.length c0_1]] w fun e w' => e = .returned (.tuple #[.int .i64 r1, .int .i64 r2, .bool r3]) ∧ Below w.heap.size w w' := by
  have e := Option.some.inj h
  have q := breakOf_core A0_0 c0_0 l0_0 A0_1 c0_1 l0_1 w hr0_0 hc0_0 hr0_1 hc0_1
  rw [e] at q
  exact q
theorem impl_MadeBy.calls (A0_0 : Option Addr) (c0_0 : Nat) (l0_0 : List (List Int)) (A0_1 : Option Addr) (c0_1 : Nat) (l0_1 : List Int) (a1 : Int) (r : Int) (w : World) (hr0_0 : Kd.C (Kd.slice 3 (Kd.int .i64)) w A0_0 l0_0.length l0_0) (hc0_0 : l0_0.length ≤ c0_0) (hr0_1 : Kd.C (Kd.int .i64) w A0_1 l0_1.length l0_1) (hc0_1 : l0_1.length ≤ c0_1) (h : impl_MadeBy.f l0_0 l0_1 a1 = some r) :
    Calls Try.prog 32 #[.agg #[.slice A0_0 l0_0.length c0_0, .slice A0_1 l0_1.length c0_1], .int .i64 a1] w fun e w' => e = .returned (.int .i64 r) ∧ Below w.heap.size w w' := by
  have e := Option.some.inj h
  subst e
  exact madeBy_core A0_0 c0_0 l0_0 A0_1 c0_1 l0_1 a1 w hr0_0 hc0_0 hr0_1 hc0_1
end Go.Proofs.Ytacifhahfamipaa.P
