import Derived.Test.YtjgfpiilfnchnaaPk2
import Derived.Test.YtjgfpiilfnchnaaU2
namespace Go.Proofs.Ytjgfpiilfnchnaa.P
open Go.RowKit Go.Proofs.YtjgfpiilfnchnaaW.PrintWords Go.Proofs.YtjgfpiilfnchnaaW.PrintLast Go.Proofs.YtjgfpiilfnchnaaW.PrintMore Go.Proofs.Cl
set_option linter.unusedVariables false
set_option linter.unusedSimpArgs false
theorem two_reads {W : World} {B t : Nat} {a b : Int} (hB : W.heap[B]? = some (.cells #[.int .i64 a, .int .i64 b] t (0, 0))) : Kd.C (Kd.int .i64) W (some ⟨B, 0, none⟩) ([a, b] : List Int).length [a, b] := by
 refine Kd.C_of_reads (d := (0 : Int)) ⟨rfl, (by simp), fun _ => ⟨⟨B, 0, none⟩, rfl, fun j hj => ?_⟩⟩
 have k := World.news_of_block (cs := #[.int .i64 a, .int .i64 b]) hB j
 match j, hj with
 | 0, _ => exact k _ rfl
 | 1, _ => exact k _ rfl
theorem apart_reads {w : World} {g : Nat} {u : List (List Int)} {nt : List Int} {no yes : Int} (h : AlgAt w g u (mtab u) (jtab u) nt no yes) (hl : OL u nt) {a b : Int} (ha : 0 ≤ a ∧ a < u.length) (hb : 0 ≤ b ∧ b < u.length) :
 ∃ (y v : Int) (ad an ar : Addr) (bu bn c1 : Nat), (apartF u nt a b = (v == 1)) ∧ (0 ≤ y ∧ y < (u.length : Int)) ∧ w.cell? ⟨g, 0, none⟩ = some (.slice (some ad) u.length bu) ∧ w.cell? ⟨g, 3, none⟩ = some (.slice (some an) u.length bn) ∧
  w.cell? (ad.add a.toNat) = some (.slice (some ar) u.length c1) ∧ w.cell? (an.add b.toNat) = some (.int .i64 y) ∧ w.cell? (ar.add y.toNat) = some (.int .i64 v) := by
 obtain ⟨Bu, bu, Ba, ba, Bo, bo, Bn, bn, h0, h1, h2, h3, h4, h5, h6, h7, h8⟩ := h
 have hy := ng_in hl hb
 rw [hl.2.1] at h0
 obtain ⟨ad, A0, c1, e1, k1, k2, k3⟩ := at_L1 h1 a ha.1 ha.2
 have hr : (rd_L1 u a).length = u.length := by obtain ⟨n, rfl, hn⟩ := Q.nat_of ha; rw [Q.row_nat]; exact hl.1.1.row hn
 rw [hr] at k1 k3
 obtain ⟨ar, e2, k4⟩ := Kd.at_int k3 (rd nt b) hy.1 hy.2
 obtain ⟨an, e3, k5⟩ := Kd.at_int h7 b hb.1 (by rw [hl.2.1]; exact hb.2)
 subst e1
 subst e2
 subst e3
 have hk : okAll u.length [a, b] = true := by simp [okAll, ha.1, ha.2, hb.1, hb.2]
 refine ⟨_, _, ad, an, ar, bu, bn, c1, ?_, hy, (blk_cell h0 0).trans rfl, (blk_cell h0 3).trans rfl, k1, k5, k4⟩
 unfold apartF
 rw [Bool.eq_iff_iff, decide_eq_true_iff, beq_iff_eq]
 have hv : rdN u a.toNat (rd nt b).toNat = rd (rd_L1 u a) (rd nt b) := by
  obtain ⟨n, rfl, hn⟩ := Q.nat_of ha
  obtain ⟨m, hm, hm2⟩ := Q.nat_of hy
  rw [hm, Int.toNat_natCast, Int.toNat_natCast, Q.at_nat]
 rw [hv]
 exact ⟨fun q => q.2.2, fun q => ⟨hl, hk, q⟩⟩
theorem z23_0 {p : Prop} (h : p := by repeat (first | exact HB6.out | (with_reducible first | apply below_alloc | apply pw_below_drewN | apply below_drew1))) : p := h
set_option maxHeartbeats 4000000 in
set_option maxRecDepth 100000 in
theorem apartOk_core (Au : Option Addr) (cu : Nat) (u : List (List Int)) (An : Option Addr) (cn : Nat) (nt : List Int) (a : Int) (b : Int) (w : World)
 (hu : Kd.C (Kd.slice 3 (Kd.int .i64)) w Au u.length u) (hcu : u.length ≤ cu) (hn : Kd.C (Kd.int .i64) w An nt.length nt) (hcn : nt.length ≤ cn) :
 Calls Try.prog 36 #[.agg #[.slice Au u.length cu, .slice An nt.length cn], .int .i64 a, .int .i64 b] w fun e w' => e = .returned (.bool (apartF u nt a b)) ∧ Below w.heap.size w w' := by
 have hul := Try.underlying26
 have HU := ak hu
 have HC := ak hcu
 have HN := ak hn
 have HCN := ak hcn
 clear hu hcu hn hcn
 by_cases hl : OL u nt
 ·
  have HL := ak hl
  clear hl
  cases hk : okAll u.length [a, b] with
  | true =>
   have HK := ak hk
   have HOK := ak (okAll_two hk)
   have hok := okAll_two hk
   obtain ⟨⟨ha0, ha1⟩, ⟨hb0, hb1⟩⟩ := hok
   clear hk
   go_enter Try.func36, Try.ntmps36
   go_wp2_with (first
    | ((with_reducible refine gate_dst (N := 3) rfl ?_); refine bx_ (N := 3) (cs := #[.slice Au u.length cu, .slice An nt.length cn]) (t := 26) ?_; intro gb hg w4 hbox hb; have hc0 : w4.cell? ⟨gb, 0, none⟩ = some (.slice Au u.length cu) := (blk_cell hbox 0).trans rfl; have hc1 : w4.cell? ⟨gb, 1, none⟩ = some (.slice An nt.length cn) := (blk_cell hbox 1).trans rfl; have HB4 := ak hb; clear hb hg hbox)
    | (go_at_call 56; (with_reducible refine (told_some _ _ u _ _ nt _ ?s1 ?s2 ?s3 ?s4 HL.out).mono ?_); (case s1 => repeat (first | exact (Kd.C_below HU.out HB4.out) | (with_reducible refine Kd.C_alloc ?_ _) | (with_reducible refine Kd.C_drewN ?_ _) | (with_reducible refine Kd.C_drew ?_))); (case s2 => exact HC.out); (case s3 => repeat (first | exact (Kd.C_below HN.out HB4.out) | (with_reducible refine Kd.C_alloc ?_ _) | (with_reducible refine Kd.C_drewN ?_ _) | (with_reducible refine Kd.C_drew ?_))); (case s4 => exact HCN.out); rintro e w5 ⟨g, rfl, hge, hAl, hD⟩; have HB5 := ak (below_step HB4.out hD); have HA := ak hAl; clear hD hge hAl; obtain ⟨y, v, ad, an, ar, bu, bn, c1, hv, ⟨hy0, hy1⟩, f1, f2, f3, f4, f5⟩ := apart_reads HA.out HL.out HOK.out.1 HOK.out.2; have HV := ak hv; clear hv))
   refine start_ (n := 25) (S := fun w' => w'.cell? ⟨g, 0, none⟩ = some (.slice (some ad) u.length bu) ∧ w'.cell? ⟨g, 3, none⟩ = some (.slice (some an) u.length bn) ∧ w'.cell? (ad.add a.toNat) = some (.slice (some ar) u.length c1) ∧ w'.cell? (an.add b.toNat) = some (.int .i64 y) ∧ w'.cell? (ar.add y.toNat) = some (.int .i64 v)) (ds := []) (bA 25 0) (by kernel_rfl) rfl rfl ⟨f1, f2, f3, f4, f5⟩ (fun hHeld => ?_)
   have HB6 := ak (below_drew HB5.out)
   have a0 := ak (HA.out.below (below_drew (Below.refl _ _)))
   clear HA
   generalize w5.drew = wd at HB6 hHeld ⊢ a0
   refine pu_ (i := 0) (N := some 10) (bA 25 1) ?_
   refine pu_ (i := 1) (N := some 11) (bA 25 3) ?_
   refine pu_ (i := 2) (N := some 12) (bA 25 7) ?_
   refine one_ (i := 3) (N := some 13) (bA 25 15) rfl rfl (by kernel_rfl) (by decide) (fun K hK => ?_)
   refine value_ (w1 := ?_) (v := ?_) (by rfl) rfl ?_ ?_
   rotate_left 2
   ·
    go_simp
    constructor
    ·
     rfl
    rfl
   refine hK.out _ _ ⟨(World.cell?_alloc_lt _ _ _ (World.block_lt_of_cell? _ _ hHeld.1)).trans hHeld.1, (World.cell?_alloc_lt _ _ _ (World.block_lt_of_cell? _ _ hHeld.2.1)).trans hHeld.2.1, (World.cell?_alloc_lt _ _ _ (World.block_lt_of_cell? _ _ hHeld.2.2.1)).trans hHeld.2.2.1, (World.cell?_alloc_lt _ _ _ (World.block_lt_of_cell? _ _ hHeld.2.2.2.1)).trans hHeld.2.2.2.1, (World.cell?_alloc_lt _ _ _ (World.block_lt_of_cell? _ _ hHeld.2.2.2.2)).trans hHeld.2.2.2.2⟩ (fun hHeld => ?_)
   clear hK K
   refine no_ (N := some 13) ?_
   refine one_ (i := 4) (N := some 14) (bA 25 31) rfl rfl (by kernel_rfl) (by decide) (fun K hK => ?_)
   refine ge_ Try.func63 #[.pointer (some ⟨g, 0, none⟩), .slice (some ⟨wd.heap.size, 0, none⟩) 2 2] ?_
   with_reducible refine (knows_n (a0.out.below (below_alloc (Below.refl _ _) _)) _ _ [a, b] _ ?s0 ?s1 ?s2).mono ?_
   (case s0 => rfl)
   (case s1 => exact two_reads (blk_new _ _))
   (case s2 => simp)
   rw [HK.out]
   rintro e w' ⟨rfl, ⟨nd2, rfl⟩⟩
   refine ⟨_, rfl, ?_⟩
   refine hK.out _ _ hHeld (fun hHeld => ?_)
   clear hK K
   refine no_ (N := some 14) ?_
   refine pu_ (i := 5) (N := some 15) (bA 25 63) ?_
   refine pu_ (i := 6) (N := some 16) (bA 25 127) ?_
   refine pu_ (i := 7) (N := some 17) (bA 25 255) ?_
   refine pu_ (i := 8) (N := some 18) (bA 25 511) ?_
   refine tk_ (i := 9) (N := some 19) (bA 25 1023) ?_
   refine pu_ (i := 10) (N := some 20) (bA 25 2047) ?_
   refine pu_ (i := 11) (N := some 21) (bA 25 4095) ?_
   refine tk_ (i := 12) (N := some 22) (bA 25 8191) ?_
   refine pu_ (i := 13) (N := some 23) (bA 25 16383) ?_
   refine pu_ (i := 14) (N := some 24) (bA 25 32767) ?_
   refine pu_ (i := 15) (N := some 25) (bA 25 65535) ?_
   refine tk_ (i := 16) (N := some 26) (bA 25 131071) ?_
   refine pu_ (i := 17) (N := some 27) (bA 25 262143) ?_
   refine pu_ (i := 18) (N := some 28) (bA 25 524287) ?_
   refine tk_ (i := 19) (N := some 29) (bA 25 1048575) ?_
   refine pu_ (i := 20) (N := some 30) (bA 25 2097151) ?_
   refine tk_ (i := 21) (N := some 31) (bA 25 4194303) ?_
   refine pu_ (i := 22) (N := some 32) (bA 25 8388607) ?_
   refine pu_ (i := 23) (N := some 33) (bA 25 16777215) ?_
   refine pu_ (i := 24) (N := some 6) (bA 25 33554431) ?_
   refine done_ (by kernel_rfl) ?_
   try go_wp2
   go_ret
   exact ⟨(by rw [HV.out]; rfl), z23_0⟩
  | false =>
   have HK := ak hk
   clear hk
   go_enter Try.func36, Try.ntmps36
   go_wp2_with (first
    | ((with_reducible refine gate_dst (N := 3) rfl ?_); refine bx_ (N := 3) (cs := #[.slice Au u.length cu, .slice An nt.length cn]) (t := 26) ?_; intro gb hg w4 hbox hb; have hc0 : w4.cell? ⟨gb, 0, none⟩ = some (.slice Au u.length cu) := (blk_cell hbox 0).trans rfl; have hc1 : w4.cell? ⟨gb, 1, none⟩ = some (.slice An nt.length cn) := (blk_cell hbox 1).trans rfl; have HB4 := ak hb; clear hb hg hbox)
    | (go_at_call 56; (with_reducible refine (told_some _ _ u _ _ nt _ ?s1 ?s2 ?s3 ?s4 HL.out).mono ?_); (case s1 => repeat (first | exact (Kd.C_below HU.out HB4.out) | (with_reducible refine Kd.C_alloc ?_ _) | (with_reducible refine Kd.C_drewN ?_ _) | (with_reducible refine Kd.C_drew ?_))); (case s2 => exact HC.out); (case s3 => repeat (first | exact (Kd.C_below HN.out HB4.out) | (with_reducible refine Kd.C_alloc ?_ _) | (with_reducible refine Kd.C_drewN ?_ _) | (with_reducible refine Kd.C_drew ?_))); (case s4 => exact HCN.out); rintro e w5 ⟨g, rfl, hge, hAl, hD⟩; have HB5 := ak (below_step HB4.out hD); have HA := ak hAl; clear hD hge hAl; skip))
   refine start_ (n := 25) (S := fun w' => True) (ds := []) (bA 25 0) (by kernel_rfl) rfl rfl trivial (fun hHeld => ?_)
   have HB6 := ak (below_drew HB5.out)
   have a0 := ak (HA.out.below (below_drew (Below.refl _ _)))
   clear HA
   generalize w5.drew = wd at HB6 hHeld ⊢ a0
   refine pu_ (i := 0) (N := some 10) (bA 25 1) ?_
   refine pu_ (i := 1) (N := some 11) (bA 25 3) ?_
   refine pu_ (i := 2) (N := some 12) (bA 25 7) ?_
   refine one_ (i := 3) (N := some 13) (bA 25 15) rfl rfl (by kernel_rfl) (by decide) (fun K hK => ?_)
   refine value_ (w1 := ?_) (v := ?_) (by rfl) rfl ?_ ?_
   rotate_left 2
   ·
    go_simp
    constructor
    ·
     rfl
    rfl
   refine hK.out _ _ trivial (fun hHeld => ?_)
   clear hK K
   refine no_ (N := some 13) ?_
   refine one_ (i := 4) (N := some 14) (bA 25 31) rfl rfl (by kernel_rfl) (by decide) (fun K hK => ?_)
   refine ge_ Try.func63 #[.pointer (some ⟨g, 0, none⟩), .slice (some ⟨wd.heap.size, 0, none⟩) 2 2] ?_
   with_reducible refine (knows_n (a0.out.below (below_alloc (Below.refl _ _) _)) _ _ [a, b] _ ?s0 ?s1 ?s2).mono ?_
   (case s0 => rfl)
   (case s1 => exact two_reads (blk_new _ _))
   (case s2 => simp)
   rw [HK.out]
   rintro e w' ⟨rfl, ⟨nd2, rfl⟩⟩
   refine ⟨_, rfl, ?_⟩
   refine hK.out _ _ hHeld (fun hHeld => ?_)
   clear hK K
   refine no_ (N := some 14) ?_
   refine pu_ (i := 5) (N := some 15) (bA 25 63) ?_
   refine of_ (i := 6) (N := some 16) (bA 25 127) ?_
   refine of_ (i := 7) (N := some 17) (bA 25 255) ?_
   refine of_ (i := 8) (N := some 18) (bA 25 511) ?_
   refine of_ (i := 9) (N := some 19) (bA 25 1023) ?_
   refine of_ (i := 10) (N := some 20) (bA 25 2047) ?_
   refine of_ (i := 11) (N := some 21) (bA 25 4095) ?_
   refine of_ (i := 12) (N := some 22) (bA 25 8191) ?_
   refine of_ (i := 13) (N := some 23) (bA 25 16383) ?_
   refine of_ (i := 14) (N := some 24) (bA 25 32767) ?_
   refine of_ (i := 15) (N := some 25) (bA 25 65535) ?_
   refine of_ (i := 16) (N := some 26) (bA 25 131071) ?_
   refine of_ (i := 17) (N := some 27) (bA 25 262143) ?_
   refine of_ (i := 18) (N := some 28) (bA 25 524287) ?_
   refine of_ (i := 19) (N := some 29) (bA 25 1048575) ?_
   refine of_ (i := 20) (N := some 30) (bA 25 2097151) ?_
   refine of_ (i := 21) (N := some 31) (bA 25 4194303) ?_
   refine of_ (i := 22) (N := some 32) (bA 25 8388607) ?_
   refine pu_ (i := 23) (N := some 33) (bA 25 16777215) ?_
   refine pu_ (i := 24) (N := some 6) (bA 25 33554431) ?_
   refine done_ (by kernel_rfl) ?_
   try go_wp2
   go_ret
   exact ⟨(by unfold apartF; rw [dF_ (fun q => by have k := HK.out; rw [q.2.1] at k; cases k)]; rfl), z23_0⟩
 have HL := ak hl
 clear hl
 go_enter Try.func36, Try.ntmps36
 go_wp2_with (first
  | ((with_reducible refine gate_dst (N := 3) rfl ?_); refine bx_ (N := 3) (cs := #[.slice Au u.length cu, .slice An nt.length cn]) (t := 26) ?_; intro gb hg w4 hbox hb; have hc0 : w4.cell? ⟨gb, 0, none⟩ = some (.slice Au u.length cu) := (blk_cell hbox 0).trans rfl; have hc1 : w4.cell? ⟨gb, 1, none⟩ = some (.slice An nt.length cn) := (blk_cell hbox 1).trans rfl; have HB4 := ak hb; clear hb hg hbox)
  | (go_at_call 56; (with_reducible refine (told_none _ _ u _ _ nt _ ?s1 ?s2 ?s3 ?s4 HL.out).mono ?_); (case s1 => repeat (first | exact (Kd.C_below HU.out HB4.out) | (with_reducible refine Kd.C_alloc ?_ _) | (with_reducible refine Kd.C_drewN ?_ _) | (with_reducible refine Kd.C_drew ?_))); (case s2 => exact HC.out); (case s3 => repeat (first | exact (Kd.C_below HN.out HB4.out) | (with_reducible refine Kd.C_alloc ?_ _) | (with_reducible refine Kd.C_drewN ?_ _) | (with_reducible refine Kd.C_drew ?_))); (case s4 => exact HCN.out); rintro e w5 ⟨rfl, hD⟩; have HB5 := ak (below_step HB4.out hD); clear hD))
 refine start_ (n := 25) (S := fun w' => True) (ds := []) (bA 25 0) (by kernel_rfl) rfl rfl trivial (fun hHeld => ?_)
 have HB6 := ak (below_drew HB5.out)
 generalize w5.drew = wd at HB6 hHeld ⊢
 refine pu_ (i := 0) (N := some 10) (bA 25 1) ?_
 refine pu_ (i := 1) (N := some 11) (bA 25 3) ?_
 refine pu_ (i := 2) (N := some 12) (bA 25 7) ?_
 refine one_ (i := 3) (N := some 13) (bA 25 15) rfl rfl (by kernel_rfl) (by decide) (fun K hK => ?_)
 refine value_ (w1 := ?_) (v := ?_) (by rfl) rfl ?_ ?_
 rotate_left 2
 ·
  go_simp
  constructor
  ·
   rfl
  rfl
 refine hK.out _ _ trivial (fun hHeld => ?_)
 clear hK K
 refine no_ (N := some 13) ?_
 refine one_ (i := 4) (N := some 14) (bA 25 31) rfl rfl (by kernel_rfl) (by decide) (fun K hK => ?_)
 refine ge_ Try.func63 #[.pointer none, .slice (some ⟨wd.heap.size, 0, none⟩) 2 2] ?_
 with_reducible refine (knows_nil _ _).mono ?_
 rintro e w' ⟨rfl, ⟨nd2, rfl⟩⟩
 refine ⟨_, rfl, ?_⟩
 refine hK.out _ _ hHeld (fun hHeld => ?_)
 clear hK K
 refine no_ (N := some 14) ?_
 refine pu_ (i := 5) (N := some 15) (bA 25 63) ?_
 refine of_ (i := 6) (N := some 16) (bA 25 127) ?_
 refine of_ (i := 7) (N := some 17) (bA 25 255) ?_
 refine of_ (i := 8) (N := some 18) (bA 25 511) ?_
 refine of_ (i := 9) (N := some 19) (bA 25 1023) ?_
 refine of_ (i := 10) (N := some 20) (bA 25 2047) ?_
 refine of_ (i := 11) (N := some 21) (bA 25 4095) ?_
 refine of_ (i := 12) (N := some 22) (bA 25 8191) ?_
 refine of_ (i := 13) (N := some 23) (bA 25 16383) ?_
 refine of_ (i := 14) (N := some 24) (bA 25 32767) ?_
 refine of_ (i := 15) (N := some 25) (bA 25 65535) ?_
 refine of_ (i := 16) (N := some 26) (bA 25 131071) ?_
 refine of_ (i := 17) (N := some 27) (bA 25 262143) ?_
 refine of_ (i := 18) (N := some 28) (bA 25 524287) ?_
 refine of_ (i := 19) (N := some 29) (bA 25 1048575) ?_
 refine of_ (i := 20) (N := some 30) (bA 25 2097151) ?_
 refine of_ (i := 21) (N := some 31) (bA 25 4194303) ?_
 refine of_ (i := 22) (N := some 32) (bA 25 8388607) ?_
 refine pu_ (i := 23) (N := some 33) (bA 25 16777215) ?_
 refine pu_ (i := 24) (N := some 6) (bA 25 33554431) ?_
 refine done_ (by kernel_rfl) ?_
 try go_wp2
 go_ret
 exact ⟨(by unfold apartF; rw [dF_ (fun q => HL.out q.1)]; rfl), z23_0⟩
end Go.Proofs.Ytjgfpiilfnchnaa.P

