import Derived.Test.YtjgfpiilfnchnaaPk2
import Derived.Test.YtjgfpiilfnchnaaPk6
namespace Go.Proofs.Ytjgfpiilfnchnaa.P
open Go.RowKit Go.Proofs.YtjgfpiilfnchnaaW.PrintWords Go.Proofs.YtjgfpiilfnchnaaW.PrintLast Go.Proofs.YtjgfpiilfnchnaaW.PrintMore Go.Proofs.Cl
set_option linter.unusedVariables false
set_option linter.unusedSimpArgs false
theorem z1z_1 {p : Prop} (h : p := by repeat (first | exact HB6.out | (with_reducible first | apply below_alloc | apply pw_below_drewN | apply below_drew1))) : p := h
theorem z1z_0 {p : Prop} (h : p := by repeat (first | exact HB5.out | (with_reducible first | apply below_alloc | apply pw_below_drewN | apply below_drew1))) : p := h
set_option maxHeartbeats 4000000 in
set_option maxRecDepth 100000 in
theorem noOf_core (Au : Option Addr) (cu : Nat) (u : List (List Int)) (An : Option Addr) (cn : Nat) (nt : List Int) (w : World)
 (hu : Kd.C (Kd.slice 3 (Kd.int .i64)) w Au u.length u) (hcu : u.length ≤ cu) (hn : Kd.C (Kd.int .i64) w An nt.length nt) (hcn : nt.length ≤ cn) :
 Calls Try.prog 19 #[.agg #[.slice Au u.length cu, .slice An nt.length cn]] w fun e w' => e = .returned (.int .i64 (noF u nt)) ∧ Below w.heap.size w w' := by
 have hul := Try.underlying26
 have HU := ak hu
 have HC := ak hcu
 have HN := ak hn
 have HCN := ak hcn
 clear hu hcu hn hcn
 by_cases hl : OL u nt
 ·
  have HL := ak hl
  clear hl
  go_enter Try.func19, Try.ntmps19
  go_wp2_with (first
   | ((with_reducible refine gate_dst (N := 1) rfl ?_); refine bx_ (N := 1) (cs := #[.slice Au u.length cu, .slice An nt.length cn]) (t := 26) ?_; intro gb hg w4 hbox hb; have hc0 : w4.cell? ⟨gb, 0, none⟩ = some (.slice Au u.length cu) := (blk_cell hbox 0).trans rfl; have hc1 : w4.cell? ⟨gb, 1, none⟩ = some (.slice An nt.length cn) := (blk_cell hbox 1).trans rfl; have HB4 := ak hb; clear hb hg hbox)
   | (go_at_call 56; (with_reducible refine (told_some _ _ u _ _ nt _ ?s1 ?s2 ?s3 ?s4 HL.out).mono ?_); (case s1 => repeat (first | exact (Kd.C_below HU.out HB4.out) | (with_reducible refine Kd.C_alloc ?_ _) | (with_reducible refine Kd.C_drewN ?_ _) | (with_reducible refine Kd.C_drew ?_))); (case s2 => exact HC.out); (case s3 => repeat (first | exact (Kd.C_below HN.out HB4.out) | (with_reducible refine Kd.C_alloc ?_ _) | (with_reducible refine Kd.C_drewN ?_ _) | (with_reducible refine Kd.C_drew ?_))); (case s4 => exact HCN.out); rintro e w5 ⟨g, rfl, hge, hAl, hD⟩; have HB5 := ak (below_step HB4.out hD); have HA := ak hAl; clear hD hge hAl; obtain ⟨_, _, _, _, _, _, _, _, h0, _⟩ := HA.out; have hv : w5.cell? ⟨g, 4, none⟩ = some (.int .i64 (leastI u)) := (blk_cell h0 4).trans rfl; clear h0))
  go_ret
  exact ⟨(by unfold noF; rw [if_pos HL.out]; rfl), z1z_0⟩
 have HL := ak hl
 clear hl
 go_enter Try.func19, Try.ntmps19
 go_wp2_with (first
  | ((with_reducible refine gate_dst (N := 1) rfl ?_); refine bx_ (N := 1) (cs := #[.slice Au u.length cu, .slice An nt.length cn]) (t := 26) ?_; intro gb hg w4 hbox hb; have hc0 : w4.cell? ⟨gb, 0, none⟩ = some (.slice Au u.length cu) := (blk_cell hbox 0).trans rfl; have hc1 : w4.cell? ⟨gb, 1, none⟩ = some (.slice An nt.length cn) := (blk_cell hbox 1).trans rfl; have HB4 := ak hb; clear hb hg hbox)
  | (go_at_call 56; (with_reducible refine (told_none _ _ u _ _ nt _ ?s1 ?s2 ?s3 ?s4 HL.out).mono ?_); (case s1 => repeat (first | exact (Kd.C_below HU.out HB4.out) | (with_reducible refine Kd.C_alloc ?_ _) | (with_reducible refine Kd.C_drewN ?_ _) | (with_reducible refine Kd.C_drew ?_))); (case s2 => exact HC.out); (case s3 => repeat (first | exact (Kd.C_below HN.out HB4.out) | (with_reducible refine Kd.C_alloc ?_ _) | (with_reducible refine Kd.C_drewN ?_ _) | (with_reducible refine Kd.C_drew ?_))); (case s4 => exact HCN.out); rintro e w5 ⟨rfl, hD⟩; have HB5 := ak (below_step HB4.out hD); clear hD))
 go_ret
 exact ⟨(by unfold noF; rw [if_neg HL.out]; rfl), z1z_0⟩
set_option maxHeartbeats 4000000 in
set_option maxRecDepth 100000 in
theorem yesOf_core (Au : Option Addr) (cu : Nat) (u : List (List Int)) (An : Option Addr) (cn : Nat) (nt : List Int) (w : World)
 (hu : Kd.C (Kd.slice 3 (Kd.int .i64)) w Au u.length u) (hcu : u.length ≤ cu) (hn : Kd.C (Kd.int .i64) w An nt.length nt) (hcn : nt.length ≤ cn) :
 Calls Try.prog 23 #[.agg #[.slice Au u.length cu, .slice An nt.length cn]] w fun e w' => e = .returned (.int .i64 (yesF u nt)) ∧ Below w.heap.size w w' := by
 have hul := Try.underlying26
 have HU := ak hu
 have HC := ak hcu
 have HN := ak hn
 have HCN := ak hcn
 clear hu hcu hn hcn
 by_cases hl : OL u nt
 ·
  have HL := ak hl
  clear hl
  go_enter Try.func23, Try.ntmps23
  go_wp2_with (first
   | ((with_reducible refine gate_dst (N := 1) rfl ?_); refine bx_ (N := 1) (cs := #[.slice Au u.length cu, .slice An nt.length cn]) (t := 26) ?_; intro gb hg w4 hbox hb; have hc0 : w4.cell? ⟨gb, 0, none⟩ = some (.slice Au u.length cu) := (blk_cell hbox 0).trans rfl; have hc1 : w4.cell? ⟨gb, 1, none⟩ = some (.slice An nt.length cn) := (blk_cell hbox 1).trans rfl; have HB4 := ak hb; clear hb hg hbox)
   | (go_at_call 56; (with_reducible refine (told_some _ _ u _ _ nt _ ?s1 ?s2 ?s3 ?s4 HL.out).mono ?_); (case s1 => repeat (first | exact (Kd.C_below HU.out HB4.out) | (with_reducible refine Kd.C_alloc ?_ _) | (with_reducible refine Kd.C_drewN ?_ _) | (with_reducible refine Kd.C_drew ?_))); (case s2 => exact HC.out); (case s3 => repeat (first | exact (Kd.C_below HN.out HB4.out) | (with_reducible refine Kd.C_alloc ?_ _) | (with_reducible refine Kd.C_drewN ?_ _) | (with_reducible refine Kd.C_drew ?_))); (case s4 => exact HCN.out); rintro e w5 ⟨g, rfl, hge, hAl, hD⟩; have HB5 := ak (below_step HB4.out hD); have HA := ak hAl; clear hD hge hAl; obtain ⟨_, _, _, _, _, _, _, _, h0, _⟩ := HA.out; have hv : w5.cell? ⟨g, 5, none⟩ = some (.int .i64 (rd nt (leastI u))) := (blk_cell h0 5).trans rfl; clear h0))
  go_ret
  exact ⟨(by unfold yesF; rw [if_pos HL.out]; rfl), z1z_0⟩
 have HL := ak hl
 clear hl
 go_enter Try.func23, Try.ntmps23
 go_wp2_with (first
  | ((with_reducible refine gate_dst (N := 1) rfl ?_); refine bx_ (N := 1) (cs := #[.slice Au u.length cu, .slice An nt.length cn]) (t := 26) ?_; intro gb hg w4 hbox hb; have hc0 : w4.cell? ⟨gb, 0, none⟩ = some (.slice Au u.length cu) := (blk_cell hbox 0).trans rfl; have hc1 : w4.cell? ⟨gb, 1, none⟩ = some (.slice An nt.length cn) := (blk_cell hbox 1).trans rfl; have HB4 := ak hb; clear hb hg hbox)
  | (go_at_call 56; (with_reducible refine (told_none _ _ u _ _ nt _ ?s1 ?s2 ?s3 ?s4 HL.out).mono ?_); (case s1 => repeat (first | exact (Kd.C_below HU.out HB4.out) | (with_reducible refine Kd.C_alloc ?_ _) | (with_reducible refine Kd.C_drewN ?_ _) | (with_reducible refine Kd.C_drew ?_))); (case s2 => exact HC.out); (case s3 => repeat (first | exact (Kd.C_below HN.out HB4.out) | (with_reducible refine Kd.C_alloc ?_ _) | (with_reducible refine Kd.C_drewN ?_ _) | (with_reducible refine Kd.C_drew ?_))); (case s4 => exact HCN.out); rintro e w5 ⟨rfl, hD⟩; have HB5 := ak (below_step HB4.out hD); clear hD))
 go_ret
 exact ⟨(by unfold yesF; rw [if_neg HL.out]; rfl), z1z_0⟩
set_option maxHeartbeats 4000000 in
set_option maxRecDepth 100000 in
theorem logicOk_core (Au : Option Addr) (cu : Nat) (u : List (List Int)) (An : Option Addr) (cn : Nat) (nt : List Int) (w : World)
 (hu : Kd.C (Kd.slice 3 (Kd.int .i64)) w Au u.length u) (hcu : u.length ≤ cu) (hn : Kd.C (Kd.int .i64) w An nt.length nt) (hcn : nt.length ≤ cn) :
 Calls Try.prog 15 #[.agg #[.slice Au u.length cu, .slice An nt.length cn]] w fun e w' => e = .returned (.bool (logicF u nt)) ∧ Below w.heap.size w w' := by
 have hul := Try.underlying26
 have HU := ak hu
 have HC := ak hcu
 have HN := ak hn
 have HCN := ak hcn
 clear hu hcu hn hcn
 by_cases hl : OL u nt
 ·
  have HL := ak hl
  clear hl
  go_enter Try.func15, Try.ntmps15
  go_wp2_with (first
   | ((with_reducible refine gate_dst (N := 1) rfl ?_); refine bx_ (N := 1) (cs := #[.slice Au u.length cu, .slice An nt.length cn]) (t := 26) ?_; intro gb hg w4 hbox hb; have hc0 : w4.cell? ⟨gb, 0, none⟩ = some (.slice Au u.length cu) := (blk_cell hbox 0).trans rfl; have hc1 : w4.cell? ⟨gb, 1, none⟩ = some (.slice An nt.length cn) := (blk_cell hbox 1).trans rfl; have HB4 := ak hb; clear hb hg hbox)
   | (go_at_call 56; (with_reducible refine (told_some _ _ u _ _ nt _ ?s1 ?s2 ?s3 ?s4 HL.out).mono ?_); (case s1 => repeat (first | exact (Kd.C_below HU.out HB4.out) | (with_reducible refine Kd.C_alloc ?_ _) | (with_reducible refine Kd.C_drewN ?_ _) | (with_reducible refine Kd.C_drew ?_))); (case s2 => exact HC.out); (case s3 => repeat (first | exact (Kd.C_below HN.out HB4.out) | (with_reducible refine Kd.C_alloc ?_ _) | (with_reducible refine Kd.C_drewN ?_ _) | (with_reducible refine Kd.C_drew ?_))); (case s4 => exact HCN.out); rintro e w5 ⟨g, rfl, hge, hAl, hD⟩; have HB5 := ak (below_step HB4.out hD); have HA := ak hAl; clear hD hge hAl; skip))
  go_ret
  exact ⟨(by unfold logicF; rw [dT_ HL.out]; rfl), z1z_0⟩
 have HL := ak hl
 clear hl
 go_enter Try.func15, Try.ntmps15
 go_wp2_with (first
  | ((with_reducible refine gate_dst (N := 1) rfl ?_); refine bx_ (N := 1) (cs := #[.slice Au u.length cu, .slice An nt.length cn]) (t := 26) ?_; intro gb hg w4 hbox hb; have hc0 : w4.cell? ⟨gb, 0, none⟩ = some (.slice Au u.length cu) := (blk_cell hbox 0).trans rfl; have hc1 : w4.cell? ⟨gb, 1, none⟩ = some (.slice An nt.length cn) := (blk_cell hbox 1).trans rfl; have HB4 := ak hb; clear hb hg hbox)
  | (go_at_call 56; (with_reducible refine (told_none _ _ u _ _ nt _ ?s1 ?s2 ?s3 ?s4 HL.out).mono ?_); (case s1 => repeat (first | exact (Kd.C_below HU.out HB4.out) | (with_reducible refine Kd.C_alloc ?_ _) | (with_reducible refine Kd.C_drewN ?_ _) | (with_reducible refine Kd.C_drew ?_))); (case s2 => exact HC.out); (case s3 => repeat (first | exact (Kd.C_below HN.out HB4.out) | (with_reducible refine Kd.C_alloc ?_ _) | (with_reducible refine Kd.C_drewN ?_ _) | (with_reducible refine Kd.C_drew ?_))); (case s4 => exact HCN.out); rintro e w5 ⟨rfl, hD⟩; have HB5 := ak (below_step HB4.out hD); clear hD))
 go_ret
 exact ⟨(by unfold logicF; rw [dF_ HL.out]; rfl), z1z_0⟩
theorem knows_n {w : World} {g : Nat} {u a o : List (List Int)} {nt : List Int} {no yes : Int} (h : AlgAt w g u a o nt no yes) (A : Option Addr) (c : Nat) (xs : List Int) (n : Nat) (hn : n = xs.length) (hx : Kd.C (Kd.int .i64) w A xs.length xs) (hl : xs.length ≤ 1000) :
 Calls Try.prog 63 #[.pointer (some ⟨g, 0, none⟩), .slice A n c] w fun e w' => e = .returned (.bool (okAll u.length xs)) ∧ Drawn0 w w' := by
 subst hn
 exact knows_calls h A c xs hx hl
theorem okAll_two {n : Nat} {a b : Int} (h : okAll n [a, b] = true) : (0 ≤ a ∧ a < n) ∧ (0 ≤ b ∧ b < n) := by simpa [okAll] using h
theorem okAll_one {n : Nat} {a : Int} (h : okAll n [a] = true) : 0 ≤ a ∧ a < n := by simpa [okAll] using h
theorem okAll_three {n : Nat} {a b c : Int} (h : okAll n [a, b, c] = true) : (0 ≤ a ∧ a < n) ∧ (0 ≤ b ∧ b < n) ∧ (0 ≤ c ∧ c < n) := by simpa [okAll] using h
theorem tab_at {w : World} {A : Option Addr} {u : List (List Int)} {f : Nat → Nat → Int} {T : List (List Int)} (hT : T = (List.range u.length).map fun a => (List.range u.length).map fun b => f a b)
 (h : Kd.C (Kd.slice 3 (Kd.int .i64)) w A T.length T) {a b : Int} (ha : 0 ≤ a ∧ a < u.length) (hb : 0 ≤ b ∧ b < u.length) :
 ∃ ad ad2 c, A = some ad ∧ a < (T.length : Int) ∧ w.cell? (ad.add a.toNat) = some (.slice (some ad2) u.length c) ∧ w.cell? (ad2.add b.toNat) = some (.int .i64 (f a.toNat b.toNat)) := by
 have hl : T.length = u.length := by rw [hT]; simp
 obtain ⟨ad, A0, c0, e, h1, h2, h3⟩ := at_L1 h a ha.1 (by rw [hl]; exact ha.2)
 have hr : rd_L1 T a = (List.range u.length).map fun b => f a.toNat b := by
  obtain ⟨n, rfl, hn⟩ := Q.nat_of ha
  rw [Q.row_nat, hT, getD_map_range _ _ hn, Int.toNat_natCast]
 have hrl : (rd_L1 T a).length = u.length := by rw [hr]; simp
 rw [hrl] at h1 h3
 obtain ⟨ad2, rfl, h4⟩ := Kd.at_int h3 b hb.1 hb.2
 refine ⟨ad, ad2, c0, e, (by rw [hl]; exact ha.2), h1, ?_⟩
 rw [h4, hr]
 obtain ⟨m, rfl, hm⟩ := Q.nat_of hb
 rw [Int.toNat_natCast, Q.rd_nat, getD_map_range _ _ hm]
set_option maxHeartbeats 4000000 in
set_option maxRecDepth 100000 in
theorem andOf_core (Au : Option Addr) (cu : Nat) (u : List (List Int)) (An : Option Addr) (cn : Nat) (nt : List Int) (a : Int) (b : Int) (w : World)
 (hu : Kd.C (Kd.slice 3 (Kd.int .i64)) w Au u.length u) (hcu : u.length ≤ cu) (hn : Kd.C (Kd.int .i64) w An nt.length nt) (hcn : nt.length ≤ cn) :
 Calls Try.prog 27 #[.agg #[.slice Au u.length cu, .slice An nt.length cn], .int .i64 a, .int .i64 b] w fun e w' => e = .returned (.int .i64 (andF u nt a b)) ∧ Below w.heap.size w w' := by
 have hul := Try.underlying26
 have HU := ak hu
 have HC := ak hcu
 have HN := ak hn
 have HCN := ak hcn
 clear hu hcu hn hcn
 by_cases hl : OL u nt
 ·
  have HL := ak hl
  clear hl
  cases hk : okAll u.length [a, b] with
  | true =>
   have HK := ak hk
   clear hk
   have hok := okAll_two HK.out
   have ha0 : 0 ≤ a := hok.1.1
   have hb0 : 0 ≤ b := hok.2.1
   have HOK := ak hok
   clear hok
   go_enter Try.func27, Try.ntmps27
   go_wp2_with (first
    | ((with_reducible refine gate_dst (N := 3) rfl ?_); refine bx_ (N := 3) (cs := #[.slice Au u.length cu, .slice An nt.length cn]) (t := 26) ?_; intro gb hg w4 hbox hb; have hc0 : w4.cell? ⟨gb, 0, none⟩ = some (.slice Au u.length cu) := (blk_cell hbox 0).trans rfl; have hc1 : w4.cell? ⟨gb, 1, none⟩ = some (.slice An nt.length cn) := (blk_cell hbox 1).trans rfl; have HB4 := ak hb; clear hb hg hbox)
    | (go_at_call 56; (with_reducible refine (told_some _ _ u _ _ nt _ ?s1 ?s2 ?s3 ?s4 HL.out).mono ?_); (case s1 => repeat (first | exact (Kd.C_below HU.out HB4.out) | (with_reducible refine Kd.C_alloc ?_ _) | (with_reducible refine Kd.C_drewN ?_ _) | (with_reducible refine Kd.C_drew ?_))); (case s2 => exact HC.out); (case s3 => repeat (first | exact (Kd.C_below HN.out HB4.out) | (with_reducible refine Kd.C_alloc ?_ _) | (with_reducible refine Kd.C_drewN ?_ _) | (with_reducible refine Kd.C_drew ?_))); (case s4 => exact HCN.out); rintro e w5 ⟨g, rfl, hge, hAl, hD⟩; have HB5 := ak (below_step HB4.out hD); have HA := ak hAl; clear hD hge hAl; skip)
    | ((with_reducible refine gate_dst (N := 13) rfl ?_); refine Kd.R_lit (Kd.int .i64) _ 3 ?hg (N := 13) ?hd (xs := ([a, b] : List Int)) (inner := [.int .i64 a, .int .i64 b]) (ok := fun _ => True) (okp := fun _ => True) ?hr ?hp (fun _ hk => hk) trivial (Below.refl _ _) (Nat.le_refl _) (by simp) ?_; (case hd => rfl); (case hg => rfl); (case hr => first | (go_simp; done) | (go_simp; rfl)); (case hp => exact (Reps.one (show Kd.M (Kd.int .i64) _ _ _ a [.int .i64 a] from rfl) (Reps.one (show Kd.M (Kd.int .i64) _ _ _ b [.int .i64 b] from rfl) (Reps.none _ _)))); intro vl w6 ho hb hg_ hnew_; clear hg_ hnew_; obtain ⟨Al, cl, el⟩ := Kd.R_slice ho; subst el; have HXL := ak (Kd.R_reads' ho).2.2; have HB6 := ak (below_step HB5.out hb); have a0 := ak (HA.out.below hb); clear ho hb)
    | (go_at_call 63; (with_reducible refine (knows_n a0.out _ _ [a, b] _ ?s0 ?s1 ?s2).mono ?_); (case s0 => rfl); (case s1 => exact HXL.out); (case s2 => simp); rw [HK.out]; rintro e w7 ⟨rfl, hD⟩; obtain ⟨nd, rfl⟩ := hD; obtain ⟨Bu, bu, Ba, ba, Bo, bo, Bn, bn, h0, h1, h2, h3, h4, h5, h6, h7, h8⟩ := a0.out; obtain ⟨ad, ad2, cc, e0, hlt, hp1, hp2⟩ := tab_at (f := meetI u) rfl h3 HOK.out.1 HOK.out.2; subst e0; have hq : (w6.drewN nd).cell? ⟨g, 1, none⟩ = some _ := (blk_cell h0 1).trans rfl; have hq1 : (w6.drewN nd).cell? (ad.add a.toNat) = _ := hp1; have hq2 : (w6.drewN nd).cell? (ad2.add b.toNat) = _ := hp2; have hbl := HOK.out.2.2; clear h0 h1 h2 h3 h4 h5 h6 h7 h8 hp1 hp2))
   go_ret
   exact ⟨(by unfold andF; rw [if_pos ⟨HL.out, HK.out⟩]; rfl), z1z_1⟩
  | false =>
   have HK := ak hk
   clear hk
   go_enter Try.func27, Try.ntmps27
   go_wp2_with (first
    | ((with_reducible refine gate_dst (N := 3) rfl ?_); refine bx_ (N := 3) (cs := #[.slice Au u.length cu, .slice An nt.length cn]) (t := 26) ?_; intro gb hg w4 hbox hb; have hc0 : w4.cell? ⟨gb, 0, none⟩ = some (.slice Au u.length cu) := (blk_cell hbox 0).trans rfl; have hc1 : w4.cell? ⟨gb, 1, none⟩ = some (.slice An nt.length cn) := (blk_cell hbox 1).trans rfl; have HB4 := ak hb; clear hb hg hbox)
    | (go_at_call 56; (with_reducible refine (told_some _ _ u _ _ nt _ ?s1 ?s2 ?s3 ?s4 HL.out).mono ?_); (case s1 => repeat (first | exact (Kd.C_below HU.out HB4.out) | (with_reducible refine Kd.C_alloc ?_ _) | (with_reducible refine Kd.C_drewN ?_ _) | (with_reducible refine Kd.C_drew ?_))); (case s2 => exact HC.out); (case s3 => repeat (first | exact (Kd.C_below HN.out HB4.out) | (with_reducible refine Kd.C_alloc ?_ _) | (with_reducible refine Kd.C_drewN ?_ _) | (with_reducible refine Kd.C_drew ?_))); (case s4 => exact HCN.out); rintro e w5 ⟨g, rfl, hge, hAl, hD⟩; have HB5 := ak (below_step HB4.out hD); have HA := ak hAl; clear hD hge hAl; skip)
    | ((with_reducible refine gate_dst (N := 13) rfl ?_); refine Kd.R_lit (Kd.int .i64) _ 3 ?hg (N := 13) ?hd (xs := ([a, b] : List Int)) (inner := [.int .i64 a, .int .i64 b]) (ok := fun _ => True) (okp := fun _ => True) ?hr ?hp (fun _ hk => hk) trivial (Below.refl _ _) (Nat.le_refl _) (by simp) ?_; (case hd => rfl); (case hg => rfl); (case hr => first | (go_simp; done) | (go_simp; rfl)); (case hp => exact (Reps.one (show Kd.M (Kd.int .i64) _ _ _ a [.int .i64 a] from rfl) (Reps.one (show Kd.M (Kd.int .i64) _ _ _ b [.int .i64 b] from rfl) (Reps.none _ _)))); intro vl w6 ho hb hg_ hnew_; clear hg_ hnew_; obtain ⟨Al, cl, el⟩ := Kd.R_slice ho; subst el; have HXL := ak (Kd.R_reads' ho).2.2; have HB6 := ak (below_step HB5.out hb); have a0 := ak (HA.out.below hb); clear ho hb)
    | (go_at_call 63; (with_reducible refine (knows_n a0.out _ _ [a, b] _ ?s0 ?s1 ?s2).mono ?_); (case s0 => rfl); (case s1 => exact HXL.out); (case s2 => simp); rw [HK.out]; rintro e w7 ⟨rfl, hD⟩; obtain ⟨nd, rfl⟩ := hD; skip))
   go_ret
   exact ⟨(by unfold andF; rw [if_neg (fun q => by have k := HK.out; rw [q.2] at k; cases k)]; rfl), z1z_1⟩
 have HL := ak hl
 clear hl
 go_enter Try.func27, Try.ntmps27
 go_wp2_with (first
  | ((with_reducible refine gate_dst (N := 3) rfl ?_); refine bx_ (N := 3) (cs := #[.slice Au u.length cu, .slice An nt.length cn]) (t := 26) ?_; intro gb hg w4 hbox hb; have hc0 : w4.cell? ⟨gb, 0, none⟩ = some (.slice Au u.length cu) := (blk_cell hbox 0).trans rfl; have hc1 : w4.cell? ⟨gb, 1, none⟩ = some (.slice An nt.length cn) := (blk_cell hbox 1).trans rfl; have HB4 := ak hb; clear hb hg hbox)
  | (go_at_call 56; (with_reducible refine (told_none _ _ u _ _ nt _ ?s1 ?s2 ?s3 ?s4 HL.out).mono ?_); (case s1 => repeat (first | exact (Kd.C_below HU.out HB4.out) | (with_reducible refine Kd.C_alloc ?_ _) | (with_reducible refine Kd.C_drewN ?_ _) | (with_reducible refine Kd.C_drew ?_))); (case s2 => exact HC.out); (case s3 => repeat (first | exact (Kd.C_below HN.out HB4.out) | (with_reducible refine Kd.C_alloc ?_ _) | (with_reducible refine Kd.C_drewN ?_ _) | (with_reducible refine Kd.C_drew ?_))); (case s4 => exact HCN.out); rintro e w5 ⟨rfl, hD⟩; have HB5 := ak (below_step HB4.out hD); clear hD)
  | (go_at_call 63; (with_reducible refine (knows_nil _ _).mono ?_); rintro e w6 ⟨rfl, hD⟩; obtain ⟨nd, rfl⟩ := hD))
 go_ret
 exact ⟨(by unfold andF; rw [if_neg (fun q => HL.out q.1)]; rfl), z1z_0⟩
set_option maxHeartbeats 4000000 in
set_option maxRecDepth 100000 in
theorem orOf_core (Au : Option Addr) (cu : Nat) (u : List (List Int)) (An : Option Addr) (cn : Nat) (nt : List Int) (a : Int) (b : Int) (w : World)
 (hu : Kd.C (Kd.slice 3 (Kd.int .i64)) w Au u.length u) (hcu : u.length ≤ cu) (hn : Kd.C (Kd.int .i64) w An nt.length nt) (hcn : nt.length ≤ cn) :
 Calls Try.prog 30 #[.agg #[.slice Au u.length cu, .slice An nt.length cn], .int .i64 a, .int .i64 b] w fun e w' => e = .returned (.int .i64 (orF u nt a b)) ∧ Below w.heap.size w w' := by
 have hul := Try.underlying26
 have HU := ak hu
 have HC := ak hcu
 have HN := ak hn
 have HCN := ak hcn
 clear hu hcu hn hcn
 by_cases hl : OL u nt
 ·
  have HL := ak hl
  clear hl
  cases hk : okAll u.length [a, b] with
  | true =>
   have HK := ak hk
   clear hk
   have hok := okAll_two HK.out
   have ha0 : 0 ≤ a := hok.1.1
   have hb0 : 0 ≤ b := hok.2.1
   have HOK := ak hok
   clear hok
   go_enter Try.func30, Try.ntmps30
   go_wp2_with (first
    | ((with_reducible refine gate_dst (N := 3) rfl ?_); refine bx_ (N := 3) (cs := #[.slice Au u.length cu, .slice An nt.length cn]) (t := 26) ?_; intro gb hg w4 hbox hb; have hc0 : w4.cell? ⟨gb, 0, none⟩ = some (.slice Au u.length cu) := (blk_cell hbox 0).trans rfl; have hc1 : w4.cell? ⟨gb, 1, none⟩ = some (.slice An nt.length cn) := (blk_cell hbox 1).trans rfl; have HB4 := ak hb; clear hb hg hbox)
    | (go_at_call 56; (with_reducible refine (told_some _ _ u _ _ nt _ ?s1 ?s2 ?s3 ?s4 HL.out).mono ?_); (case s1 => repeat (first | exact (Kd.C_below HU.out HB4.out) | (with_reducible refine Kd.C_alloc ?_ _) | (with_reducible refine Kd.C_drewN ?_ _) | (with_reducible refine Kd.C_drew ?_))); (case s2 => exact HC.out); (case s3 => repeat (first | exact (Kd.C_below HN.out HB4.out) | (with_reducible refine Kd.C_alloc ?_ _) | (with_reducible refine Kd.C_drewN ?_ _) | (with_reducible refine Kd.C_drew ?_))); (case s4 => exact HCN.out); rintro e w5 ⟨g, rfl, hge, hAl, hD⟩; have HB5 := ak (below_step HB4.out hD); have HA := ak hAl; clear hD hge hAl; skip)
    | ((with_reducible refine gate_dst (N := 13) rfl ?_); refine Kd.R_lit (Kd.int .i64) _ 3 ?hg (N := 13) ?hd (xs := ([a, b] : List Int)) (inner := [.int .i64 a, .int .i64 b]) (ok := fun _ => True) (okp := fun _ => True) ?hr ?hp (fun _ hk => hk) trivial (Below.refl _ _) (Nat.le_refl _) (by simp) ?_; (case hd => rfl); (case hg => rfl); (case hr => first | (go_simp; done) | (go_simp; rfl)); (case hp => exact (Reps.one (show Kd.M (Kd.int .i64) _ _ _ a [.int .i64 a] from rfl) (Reps.one (show Kd.M (Kd.int .i64) _ _ _ b [.int .i64 b] from rfl) (Reps.none _ _)))); intro vl w6 ho hb hg_ hnew_; clear hg_ hnew_; obtain ⟨Al, cl, el⟩ := Kd.R_slice ho; subst el; have HXL := ak (Kd.R_reads' ho).2.2; have HB6 := ak (below_step HB5.out hb); have a0 := ak (HA.out.below hb); clear ho hb)
    | (go_at_call 63; (with_reducible refine (knows_n a0.out _ _ [a, b] _ ?s0 ?s1 ?s2).mono ?_); (case s0 => rfl); (case s1 => exact HXL.out); (case s2 => simp); rw [HK.out]; rintro e w7 ⟨rfl, hD⟩; obtain ⟨nd, rfl⟩ := hD; obtain ⟨Bu, bu, Ba, ba, Bo, bo, Bn, bn, h0, h1, h2, h3, h4, h5, h6, h7, h8⟩ := a0.out; obtain ⟨ad, ad2, cc, e0, hlt, hp1, hp2⟩ := tab_at (f := joinI u) rfl h5 HOK.out.1 HOK.out.2; subst e0; have hq : (w6.drewN nd).cell? ⟨g, 2, none⟩ = some _ := (blk_cell h0 2).trans rfl; have hq1 : (w6.drewN nd).cell? (ad.add a.toNat) = _ := hp1; have hq2 : (w6.drewN nd).cell? (ad2.add b.toNat) = _ := hp2; have hbl := HOK.out.2.2; clear h0 h1 h2 h3 h4 h5 h6 h7 h8 hp1 hp2))
   go_ret
   exact ⟨(by unfold orF; rw [if_pos ⟨HL.out, HK.out⟩]; rfl), z1z_1⟩
  | false =>
   have HK := ak hk
   clear hk
   go_enter Try.func30, Try.ntmps30
   go_wp2_with (first
    | ((with_reducible refine gate_dst (N := 3) rfl ?_); refine bx_ (N := 3) (cs := #[.slice Au u.length cu, .slice An nt.length cn]) (t := 26) ?_; intro gb hg w4 hbox hb; have hc0 : w4.cell? ⟨gb, 0, none⟩ = some (.slice Au u.length cu) := (blk_cell hbox 0).trans rfl; have hc1 : w4.cell? ⟨gb, 1, none⟩ = some (.slice An nt.length cn) := (blk_cell hbox 1).trans rfl; have HB4 := ak hb; clear hb hg hbox)
    | (go_at_call 56; (with_reducible refine (told_some _ _ u _ _ nt _ ?s1 ?s2 ?s3 ?s4 HL.out).mono ?_); (case s1 => repeat (first | exact (Kd.C_below HU.out HB4.out) | (with_reducible refine Kd.C_alloc ?_ _) | (with_reducible refine Kd.C_drewN ?_ _) | (with_reducible refine Kd.C_drew ?_))); (case s2 => exact HC.out); (case s3 => repeat (first | exact (Kd.C_below HN.out HB4.out) | (with_reducible refine Kd.C_alloc ?_ _) | (with_reducible refine Kd.C_drewN ?_ _) | (with_reducible refine Kd.C_drew ?_))); (case s4 => exact HCN.out); rintro e w5 ⟨g, rfl, hge, hAl, hD⟩; have HB5 := ak (below_step HB4.out hD); have HA := ak hAl; clear hD hge hAl; skip)
    | ((with_reducible refine gate_dst (N := 13) rfl ?_); refine Kd.R_lit (Kd.int .i64) _ 3 ?hg (N := 13) ?hd (xs := ([a, b] : List Int)) (inner := [.int .i64 a, .int .i64 b]) (ok := fun _ => True) (okp := fun _ => True) ?hr ?hp (fun _ hk => hk) trivial (Below.refl _ _) (Nat.le_refl _) (by simp) ?_; (case hd => rfl); (case hg => rfl); (case hr => first | (go_simp; done) | (go_simp; rfl)); (case hp => exact (Reps.one (show Kd.M (Kd.int .i64) _ _ _ a [.int .i64 a] from rfl) (Reps.one (show Kd.M (Kd.int .i64) _ _ _ b [.int .i64 b] from rfl) (Reps.none _ _)))); intro vl w6 ho hb hg_ hnew_; clear hg_ hnew_; obtain ⟨Al, cl, el⟩ := Kd.R_slice ho; subst el; have HXL := ak (Kd.R_reads' ho).2.2; have HB6 := ak (below_step HB5.out hb); have a0 := ak (HA.out.below hb); clear ho hb)
    | (go_at_call 63; (with_reducible refine (knows_n a0.out _ _ [a, b] _ ?s0 ?s1 ?s2).mono ?_); (case s0 => rfl); (case s1 => exact HXL.out); (case s2 => simp); rw [HK.out]; rintro e w7 ⟨rfl, hD⟩; obtain ⟨nd, rfl⟩ := hD; skip))
   go_ret
   exact ⟨(by unfold orF; rw [if_neg (fun q => by have k := HK.out; rw [q.2] at k; cases k)]; rfl), z1z_1⟩
 have HL := ak hl
 clear hl
 go_enter Try.func30, Try.ntmps30
 go_wp2_with (first
  | ((with_reducible refine gate_dst (N := 3) rfl ?_); refine bx_ (N := 3) (cs := #[.slice Au u.length cu, .slice An nt.length cn]) (t := 26) ?_; intro gb hg w4 hbox hb; have hc0 : w4.cell? ⟨gb, 0, none⟩ = some (.slice Au u.length cu) := (blk_cell hbox 0).trans rfl; have hc1 : w4.cell? ⟨gb, 1, none⟩ = some (.slice An nt.length cn) := (blk_cell hbox 1).trans rfl; have HB4 := ak hb; clear hb hg hbox)
  | (go_at_call 56; (with_reducible refine (told_none _ _ u _ _ nt _ ?s1 ?s2 ?s3 ?s4 HL.out).mono ?_); (case s1 => repeat (first | exact (Kd.C_below HU.out HB4.out) | (with_reducible refine Kd.C_alloc ?_ _) | (with_reducible refine Kd.C_drewN ?_ _) | (with_reducible refine Kd.C_drew ?_))); (case s2 => exact HC.out); (case s3 => repeat (first | exact (Kd.C_below HN.out HB4.out) | (with_reducible refine Kd.C_alloc ?_ _) | (with_reducible refine Kd.C_drewN ?_ _) | (with_reducible refine Kd.C_drew ?_))); (case s4 => exact HCN.out); rintro e w5 ⟨rfl, hD⟩; have HB5 := ak (below_step HB4.out hD); clear hD)
  | (go_at_call 63; (with_reducible refine (knows_nil _ _).mono ?_); rintro e w6 ⟨rfl, hD⟩; obtain ⟨nd, rfl⟩ := hD))
 go_ret
 exact ⟨(by unfold orF; rw [if_neg (fun q => HL.out q.1)]; rfl), z1z_0⟩
set_option maxHeartbeats 4000000 in
set_option maxRecDepth 100000 in
theorem notOf_core (Au : Option Addr) (cu : Nat) (u : List (List Int)) (An : Option Addr) (cn : Nat) (nt : List Int) (a : Int) (w : World)
 (hu : Kd.C (Kd.slice 3 (Kd.int .i64)) w Au u.length u) (hcu : u.length ≤ cu) (hn : Kd.C (Kd.int .i64) w An nt.length nt) (hcn : nt.length ≤ cn) :
 Calls Try.prog 29 #[.agg #[.slice Au u.length cu, .slice An nt.length cn], .int .i64 a] w fun e w' => e = .returned (.int .i64 (notF u nt a)) ∧ Below w.heap.size w w' := by
 have hul := Try.underlying26
 have HU := ak hu
 have HC := ak hcu
 have HN := ak hn
 have HCN := ak hcn
 clear hu hcu hn hcn
 by_cases hl : OL u nt
 ·
  have HL := ak hl
  clear hl
  cases hk : okAll u.length [a] with
  | true =>
   have HK := ak hk
   clear hk
   have hok := okAll_one HK.out
   have ha0 : 0 ≤ a := hok.1
   have HOK := ak hok
   clear hok
   go_enter Try.func29, Try.ntmps29
   go_wp2_with (first
    | ((with_reducible refine gate_dst (N := 2) rfl ?_); refine bx_ (N := 2) (cs := #[.slice Au u.length cu, .slice An nt.length cn]) (t := 26) ?_; intro gb hg w4 hbox hb; have hc0 : w4.cell? ⟨gb, 0, none⟩ = some (.slice Au u.length cu) := (blk_cell hbox 0).trans rfl; have hc1 : w4.cell? ⟨gb, 1, none⟩ = some (.slice An nt.length cn) := (blk_cell hbox 1).trans rfl; have HB4 := ak hb; clear hb hg hbox)
    | (go_at_call 56; (with_reducible refine (told_some _ _ u _ _ nt _ ?s1 ?s2 ?s3 ?s4 HL.out).mono ?_); (case s1 => repeat (first | exact (Kd.C_below HU.out HB4.out) | (with_reducible refine Kd.C_alloc ?_ _) | (with_reducible refine Kd.C_drewN ?_ _) | (with_reducible refine Kd.C_drew ?_))); (case s2 => exact HC.out); (case s3 => repeat (first | exact (Kd.C_below HN.out HB4.out) | (with_reducible refine Kd.C_alloc ?_ _) | (with_reducible refine Kd.C_drewN ?_ _) | (with_reducible refine Kd.C_drew ?_))); (case s4 => exact HCN.out); rintro e w5 ⟨g, rfl, hge, hAl, hD⟩; have HB5 := ak (below_step HB4.out hD); have HA := ak hAl; clear hD hge hAl; skip)
    | ((with_reducible refine gate_dst (N := 10) rfl ?_); refine Kd.R_lit (Kd.int .i64) _ 3 ?hg (N := 10) ?hd (xs := ([a] : List Int)) (inner := [.int .i64 a]) (ok := fun _ => True) (okp := fun _ => True) ?hr ?hp (fun _ hk => hk) trivial (Below.refl _ _) (Nat.le_refl _) (by simp) ?_; (case hd => rfl); (case hg => rfl); (case hr => first | (go_simp; done) | (go_simp; rfl)); (case hp => exact (Reps.one (show Kd.M (Kd.int .i64) _ _ _ a [.int .i64 a] from rfl) (Reps.none _ _))); intro vl w6 ho hb hg_ hnew_; clear hg_ hnew_; obtain ⟨Al, cl, el⟩ := Kd.R_slice ho; subst el; have HXL := ak (Kd.R_reads' ho).2.2; have HB6 := ak (below_step HB5.out hb); have a0 := ak (HA.out.below hb); clear ho hb)
    | (go_at_call 63; (with_reducible refine (knows_n a0.out _ _ [a] _ ?s0 ?s1 ?s2).mono ?_); (case s0 => rfl); (case s1 => exact HXL.out); (case s2 => simp); rw [HK.out]; rintro e w7 ⟨rfl, hD⟩; obtain ⟨nd, rfl⟩ := hD; obtain ⟨Bu, bu, Ba, ba, Bo, bo, Bn, bn, h0, h1, h2, h3, h4, h5, h6, h7, h8⟩ := a0.out; obtain ⟨ad, e0, hp1⟩ := Kd.at_int h7 a HOK.out.1 (by rw [HL.out.2.1]; exact HOK.out.2); subst e0; have hlt : a < (nt.length : Int) := (by rw [HL.out.2.1]; exact HOK.out.2); have hq : (w6.drewN nd).cell? ⟨g, 3, none⟩ = some _ := (blk_cell h0 3).trans rfl; have hq1 : (w6.drewN nd).cell? (ad.add a.toNat) = _ := hp1; clear h0 h1 h2 h3 h4 h5 h6 h7 h8 hp1))
   go_ret
   exact ⟨(by unfold notF; rw [if_pos ⟨HL.out, HK.out⟩]; rfl), z1z_1⟩
  | false =>
   have HK := ak hk
   clear hk
   go_enter Try.func29, Try.ntmps29
   go_wp2_with (first
    | ((with_reducible refine gate_dst (N := 2) rfl ?_); refine bx_ (N := 2) (cs := #[.slice Au u.length cu, .slice An nt.length cn]) (t := 26) ?_; intro gb hg w4 hbox hb; have hc0 : w4.cell? ⟨gb, 0, none⟩ = some (.slice Au u.length cu) := (blk_cell hbox 0).trans rfl; have hc1 : w4.cell? ⟨gb, 1, none⟩ = some (.slice An nt.length cn) := (blk_cell hbox 1).trans rfl; have HB4 := ak hb; clear hb hg hbox)
    | (go_at_call 56; (with_reducible refine (told_some _ _ u _ _ nt _ ?s1 ?s2 ?s3 ?s4 HL.out).mono ?_); (case s1 => repeat (first | exact (Kd.C_below HU.out HB4.out) | (with_reducible refine Kd.C_alloc ?_ _) | (with_reducible refine Kd.C_drewN ?_ _) | (with_reducible refine Kd.C_drew ?_))); (case s2 => exact HC.out); (case s3 => repeat (first | exact (Kd.C_below HN.out HB4.out) | (with_reducible refine Kd.C_alloc ?_ _) | (with_reducible refine Kd.C_drewN ?_ _) | (with_reducible refine Kd.C_drew ?_))); (case s4 => exact HCN.out); rintro e w5 ⟨g, rfl, hge, hAl, hD⟩; have HB5 := ak (below_step HB4.out hD); have HA := ak hAl; clear hD hge hAl; skip)
    | ((with_reducible refine gate_dst (N := 10) rfl ?_); refine Kd.R_lit (Kd.int .i64) _ 3 ?hg (N := 10) ?hd (xs := ([a] : List Int)) (inner := [.int .i64 a]) (ok := fun _ => True) (okp := fun _ => True) ?hr ?hp (fun _ hk => hk) trivial (Below.refl _ _) (Nat.le_refl _) (by simp) ?_; (case hd => rfl); (case hg => rfl); (case hr => first | (go_simp; done) | (go_simp; rfl)); (case hp => exact (Reps.one (show Kd.M (Kd.int .i64) _ _ _ a [.int .i64 a] from rfl) (Reps.none _ _))); intro vl w6 ho hb hg_ hnew_; clear hg_ hnew_; obtain ⟨Al, cl, el⟩ := Kd.R_slice ho; subst el; have HXL := ak (Kd.R_reads' ho).2.2; have HB6 := ak (below_step HB5.out hb); have a0 := ak (HA.out.below hb); clear ho hb)
    | (go_at_call 63; (with_reducible refine (knows_n a0.out _ _ [a] _ ?s0 ?s1 ?s2).mono ?_); (case s0 => rfl); (case s1 => exact HXL.out); (case s2 => simp); rw [HK.out]; rintro e w7 ⟨rfl, hD⟩; obtain ⟨nd, rfl⟩ := hD; skip))
   go_ret
   exact ⟨(by unfold notF; rw [if_neg (fun q => by have k := HK.out; rw [q.2] at k; cases k)]; rfl), z1z_1⟩
 have HL := ak hl
 clear hl
 go_enter Try.func29, Try.ntmps29
 go_wp2_with (first
  | ((with_reducible refine gate_dst (N := 2) rfl ?_); refine bx_ (N := 2) (cs := #[.slice Au u.length cu, .slice An nt.length cn]) (t := 26) ?_; intro gb hg w4 hbox hb; have hc0 : w4.cell? ⟨gb, 0, none⟩ = some (.slice Au u.length cu) := (blk_cell hbox 0).trans rfl; have hc1 : w4.cell? ⟨gb, 1, none⟩ = some (.slice An nt.length cn) := (blk_cell hbox 1).trans rfl; have HB4 := ak hb; clear hb hg hbox)
  | (go_at_call 56; (with_reducible refine (told_none _ _ u _ _ nt _ ?s1 ?s2 ?s3 ?s4 HL.out).mono ?_); (case s1 => repeat (first | exact (Kd.C_below HU.out HB4.out) | (with_reducible refine Kd.C_alloc ?_ _) | (with_reducible refine Kd.C_drewN ?_ _) | (with_reducible refine Kd.C_drew ?_))); (case s2 => exact HC.out); (case s3 => repeat (first | exact (Kd.C_below HN.out HB4.out) | (with_reducible refine Kd.C_alloc ?_ _) | (with_reducible refine Kd.C_drewN ?_ _) | (with_reducible refine Kd.C_drew ?_))); (case s4 => exact HCN.out); rintro e w5 ⟨rfl, hD⟩; have HB5 := ak (below_step HB4.out hD); clear hD)
  | (go_at_call 63; (with_reducible refine (knows_nil _ _).mono ?_); rintro e w6 ⟨rfl, hD⟩; obtain ⟨nd, rfl⟩ := hD))
 go_ret
 exact ⟨(by unfold notF; rw [if_neg (fun q => HL.out q.1)]; rfl), z1z_0⟩
end Go.Proofs.Ytjgfpiilfnchnaa.P

