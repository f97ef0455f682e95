import Derived.Test.YtlkibgccgkhdmaaM4
import Derived.Test.YtlkibgccgkhdmaaPk9
import Derived.Test.YtlkibgccgkhdmaaLu
import Derived.Test.YtlkibgccgkhdmaaFImplCommon
namespace Go.Proofs.Ytlkibgccgkhdmaa.P
open Go.RowKit Go.Proofs.YtlkibgccgkhdmaaW.PrintWords Go.Proofs.YtlkibgccgkhdmaaW.PrintLast Go.Proofs.YtlkibgccgkhdmaaW.PrintMore Go.Proofs.Cl
set_option linter.unusedVariables false
set_option linter.unusedSimpArgs false
structure AgSt (u : List (List Int)) (nt : List Int) (g Bg Bo gr cc : Nat) (w W : World) (i j : Nat) : Prop where
  below : Below w.heap.size w W
  bg : W.heap[Bg]? = some (.cells #[.pointer (some ⟨g, 0, none⟩)] 52 (0, 0))
  bo : W.heap[Bo]? = some (.cells #[.slice (some ⟨gr, 0, none⟩) u.length cc] 23 (0, 0))
  row : Kd.R (Kd.int .i64) 3 W w.heap.size (fun _ => True) (.slice (some ⟨gr, 0, none⟩) u.length cc) (Q.agX u nt i j)
theorem AgSt.drewN {u : List (List Int)} {nt : List Int} {g Bg Bo gr cc : Nat} {w W : World} {i j : Nat} (h : AgSt u nt g Bg Bo gr cc w W i j) (n : Nat) : AgSt u nt g Bg Bo gr cc w (W.drewN n) i j :=
  ⟨pw_below_drewN h.below n, blk_drewN h.bg n, blk_drewN h.bo n, Kd.R_drewN h.row n⟩
set_option maxHeartbeats 8000000 in
set_option maxRecDepth 100000 in
theorem agreeing1 {w wr : World} {g Bg Bo gr cc : Nat} {u : List (List Int)} {nt : List Int} {no yes : Int} (h : AlgAt w g u (mtab u) (jtab u) nt no yes) (hl : OL u nt) {i j : Nat} (hi : i < u.length) (hj : j < u.length) (G : AgSt u nt g Bg Bo gr cc w wr i j) :
    Calls Try.prog 99 #[.int .i64 i, .int .i64 j, .pointer (some ⟨Bg, 0, none⟩), .pointer (some ⟨Bo, 0, none⟩)] wr fun e w' => e = .returned (.bool true) ∧ AgSt u nt g Bg Bo gr cc w w' i (j + 1) := by
  have HA := Aside0.mk (h.below G.below)
  have HL := Aside0.mk hl
  have h12 := hl.1.1.le12
  have HI := Aside0.mk (show (0 ≤ (i : Int) ∧ (i : Int) < u.length) ∧ (0 ≤ (j : Int) ∧ (j : Int) < u.length) from ⟨⟨by omega, by omega⟩, ⟨by omega, by omega⟩⟩)
  have hq : wr.cell? ⟨Bg, 0, none⟩ = some (.pointer (some ⟨g, 0, none⟩)) := (blk_cell G.bg 0).trans rfl
  have hi1 : (i : Int) < (u.length : Int) := by omega
  have HG := Aside0.mk G
  clear h hl G
  by_cases k : Q.agP u nt i j
  · have HK : Aside0 (decide (withB u nt i j ∧ withB u nt j i) = true) := ⟨decide_eq_true k⟩
    have HY := Aside0.mk (Q.agX_yes hi hj k)
    have f0 : wr.cell? ⟨Bo, 0, none⟩ = some (.slice (some ⟨gr, 0, none⟩) u.length cc) := (blk_cell HG.out.bo 0).trans rfl
    obtain ⟨hc0, hf0⟩ := Kd.R_celln 0 HG.out.row (i : Int) (by omega) hi1
    rw [Int.toNat_natCast] at hc0 hf0
    have e0 : rdOf 0 (Q.agX u nt i j) (i : Int) = (Q.agN u nt i j i : Int) := Q.agX_rd hi
    rw [e0] at hc0
    have f1 : wr.cell? ⟨gr, i, none⟩ = some (.int .i64 (Q.agN u nt i j i : Int)) := hc0
    have HGR : Aside0 (w.heap.size ≤ gr) := ⟨Kd.R_base HG.out.row gr rfl⟩
    have HE : Aside0 (Go.bits .or .i64 (Q.agN u nt i j i : Int) (wrap64 ((2 : Int) ^ j)) = ((Q.agN u nt i j i ||| 2 ^ j : Nat) : Int)) := ⟨by rw [Q.wrap_pow (by omega)]; exact (Q.or_set h12 (mkN_lt _ _) (Q.pow_in hj)).1⟩
    clear k e0
    go_enter Try.func99, Try.ntmps99
    go_wp2_with (go_at_call 64; (with_reducible refine (both_calls HA.out HL.out HI.out.1 HI.out.2).mono ?_); rw [HK.out]; rintro e w2 ⟨rfl, ⟨nd, rfl⟩⟩)
    refine start_ (n := 9) (S := fun w' => w'.cell? ⟨Bo, 0, none⟩ = some (.slice (some ⟨gr, 0, none⟩) u.length cc) ∧ w'.cell? ⟨gr, i, none⟩ = some (.int .i64 (Q.agN u nt i j i : Int))) (ds := [8]) #[false, false, false, false, false, false, false, false, false] (by kernel_rfl) rfl rfl ⟨f0, f1⟩ (fun hHeld => ?_)
    refine take_ (i := 0) (N := some 11) (v := ?_) (a' := ?_) #[true, false, false, false, false, false, false, false, false] rfl rfl (by kernel_rfl) (fun _ _ _ h => h) (Or.inl ⟨by rfl, ?_⟩) hHeld ?_ ?_
    rotate_left
    · rintro w' ⟨s0, s1⟩
      go_simp
      with_reducible rfl
    rotate_left
    · simp only [Act.put, List.setIfInBounds_toArray, List.set_cons_zero, List.set_cons_succ, i64_w, i32_w]
      rfl
    refine pure_ (i := 1) (N := some 12) (v := ?_) (a' := ?_) #[true, true, false, false, false, false, false, false, false] rfl rfl (by kernel_rfl) (fun _ _ _ h => h) (Or.inl ⟨by rfl, ?_⟩) ?_ ?_
    rotate_left
    · intro w'
      go_simp
      with_reducible rfl
    rotate_left
    · simp only [Act.put, List.setIfInBounds_toArray, List.set_cons_zero, List.set_cons_succ, i64_w, i32_w]
      rfl
    refine pure_ (i := 2) (N := some 13) (v := ?_) (a' := ?_) #[true, true, true, false, false, false, false, false, false] rfl rfl (by kernel_rfl) (fun _ _ _ h => h) (Or.inl ⟨by rfl, ?_⟩) ?_ ?_
    rotate_left
    · intro w'
      go_simp
      with_reducible rfl
    rotate_left
    · simp only [Act.put, List.setIfInBounds_toArray, List.set_cons_zero, List.set_cons_succ, i64_w, i32_w]
      rfl
    refine take_ (i := 3) (N := some 14) (v := ?_) (a' := ?_) #[true, true, true, true, false, false, false, false, false] rfl rfl (by kernel_rfl) (fun _ _ _ h => h) (Or.inl ⟨by rfl, ?_⟩) hHeld ?_ ?_
    rotate_left
    · rintro w' ⟨s0, s1⟩
      go_simp
      with_reducible rfl
    rotate_left
    · simp only [Act.put, List.setIfInBounds_toArray, List.set_cons_zero, List.set_cons_succ, i64_w, i32_w]
      rfl
    refine pure_ (i := 4) (N := some 15) (v := ?_) (a' := ?_) #[true, true, true, true, true, false, false, false, false] rfl rfl (by kernel_rfl) (fun _ _ _ h => h) (Or.inl ⟨by rfl, ?_⟩) ?_ ?_
    rotate_left
    · intro w'
      go_simp
      with_reducible rfl
    rotate_left
    · simp only [Act.put, List.setIfInBounds_toArray, List.set_cons_zero, List.set_cons_succ, i64_w, i32_w]
      rfl
    refine pure_ (i := 5) (N := some 16) (v := ?_) (a' := ?_) #[true, true, true, true, true, true, false, false, false] rfl rfl (by kernel_rfl) (fun _ _ _ h => h) (Or.inl ⟨by rfl, ?_⟩) ?_ ?_
    rotate_left
    · intro w'
      go_simp
      with_reducible rfl
    rotate_left
    · simp only [Act.put, List.setIfInBounds_toArray, List.set_cons_zero, List.set_cons_succ, i64_w, i32_w]
      rfl
    refine pure_ (i := 6) (N := some 17) (v := ?_) (a' := ?_) #[true, true, true, true, true, true, true, false, false] rfl rfl (by kernel_rfl) (fun _ _ _ h => h) (Or.inl ⟨by rfl, ?_⟩) ?_ ?_
    rotate_left
    · intro w'
      go_simp
      with_reducible rfl
    rotate_left
    · simp only [Act.put, List.setIfInBounds_toArray, List.set_cons_zero, List.set_cons_succ, i64_w, i32_w]
      rfl
    refine pure_ (i := 7) (N := some 18) (v := ?_) (a' := ?_) #[true, true, true, true, true, true, true, true, false] rfl rfl (by kernel_rfl) (fun _ _ _ h => h) (Or.inl ⟨by rfl, ?_⟩) ?_ ?_
    rotate_left
    · intro w'
      go_simp
      with_reducible rfl
    rotate_left
    · simp only [Act.put, List.setIfInBounds_toArray, List.set_cons_zero, List.set_cons_succ, i64_w, i32_w]
      rfl
    have hs2 := hc0
    have hz2 := hf0
    refine last_ (i := 8) (N := none) #[true, true, true, true, true, true, true, true, true] rfl rfl (by kernel_rfl) (by decide) (fun K hK => ?_)
    refine skip_ (w1 := ?_) (by rfl) rfl ?_ ?_
    rotate_left
    · go_simp
      rfl
    refine hK.out _ _ ?_
    clear hK K
    refine done_ (by kernel_rfl) ?_
    go_wp2
    go_ret
    refine ⟨rfl, ?_⟩
    rw [HE.out]
    have hp := (Kd.R_putg (Kd.R_drewN HG.out.row (nd + 1)) (i : Int) ((Q.agN u nt i j i ||| 2 ^ j : Nat) : Int)).1
    rw [Int.toNat_natCast, HY.out] at hp
    have hgb : ∀ (b t : Nat) (cs : Array Value), wr.heap[b]? = some (.cells cs t (0, 0)) → 3 ≠ t → b ≠ gr := fun b t cs hb ht e => Kd.R_ne HG.out.row hb ht (by rw [e]; rfl)
    exact ⟨below_set (pw_below_drewN HG.out.below (nd + 1)) HGR.out, blk_far (blk_drewN HG.out.bg (nd + 1)) (hgb _ _ _ HG.out.bg (by decide)) _, blk_far (blk_drewN HG.out.bo (nd + 1)) (hgb _ _ _ HG.out.bo (by decide)) _, hp⟩
  · have HK : Aside0 (decide (withB u nt i j ∧ withB u nt j i) = false) := ⟨decide_eq_false k⟩
    have HY := Aside0.mk (Q.agX_no k)
    clear k
    go_enter Try.func99, Try.ntmps99
    go_wp2_with (go_at_call 64; (with_reducible refine (both_calls HA.out HL.out HI.out.1 HI.out.2).mono ?_); rw [HK.out]; rintro e w2 ⟨rfl, ⟨nd, rfl⟩⟩)
    go_ret
    have q := HG.out.drewN nd
    exact ⟨rfl, q.below, q.bg, q.bo, by rw [← HY.out]; exact q.row⟩
set_option maxHeartbeats 4000000 in
set_option maxRecDepth 100000 in
theorem agreeing_every {w W : World} {g Bg Bo gr cc : Nat} {u : List (List Int)} {nt : List Int} {no yes : Int} (h : AlgAt w g u (mtab u) (jtab u) nt no yes) (hl : OL u nt) (G : AgSt u nt g Bg Bo gr cc w W 0 0) :
    Calls Try.prog 56 #[.pointer (some ⟨g, 0, none⟩), .func (.func 99) #[] #[.pointer (some ⟨Bg, 0, none⟩), .pointer (some ⟨Bo, 0, none⟩)]] W fun e w'' => e = .returned (.bool true) ∧ AgSt u nt g Bg Bo gr cc w w'' u.length 0 := by
  obtain ⟨Bu, bu, _, _, _, _, _, _, hz, _⟩ := id h
  refine (every_inv (g := g) (n := u.length) (c := bu) (A := Bu) 99 _ (enters_of Try.func99 (by kernel_rfl) rfl) (fun i j W => AgSt u nt g Bg Bo gr cc w W i j) (fun _ => False) ?_ (by have := hl.1.1.2.1; omega) G ?_ (fun i j w2 hi hj J => by rw [show (#[Value.int .i64 (i : Int), .int .i64 (j : Int)] ++ #[Value.pointer (some ⟨Bg, 0, none⟩), .pointer (some ⟨Bo, 0, none⟩)] : Array Value) = #[.int .i64 i, .int .i64 j, .pointer (some ⟨Bg, 0, none⟩), .pointer (some ⟨Bo, 0, none⟩)] from by simp]; exact (agreeing1 h hl hi hj J).mono fun e w3 k => ⟨true, k.1, fun _ => k.2, fun q => by cases q⟩)).mono ?_
  · rintro i j w2 J
    exact (blk_cell (blk_below hz J.below) 0).trans rfl
  · rintro i w2 hi ⟨a, b, c, d⟩
    exact ⟨a, b, c, by rw [← Q.agX_row]; exact d⟩
  · rintro e w2 (⟨rfl, hP⟩ | ⟨_, hF⟩)
    · exact ⟨rfl, hP⟩
    · exact hF.elim
set_option maxHeartbeats 8000000 in
set_option maxRecDepth 100000 in
theorem agreeing_calls {w : World} {g : Nat} {u : List (List Int)} {nt : List Int} {no yes : Int} (h : AlgAt w g u (mtab u) (jtab u) nt no yes) (hl : OL u nt) :
    Calls Try.prog 70 #[.pointer (some ⟨g, 0, none⟩)] w fun e w' => ∃ v, e = .returned v ∧ Kd.R (Kd.int .i64) 3 w' w.heap.size (fun _ => True) v (Q.agL u nt) ∧ Below w.heap.size w w' := by
  have h12 := hl.1.1.le12
  have hpos := hl.1.1.pos
  have HL := Aside0.mk hl
  have HA := Aside0.mk h
  clear hl
  obtain ⟨Bu, bu, _, _, _, _, _, _, hz, _⟩ := h
  have HZ := Aside0.mk hz
  clear hz
  go_enter Try.func70, Try.ntmps70
  go_wp2_with (first
    | ((with_reducible refine gate_dst (N := 1) rfl ?_); refine box_event ?hg (N := 1) ?hd (cs := #[.pointer (some ⟨g, 0, none⟩)]) (t := 52) ?hr ?_; (case hd => rfl); (case hg => rfl); (case hr => first | (go_simp; done) | (go_simp; rfl)); intro Bg hg w1 hbox hb; have HG1 := Aside0.mk hbox; have HB1 := Aside0.mk hb; have hq1 : w1.cell? ⟨Bg, 0, none⟩ = some (.pointer (some ⟨g, 0, none⟩)) := (blk_cell hbox 0).trans rfl; have hq2 : w1.cell? ⟨g, 0, none⟩ = some (.slice Bu u.length bu) := (blk_cell (blk_below HZ.out hb) 0).trans rfl; clear hb hg hbox)
    | ((with_reducible refine gate_dst (N := 9) rfl ?_); refine Kd.R_make (Kd.int .i64) _ 3 rfl (N := 9) rfl 23 _ _ rfl (u.length : Int) rfl rfl Try.underlying23 (.int .i64 0) 8 info3 rfl (by decide) (by omega) 0 (ok := fun _ => True) (okp := fun _ => True) rfl (fun _ hk => hk) trivial (by omega) (by omega) (Below.refl _ _) (Nat.le_refl _) ?_; intro v9 w4 ho hb hg_ hnew_; clear hg_ hnew_; rw [Int.toNat_natCast] at ho; have HB4 := Aside0.mk (below_step HB1.out hb); have HG4 := Aside0.mk (blk_below HG1.out hb); have HO4 := Aside0.mk (Kd.R_lower ho (below_size HB1.out)); clear ho hb; obtain ⟨gr, cc, e9, hgr, hlr, clr, hcr⟩ := Kd.R_form HO4.out (by simp; omega); rw [List.length_replicate] at e9; subst e9; clear hgr hlr hcr)
    | ((with_reducible refine gate_dst (N := 3) rfl ?_); refine box_event ?hg (N := 3) ?hd (cs := #[.slice none 0 0]) (t := 23) ?hr ?_; (case hd => rfl); (case hg => rfl); (case hr => first | (go_simp; done) | (go_simp; rfl)); intro Bo hg w5 hbox hb; have HB5 := Aside0.mk (below_step HB4.out hb); have HG5 := Aside0.mk (blk_below HG4.out hb); have HO5 := Aside0.mk (Kd.R_below HO4.out hb); have HX5 := Aside0.mk hbox; have HGE5 : Aside0 (w.heap.size ≤ Bo) := ⟨by rw [hg]; exact below_size HB4.out⟩; have HNE5 : Aside0 (Bg ≠ Bo) := ⟨by have := blk_lt HG4.out; omega⟩; have hne := HNE5.out; have hr5 : w5.cell? ⟨Bo, 0, none⟩ = some (.slice none 0 0) := (blk_cell hbox 0).trans rfl; have hz5 := blk_frozen hbox 0; have hq5 : w5.cell? ⟨Bg, 0, none⟩ = some (.pointer (some ⟨g, 0, none⟩)) := (blk_cell HG5.out 0).trans rfl; clear hb hg hbox)
    | (go_at_call 56; (with_reducible refine (agreeing_every (w := w) (g := g) (Bg := Bg) (Bo := Bo) (gr := gr) (cc := cc) HA.out HL.out ?s1).mono ?_); (case s1 => exact ⟨below_set HB5.out HGE5.out, blk_far HG5.out HNE5.out _, blk_put HX5.out 0 _ rfl, by rw [Q.agX_zero]; exact Kd.R_set HO5.out HX5.out (by decide) 0 _⟩); rintro e w6 ⟨rfl, J⟩; have HJ := Aside0.mk J; have hr6 : w6.cell? ⟨Bo, 0, none⟩ = some (.slice (some ⟨gr, 0, none⟩) u.length cc) := (blk_cell J.bo 0).trans rfl; clear J))
  go_ret
  exact ⟨_, rfl, HJ.out.row, HJ.out.below⟩
set_option maxHeartbeats 4000000 in
set_option maxRecDepth 100000 in
theorem agreeOk_core (Au : Option Addr) (cu : Nat) (u : List (List Int)) (An : Option Addr) (cn : Nat) (nt : List Int) (s : Int) (w : World)
    (hu : Kd.C (Kd.slice 3 (Kd.int .i64)) w Au u.length u) (hcu : u.length ≤ cu) (hn : Kd.C (Kd.int .i64) w An nt.length nt) (hcn : nt.length ≤ cn) :
    Calls Try.prog 29 #[.agg #[.slice Au u.length cu, .slice An nt.length cn], .int .i64 s] w fun e w' => e = .returned (.bool (agreeF u nt s)) ∧ Below w.heap.size w w' := by
  have hul := Try.underlying29
  have HU := Aside0.mk hu
  have HC := Aside0.mk hcu
  have HN := Aside0.mk hn
  have HCN := Aside0.mk hcn
  clear hu hcu hn hcn
  by_cases hl : OL u nt
  · have HL := Aside0.mk hl
    have h12 := hl.1.1.le12
    cases hk : isSetB u.length s with
    | true =>
      obtain ⟨S, rfl, hS, hS0⟩ := Q.set_of hk
      obtain ⟨kc, hkc⟩ := Ev.get (Q.common_ev hl hS)
      have HC8 := Aside0.mk hkc
      have HK := Aside0.mk hk
      have HS := Aside0.mk hS
      clear hk hS hl hkc
      go_enter Try.func29, Try.ntmps29
      go_wp2_with (first
        | ((with_reducible refine gate_dst (N := 2) rfl ?_); refine box_event ?hg (N := 2) ?hd (cs := #[.slice Au u.length cu, .slice An nt.length cn]) (t := 29) ?hr ?_; (case hd => rfl); (case hg => rfl); (case hr => first | (go_simp; done) | (go_simp; rfl)); intro gb hg w4 hbox hb; have hc0 : w4.cell? ⟨gb, 0, none⟩ = some (.slice Au u.length cu) := (blk_cell hbox 0).trans rfl; have hc1 : w4.cell? ⟨gb, 1, none⟩ = some (.slice An nt.length cn) := (blk_cell hbox 1).trans rfl; have HB4 := Aside0.mk hb; clear hb hg hbox)
        | (go_at_call 53; (with_reducible refine (told_some _ _ u _ _ nt _ ?s1 ?s2 ?s3 ?s4 HL.out).mono ?_); (case s1 => repeat (first | exact (Kd.C_below HU.out HB4.out) | (with_reducible refine Kd.C_alloc ?_ _) | (with_reducible refine Kd.C_drewN ?_ _) | (with_reducible refine Kd.C_drew ?_))); (case s2 => exact HC.out); (case s3 => repeat (first | exact (Kd.C_below HN.out HB4.out) | (with_reducible refine Kd.C_alloc ?_ _) | (with_reducible refine Kd.C_drewN ?_ _) | (with_reducible refine Kd.C_drew ?_))); (case s4 => exact HCN.out); rintro e w5 ⟨g, rfl, hge, hAl, hD⟩; have HB5 := Aside0.mk (below_step HB4.out hD); have HA := Aside0.mk hAl; clear hD hge hAl; skip)
        | (go_at_call 68; (with_reducible refine (isSet_calls HA.out h12 _).mono ?_); rw [HK.out]; rintro e w6 ⟨rfl, hD⟩; obtain ⟨nd, rfl⟩ := hD)
        | (go_at_call 70; (with_reducible refine (agreeing_calls (HA.out.drewN nd) HL.out).mono ?_); rintro e w7 ⟨v7, rfl, ho, hb⟩; have HB7 := Aside0.mk (below_step (pw_below_drewN HB5.out nd) hb); have HO7 := Aside0.mk ho; clear hb ho; obtain ⟨A7, c7, e7⟩ := Kd.R_slice HO7.out; subst e7)
        | (go_at_call 69; (with_reducible refine (impl_common.calls kc _ _ (Q.agL u nt) (S : Int) (Q.comN u nt S u.length : Int) _ ?t1 ?t2 HC8.out).mono ?_); (case t1 => exact (Kd.R_reads' HO7.out).2.2); (case t2 => exact (Kd.R_reads' HO7.out).2.1); rintro e w8 ⟨rfl, hD⟩; obtain ⟨nd8, rfl⟩ := hD))
      go_ret
      exact ⟨by rw [Q.agree_eq HL.out HS.out HK.out]; rfl, (by repeat (first | exact HB7.out | (with_reducible first | apply below_alloc | apply pw_below_drewN | apply below_drew1)))⟩
    | false =>
      have HK := Aside0.mk hk
      clear hk hl
      go_enter Try.func29, Try.ntmps29
      go_wp2_with (first
        | ((with_reducible refine gate_dst (N := 2) rfl ?_); refine box_event ?hg (N := 2) ?hd (cs := #[.slice Au u.length cu, .slice An nt.length cn]) (t := 29) ?hr ?_; (case hd => rfl); (case hg => rfl); (case hr => first | (go_simp; done) | (go_simp; rfl)); intro gb hg w4 hbox hb; have hc0 : w4.cell? ⟨gb, 0, none⟩ = some (.slice Au u.length cu) := (blk_cell hbox 0).trans rfl; have hc1 : w4.cell? ⟨gb, 1, none⟩ = some (.slice An nt.length cn) := (blk_cell hbox 1).trans rfl; have HB4 := Aside0.mk hb; clear hb hg hbox)
        | (go_at_call 53; (with_reducible refine (told_some _ _ u _ _ nt _ ?s1 ?s2 ?s3 ?s4 HL.out).mono ?_); (case s1 => repeat (first | exact (Kd.C_below HU.out HB4.out) | (with_reducible refine Kd.C_alloc ?_ _) | (with_reducible refine Kd.C_drewN ?_ _) | (with_reducible refine Kd.C_drew ?_))); (case s2 => exact HC.out); (case s3 => repeat (first | exact (Kd.C_below HN.out HB4.out) | (with_reducible refine Kd.C_alloc ?_ _) | (with_reducible refine Kd.C_drewN ?_ _) | (with_reducible refine Kd.C_drew ?_))); (case s4 => exact HCN.out); rintro e w5 ⟨g, rfl, hge, hAl, hD⟩; have HB5 := Aside0.mk (below_step HB4.out hD); have HA := Aside0.mk hAl; clear hD hge hAl; skip)
        | (go_at_call 68; (with_reducible refine (isSet_calls HA.out h12 _).mono ?_); rw [HK.out]; rintro e w6 ⟨rfl, hD⟩; obtain ⟨nd, rfl⟩ := hD))
      go_ret
      exact ⟨by unfold agreeF; rw [HK.out, decide_eq_false (fun q => Bool.false_ne_true q.2.1)]; rfl, (by repeat (first | exact HB5.out | (with_reducible first | apply below_alloc | apply pw_below_drewN | apply below_drew1)))⟩
  · have HL := Aside0.mk hl
    clear hl
    go_enter Try.func29, Try.ntmps29
    go_wp2_with (first
      | ((with_reducible refine gate_dst (N := 2) rfl ?_); refine box_event ?hg (N := 2) ?hd (cs := #[.slice Au u.length cu, .slice An nt.length cn]) (t := 29) ?hr ?_; (case hd => rfl); (case hg => rfl); (case hr => first | (go_simp; done) | (go_simp; rfl)); intro gb hg w4 hbox hb; have hc0 : w4.cell? ⟨gb, 0, none⟩ = some (.slice Au u.length cu) := (blk_cell hbox 0).trans rfl; have hc1 : w4.cell? ⟨gb, 1, none⟩ = some (.slice An nt.length cn) := (blk_cell hbox 1).trans rfl; have HB4 := Aside0.mk hb; clear hb hg hbox)
      | (go_at_call 53; (with_reducible refine (told_none _ _ u _ _ nt _ ?s1 ?s2 ?s3 ?s4 HL.out).mono ?_); (case s1 => repeat (first | exact (Kd.C_below HU.out HB4.out) | (with_reducible refine Kd.C_alloc ?_ _) | (with_reducible refine Kd.C_drewN ?_ _) | (with_reducible refine Kd.C_drew ?_))); (case s2 => exact HC.out); (case s3 => repeat (first | exact (Kd.C_below HN.out HB4.out) | (with_reducible refine Kd.C_alloc ?_ _) | (with_reducible refine Kd.C_drewN ?_ _) | (with_reducible refine Kd.C_drew ?_))); (case s4 => exact HCN.out); rintro e w5 ⟨rfl, hD⟩; have HB5 := Aside0.mk (below_step HB4.out hD); clear hD)
      | (go_at_call 68; (with_reducible refine (isSet_nil _ _).mono ?_); rintro e w6 ⟨rfl, hD⟩; obtain ⟨nd, rfl⟩ := hD))
    go_ret
    exact ⟨by unfold agreeF; rw [decide_eq_false (fun q => HL.out q.1)]; rfl, (by repeat (first | exact HB5.out | (with_reducible first | apply below_alloc | apply pw_below_drewN | apply below_drew1)))⟩
end Go.Proofs.Ytlkibgccgkhdmaa.P

