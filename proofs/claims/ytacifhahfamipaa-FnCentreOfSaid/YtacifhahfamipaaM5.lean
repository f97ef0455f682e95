import Derived.Test.YtacifhahfamipaaPk2
import Derived.Test.YtacifhahfamipaaPk6
import Derived.Test.YtacifhahfamipaaPk5
import Derived.Deep.RegionWith
namespace Go.Proofs.Ytacifhahfamipaa.P
open Go.RowKit Go.Proofs.YtacifhahfamipaaW.PrintWords Go.Proofs.YtacifhahfamipaaW.PrintLast Go.Proofs.YtacifhahfamipaaW.PrintMore Go.Proofs.Cl
set_option linter.unusedVariables false
set_option linter.unusedSimpArgs false
theorem filt_succ (P : Nat → Bool) (i : Nat) : castL ((List.range (i + 1)).filter P) = castL ((List.range i).filter P) ++ (if P i = true then [(i : Int)] else []) := by
 unfold castL
 rw [List.range_succ, List.filter_append, List.map_append]
 by_cases h : P i = true <;> simp [h]
theorem filt_len (P : Nat → Bool) (i : Nat) : (castL ((List.range i).filter P)).length ≤ i := by
 unfold castL
 rw [List.length_map]
 exact Nat.le_trans (List.length_filter_le _ _) (by simp)
theorem filt_all (P : Nat → Bool) (n : Nat) : (((castL ((List.range n).filter P)).length : Int) == (n : Int)) = decide (∀ i, i < n → P i = true) := by
 rw [Bool.eq_iff_iff, beq_iff_eq, decide_eq_true_iff]
 unfold castL
 rw [List.length_map]
 constructor
 ·
  intro h i hi
  have e : (List.range n).filter P = List.range n := by
   refine List.Sublist.eq_of_length List.filter_sublist ?_
   rw [List.length_range]
   omega
  have := List.filter_eq_self.1 e i (List.mem_range.2 hi)
  exact this
 intro h
 rw [List.filter_eq_self.2 (fun i hi => h i (List.mem_range.1 hi)), List.length_range]
set_option maxHeartbeats 8000000 in
set_option maxRecDepth 100000 in
theorem all_calls {w : World} {g : Nat} {u a o : List (List Int)} {nt : List Int} {no yes : Int} (h : AlgAt w g u a o nt no yes) (hn : u.length ≤ 12) (k : Nat) (cap : Array Value) (hk : Enters Try.prog k) (P : Nat → Bool)
 (hF : ∀ w' (i : Nat), Below w.heap.size w w' → i < u.length → Calls Try.prog k (#[.int .i64 i] ++ cap) w' fun e w2 => e = .returned (.bool (P i)) ∧ Below w'.heap.size w' w2) :
 Calls Try.prog 86 #[.pointer (some ⟨g, 0, none⟩), .func (.func k) #[] cap] w fun e w' => ∃ v, e = .returned v ∧ Kd.R (Kd.int .i64) 3 w' w.heap.size (fun _ => True) v (castL ((List.range u.length).filter P)) ∧ Below w.heap.size w w' := by
 have eg : ∀ (args : Array Value) (w : World), (callFunc k args).run Try.prog w = .ok (.enter k args) w := hk
 have HF := ak hF
 obtain ⟨Bu, bu, _, _, _, _, _, _, hz, _⟩ := h
 have HZ := ak hz
 have hq0 : w.cell? ⟨g, 0, none⟩ = some (.slice Bu u.length bu) := (blk_cell hz 0).trans rfl
 clear hF hk hz
 go_enter Try.func86, Try.ntmps86
 go_wp2_with ((with_reducible refine gate_dst (N := 7) rfl ?_); refine Kd.R_lit (Kd.int .i64) _ 3 ?hg (N := 7) ?hd (xs := ([] : List Int)) (inner := []) (ok := fun _ => True) (okp := fun _ => True) ?hr ?hp (fun _ hk => hk) trivial (Below.refl _ _) (Nat.le_refl _) (by simp) ?_; (case hd => rfl); (case hg => rfl); (case hr => first | (go_simp; done) | (go_simp; rfl)); (case hp => exact (Reps.none _ _)); intro v5 w1 ho hb hg_ hnew_; clear hg_ hnew_; have HO := ak ho; have HB := ak hb; have hq1 : w1.cell? ⟨g, 0, none⟩ = some (.slice Bu u.length bu) := (blk_cell (blk_below HZ.out hb) 0).trans rfl; clear ho hb hq0)
 go_loopw [13, 5] (fun a1 v5 wr => ∃ i : Nat, i ≤ u.length ∧ a1 = .int .i64 i ∧ Aside0 (Kd.R (Kd.int .i64) 3 wr w.heap.size (fun _ => True) v5 (castL ((List.range i).filter P))) ∧ Aside0 (Below w.heap.size w wr)) (fun a1 _ _ => u.length - (intOf a1).toNat)
 case atStart => exact ⟨0, Nat.zero_le _, rfl, HO, HB⟩
 case round =>
  clear HO HB hq1
  obtain ⟨i, hi, rfl, HO, HB⟩ := hrel
  by_cases hlt : i < u.length
  ·
   have HL := ak (filt_len P i)
   cases hP : P i with
   | true =>
    have HP := ak hP
    clear hP
    go_wp2_with (first
     | (go_at_fn k; (with_reducible refine (HF.out _ i HB.out hlt).mono ?_); rw [HP.out]; rintro e w2 ⟨rfl, hb⟩; have HB2 := ak (below_step HB.out hb); have a0 := ak (Kd.R_below HO.out hb); clear hb HB HO)
     | ((with_reducible refine gate_builtin (b := .append) (xs := #[.tmp 19, .tmp 21]) rfl ?_); at_builtin; refine Kd.R_append (Kd.int .i64) (w0 := w) w.heap.size rfl (.tmp 19) (.tmp 21) 25 3 (.int .i64 0) 8 rfl Try.underlying25 info3 rfl (by decide) (by omega) u5 (castL ((List.range i).filter P)) i [.int .i64 (i : Int)] (fun _ => True) (fun _ => False) rfl rfl rfl (fun _ hk => hk.elim) (fun _ _ => trivial) a0.out HB2.out (below_size HB2.out) (by have := HL.out; omega) ?_; intro v1 w3 ho hb hg hat; have HB3 := ak hb; have a4 := ak ho; clear hb ho hg hat))
    go_roundw
    case rel => exact ⟨i + 1, (by omega), (by go_num), ⟨(by rw [filt_succ, if_pos HP.out]; exact a4.out)⟩, HB3⟩
    case measure => simp [intOf]; omega
   | false =>
    have HP := ak hP
    clear hP
    go_wp2_with (go_at_fn k; (with_reducible refine (HF.out _ i HB.out hlt).mono ?_); rw [HP.out]; rintro e w2 ⟨rfl, hb⟩; have HB2 := ak (below_step HB.out hb); have a0 := ak (Kd.R_below HO.out hb); clear hb HB HO)
    go_roundw
    case rel => exact ⟨i + 1, (by omega), (by go_num), ⟨(by rw [filt_succ, if_neg (by rw [HP.out]; simp), List.append_nil]; exact a0.out)⟩, HB2⟩
    case measure => simp [intOf]; omega
  have ei : i = u.length := by omega
  have a0 : Aside0 (Kd.R (Kd.int .i64) 3 wr w.heap.size (fun _ => True) u5 (castL ((List.range u.length).filter P))) := ⟨(by rw [← ei]; exact HO.out)⟩
  clear ei HO
  go_wp2
  go_ret
  exact ⟨_, rfl, a0.out, HB.out⟩
theorem drawn_below {w w' : World} (h : Drawn0 w w') : Below w.heap.size w w' := by
 obtain ⟨n, rfl⟩ := h
 exact pw_below_drewN (Below.refl _ _) n
set_option maxHeartbeats 4000000 in
set_option maxRecDepth 100000 in
theorem both_calls {w : World} {g : Nat} {u : List (List Int)} {nt : List Int} {no yes : Int} (h : AlgAt w g u (mtab u) (jtab u) nt no yes) (hl : OL u nt) {a b : Int} (ha : 0 ≤ a ∧ a < u.length) (hb : 0 ≤ b ∧ b < u.length) :
 Calls Try.prog 102 #[.pointer (some ⟨g, 0, none⟩), .int .i64 a, .int .i64 b] w fun e w' => e = .returned (.bool (decide (withB u nt a b ∧ withB u nt b a))) ∧ Drawn0 w w' := by
 have HA := ak h
 have HL := ak hl
 have HAB := ak (And.intro ha hb)
 clear h hl ha hb
 cases h1 : decide (withB u nt a b) with
 | false =>
  have H1 := ak h1
  clear h1
  go_enter Try.func102, Try.ntmps102
  go_wp2_with (go_at_call 115; (with_reducible first | refine (with_calls HA.out HL.out HAB.out.1 HAB.out.2).mono ?_ | refine (with_calls (HA.out.drewN _) HL.out HAB.out.1 HAB.out.2).mono ?_); rw [H1.out]; rintro e w2 ⟨rfl, ⟨n, rfl⟩⟩)
  go_ret
  exact ⟨(by rw [dF_ (fun q => of_decide_eq_false H1.out q.1)]; rfl), ⟨_, rfl⟩⟩
 | true =>
  have H1 := ak h1
  clear h1
  cases h2 : decide (withB u nt b a) with
  | false =>
   have H2 := ak h2
   clear h2
   go_enter Try.func102, Try.ntmps102
   go_wp2_with (first | (go_at_call 115; (with_reducible first | refine (with_calls HA.out HL.out HAB.out.1 HAB.out.2).mono ?_ | refine (with_calls (HA.out.drewN _) HL.out HAB.out.1 HAB.out.2).mono ?_); rw [H1.out]; rintro e w2 ⟨rfl, ⟨n, rfl⟩⟩) | (go_at_call 115; (with_reducible first | refine (with_calls HA.out HL.out HAB.out.2 HAB.out.1).mono ?_ | refine (with_calls (HA.out.drewN _) HL.out HAB.out.2 HAB.out.1).mono ?_); rw [H2.out]; rintro e w2 ⟨rfl, ⟨n, rfl⟩⟩))
   go_ret
   exact ⟨(by rw [dF_ (fun q => of_decide_eq_false H2.out q.2)]; rfl), ⟨_, rfl⟩⟩
  | true =>
   have H2 := ak h2
   clear h2
   go_enter Try.func102, Try.ntmps102
   go_wp2_with (first | (go_at_call 115; (with_reducible first | refine (with_calls HA.out HL.out HAB.out.1 HAB.out.2).mono ?_ | refine (with_calls (HA.out.drewN _) HL.out HAB.out.1 HAB.out.2).mono ?_); rw [H1.out]; rintro e w2 ⟨rfl, ⟨n, rfl⟩⟩) | (go_at_call 115; (with_reducible first | refine (with_calls HA.out HL.out HAB.out.2 HAB.out.1).mono ?_ | refine (with_calls (HA.out.drewN _) HL.out HAB.out.2 HAB.out.1).mono ?_); rw [H2.out]; rintro e w2 ⟨rfl, ⟨n, rfl⟩⟩))
   go_ret
   exact ⟨(by rw [dT_ ⟨oe_ H1.out, oe_ H2.out⟩]; rfl), ⟨_, rfl⟩⟩
def agB (u : List (List Int)) (nt : List Int) (a b : Nat) : Bool := decide (withB u nt a b ∧ withB u nt b a)
set_option maxHeartbeats 4000000 in
set_option maxRecDepth 100000 in
theorem cent11 {w : World} {g Bg Ba : Nat} {u : List (List Int)} {nt : List Int} {no yes : Int} (h : AlgAt w g u (mtab u) (jtab u) nt no yes) (hl : OL u nt) {a : Nat} (ha : a < u.length) {b : Nat} (hb : b < u.length) (bg : w.cell? ⟨Bg, 0, none⟩ = some (.pointer (some ⟨g, 0, none⟩))) (ba : w.cell? ⟨Ba, 0, none⟩ = some (.int .i64 a)) :
 Calls Try.prog 101 (#[.int .i64 b] ++ #[.pointer (some ⟨Bg, 0, none⟩), .pointer (some ⟨Ba, 0, none⟩)]) w fun e w' => e = .returned (.bool (agB u nt a b)) ∧ Drawn0 w w' := by
 have HA := ak h
 have HL := ak hl
 have HI := ak (show (0 ≤ (a : Int) ∧ (a : Int) < u.length) ∧ (0 ≤ (b : Int) ∧ (b : Int) < u.length) from ⟨⟨(by omega), (by omega)⟩, ⟨(by omega), (by omega)⟩⟩)
 clear h hl
 go_enter Try.func101, Try.ntmps101
 go_wp2_with (go_at_call 102; (with_reducible refine (both_calls HA.out HL.out HI.out.1 HI.out.2).mono ?_); rintro e w2 ⟨rfl, ⟨n, rfl⟩⟩)
 go_ret
 exact ⟨(by first | rfl | (unfold agB; rw [Bool.decide_and]; rfl)), ⟨_, rfl⟩⟩
set_option maxHeartbeats 8000000 in
set_option maxRecDepth 100000 in
theorem cent1 {w0 w : World} {g Bg : Nat} {u : List (List Int)} {nt : List Int} {no yes : Int} (h : AlgAt w0 g u (mtab u) (jtab u) nt no yes) (hl : OL u nt) (hw : Below w0.heap.size w0 w) (bg : w0.heap[Bg]? = some (.cells #[.pointer (some ⟨g, 0, none⟩)] 61 (0, 0))) {a : Nat} (ha : a < u.length) :
 Calls Try.prog 100 #[.int .i64 a, .pointer (some ⟨Bg, 0, none⟩)] w fun e w' => e = .returned (.bool (decide (∀ b, b < u.length → agB u nt a b = true))) ∧ Below w.heap.size w w' := by
 have h12 := hl.1.1.le12
 have HL := ak hl
 have HA := ak (h.below hw)
 have HG := ak (blk_below bg hw)
 have HB0 := ak (Below.refl w.heap.size w)
 clear h hl hw bg
 go_enter Try.func100, Try.ntmps100
 go_wp2_with ((with_reducible refine gate_dst (N := 2) rfl ?_); refine bx_ (N := 2) (cs := #[.int .i64 (a : Int)]) (t := 3) ?_; intro Ba hg w1 hbox hb; have HB1 := ak (below_step HB0.out hb); have HKa := ak hbox; clear hb hg hbox)
 have a2 := ak (HA.out.below HB1.out)
 have HG2 := ak (blk_below HG.out HB1.out)
 obtain ⟨Bu, bu, _, _, _, _, _, _, hz, _⟩ := a2.out
 have f0 : w1.cell? ⟨Bg, 0, none⟩ = some (.pointer (some ⟨g, 0, none⟩)) := (blk_cell HG2.out 0).trans rfl
 have f1 : w1.cell? ⟨g, 0, none⟩ = some (.slice Bu u.length bu) := (blk_cell hz 0).trans rfl
 have HZ := ak hz
 clear hz HG HA
 refine start_ (n := 11) (S := fun w' => w'.cell? ⟨Bg, 0, none⟩ = some (.pointer (some ⟨g, 0, none⟩)) ∧ w'.cell? ⟨g, 0, none⟩ = some (.slice Bu u.length bu)) (ds := []) (bA 11 0) (by kernel_rfl) rfl rfl ⟨f0, f1⟩ (fun hHeld => ?_)
 have HB8 := ak (below_drew1 HB1.out)
 have a3 := ak (a2.out.below (below_drew (Below.refl _ _)))
 have HG8 := ak (blk_drew HG2.out)
 have HZ8 := ak (blk_drew HZ.out)
 have H8a := ak (blk_drew HKa.out)
 clear a2 HG2 HZ f0 f1 HKa
 generalize w1.drew = wd at HB8 a3 HG8 HZ8 H8a hHeld ⊢
 refine tk_ (i := 0) (N := some 4) (bA 11 1) ?_
 refine pu_ (i := 1) (N := some 5) (bA 11 3) ?_
 refine tk_ (i := 4) (N := some 8) (bA 11 19) ?_
 refine pu_ (i := 5) (N := some 9) (bA 11 51) ?_
 refine pu_ (i := 6) (N := some 10) (bA 11 115) ?_
 refine tk_ (i := 7) (N := some 11) (bA 11 243) ?_
 refine pu_ (i := 8) (N := some 12) (bA 11 499) ?_
 refine one_ (i := 2) (N := some 6) (bA 11 503) rfl rfl (by kernel_rfl) (by decide) (fun K hK => ?_)
 refine ge_ Try.func86 #[.pointer (some ⟨g, 0, none⟩), .func (.func 101) #[] #[.pointer (some ⟨Bg, 0, none⟩), .pointer (some ⟨Ba, 0, none⟩)]] ?_
 with_reducible refine (all_calls a3.out h12 101 #[.pointer (some ⟨Bg, 0, none⟩), .pointer (some ⟨Ba, 0, none⟩)] (enters_of Try.func101 (by kernel_rfl) rfl) (fun b => agB u nt a b) (fun w' b hbw hb => (cent11 (a3.out.below hbw) HL.out ha hb ((blk_cell (blk_below HG8.out hbw) 0).trans rfl) ((blk_cell (blk_below H8a.out hbw) 0).trans rfl)).mono fun e w2 k => ⟨k.1, drawn_below k.2⟩)).mono ?_
 rintro e w' ⟨v9, rfl, ho, hb⟩
 obtain ⟨A9, c9, e9⟩ := Kd.R_slice ho
 subst e9
 have HB9 := ak (below_step HB8.out hb)
 have HZ9 := ak (blk_below HZ8.out hb)
 have HG9 := ak (blk_below HG8.out hb)
 clear ho hb
 refine ⟨_, rfl, ?_⟩
 refine hK.out _ _ ⟨(blk_cell HG9.out 0).trans rfl, (blk_cell HZ9.out 0).trans rfl⟩ (fun hHeld => ?_)
 clear hK K
 refine no_ (N := some 6) ?_
 refine pu_ (i := 3) (N := some 7) (bA 11 511) ?_
 refine pu_ (i := 9) (N := some 13) (bA 11 1023) ?_
 refine pu_ (i := 10) (N := some 3) (bA 11 2047) ?_
 refine done_ (by kernel_rfl) ?_
 go_wp2
 go_ret
 refine ⟨?_, HB9.out⟩
 have e := filt_all (fun b => agB u nt a b) u.length
 have e2 : decide (∀ i, i < u.length → (fun b => agB u nt a b) i = true) = decide (∀ b, b < u.length → agB u nt a b = true) := by first | rfl | exact decide_eq_decide.2 ⟨fun q i hi => oe_ (q i hi), fun q i hi => dT_ (q i hi)⟩
 have e3 := e.trans e2
 first | exact congrArg (fun b => Ending.returned (Value.bool b)) e3 | (rw [← e3]; rfl) | (simp only [← e3]; rfl)
theorem centre_eq (u : List (List Int)) (nt : List Int) (a : Nat) : centreB u nt a = decide (∀ b, b < u.length → agB u nt a b = true) :=
 decide_eq_decide.2 ⟨fun q b hb => dT_ (q b hb), fun q b hb => oe_ (q b hb)⟩
set_option maxHeartbeats 4000000 in
set_option maxRecDepth 100000 in
theorem centreOf_core (Au : Option Addr) (cu : Nat) (u : List (List Int)) (An : Option Addr) (cn : Nat) (nt : List Int) (w : World)
 (hu : Kd.C (Kd.slice 3 (Kd.int .i64)) w Au u.length u) (hcu : u.length ≤ cu) (hn : Kd.C (Kd.int .i64) w An nt.length nt) (hcn : nt.length ≤ cn) :
 Calls Try.prog 57 #[.agg #[.slice Au u.length cu, .slice An nt.length cn]] w fun e w' => ∃ v, e = .returned v ∧ Kd.R (Kd.int .i64) 3 w' w.heap.size (fun _ => True) v (centreF u nt) ∧ Below w.heap.size w w' := by
 have hul := Try.underlying27
 have HU := ak hu
 have HC := ak hcu
 have HN := ak hn
 have HCN := ak hcn
 clear hu hcu hn hcn
 by_cases hl : OL u nt
 ·
  have HL := ak hl
  have h12 := hl.1.1.le12
  clear hl
  go_enter Try.func57, Try.ntmps57
  go_wp2_with (first
   | ((with_reducible refine gate_dst (N := 1) rfl ?_); refine bx_ (N := 1) (cs := #[.slice Au u.length cu, .slice An nt.length cn]) (t := 27) ?_; intro gb hg w4 hbox hb; have hc0 : w4.cell? ⟨gb, 0, none⟩ = some (.slice Au u.length cu) := (blk_cell hbox 0).trans rfl; have hc1 : w4.cell? ⟨gb, 1, none⟩ = some (.slice An nt.length cn) := (blk_cell hbox 1).trans rfl; have HB4 := ak hb; clear hb hg hbox)
   | (go_at_call 68; (with_reducible refine (told_some _ _ u _ _ nt _ ?s1 ?s2 ?s3 ?s4 HL.out).mono ?_); (case s1 => repeat (first | exact (Kd.C_below HU.out HB4.out) | (with_reducible refine Kd.C_alloc ?_ _) | (with_reducible refine Kd.C_drewN ?_ _) | (with_reducible refine Kd.C_drew ?_))); (case s2 => exact HC.out); (case s3 => repeat (first | exact (Kd.C_below HN.out HB4.out) | (with_reducible refine Kd.C_alloc ?_ _) | (with_reducible refine Kd.C_drewN ?_ _) | (with_reducible refine Kd.C_drew ?_))); (case s4 => exact HCN.out); rintro e w5 ⟨g, rfl, hge, hAl, hD⟩; have HB5 := ak (below_step HB4.out hD); have HA := ak hAl; clear hD hge hAl; skip)
   | (go_at_call 86; (with_reducible refine (all_calls (g := g) (a := mtab u) (o := jtab u) (nt := nt) (no := leastI u) (yes := rd nt (leastI u)) ?e1 h12 100 #[.pointer (some ⟨w5.heap.size, 0, none⟩)] (enters_of Try.func100 (by kernel_rfl) rfl) (centreB u nt) ?e2).mono ?_); (case e1 => exact HA.out.below (below_alloc (Below.refl _ _) _)); (case e2 => exact fun w' i hw hi => by rw [centre_eq]; exact cent1 (HA.out.below (below_alloc (Below.refl _ _) _)) HL.out hw (blk_new _ _) hi); rintro e w' ⟨v6, rfl, ho, hb⟩; have HB6 := ak (below_step (below_alloc HB5.out _) hb); have HO := ak (Kd.R_lower ho (below_size (below_alloc HB5.out _))); clear hb ho; obtain ⟨A6, c6, e6⟩ := Kd.R_slice HO.out; subst e6))
  go_ret
  exact ⟨_, rfl, (by unfold centreF; rw [if_pos HL.out]; exact HO.out), (by repeat (first | exact HB6.out | (with_reducible first | apply below_alloc | apply pw_below_drewN | apply below_drew1)))⟩
 have HL := ak hl
 clear hl
 go_enter Try.func57, Try.ntmps57
 go_wp2_with (first
  | ((with_reducible refine gate_dst (N := 1) rfl ?_); refine bx_ (N := 1) (cs := #[.slice Au u.length cu, .slice An nt.length cn]) (t := 27) ?_; intro gb hg w4 hbox hb; have hc0 : w4.cell? ⟨gb, 0, none⟩ = some (.slice Au u.length cu) := (blk_cell hbox 0).trans rfl; have hc1 : w4.cell? ⟨gb, 1, none⟩ = some (.slice An nt.length cn) := (blk_cell hbox 1).trans rfl; have HB4 := ak hb; clear hb hg hbox)
  | (go_at_call 68; (with_reducible refine (told_none _ _ u _ _ nt _ ?s1 ?s2 ?s3 ?s4 HL.out).mono ?_); (case s1 => repeat (first | exact (Kd.C_below HU.out HB4.out) | (with_reducible refine Kd.C_alloc ?_ _) | (with_reducible refine Kd.C_drewN ?_ _) | (with_reducible refine Kd.C_drew ?_))); (case s2 => exact HC.out); (case s3 => repeat (first | exact (Kd.C_below HN.out HB4.out) | (with_reducible refine Kd.C_alloc ?_ _) | (with_reducible refine Kd.C_drewN ?_ _) | (with_reducible refine Kd.C_drew ?_))); (case s4 => exact HCN.out); rintro e w5 ⟨rfl, hD⟩; have HB5 := ak (below_step HB4.out hD); clear hD))
 go_ret
 exact ⟨_, rfl, (by unfold centreF; rw [if_neg HL.out]; exact Kd.R_nil _ _ _ _ _), (by repeat (first | exact HB5.out | (with_reducible first | apply below_alloc | apply pw_below_drewN | apply below_drew1)))⟩
end Go.Proofs.Ytacifhahfamipaa.P

