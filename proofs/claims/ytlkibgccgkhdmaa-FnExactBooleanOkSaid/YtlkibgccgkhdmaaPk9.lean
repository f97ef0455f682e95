/- 1 texts of this seat joined: walks, and the laws of what they compute. -/
import Derived.Test.YtlkibgccgkhdmaaPk8
import Derived.Test.YtlkibgccgkhdmaaPk7
import Derived.Test.YtlkibgccgkhdmaaPk6
import Derived.Deep.RegionWith
namespace Go.Proofs.Ytlkibgccgkhdmaa.P
open Go.RowKit Go.Proofs.YtlkibgccgkhdmaaW.PrintWords Go.Proofs.YtlkibgccgkhdmaaW.PrintLast Go.Proofs.YtlkibgccgkhdmaaW.PrintMore Go.Proofs.Cl
set_option linter.unusedVariables false
set_option linter.unusedSimpArgs false
theorem filt_succ (P : Nat → Bool) (i : Nat) : castL ((List.range (i + 1)).filter P) = castL ((List.range i).filter P) ++ (if P i = true then [(i : Int)] else []) := by
  unfold castL
  rw [List.range_succ, List.filter_append, List.map_append]
  by_cases h : P i = true <;> simp [h]
theorem filt_len (P : Nat → Bool) (i : Nat) : (castL ((List.range i).filter P)).length ≤ i := by
  unfold castL
  rw [List.length_map]
  exact Nat.le_trans (List.length_filter_le _ _) (by simp)
theorem filt_all (P : Nat → Bool) (n : Nat) : (((castL ((List.range n).filter P)).length : Int) == (n : Int)) = decide (∀ i, i < n → P i = true) := by
  rw [Bool.eq_iff_iff, beq_iff_eq, decide_eq_true_iff]
  unfold castL
  rw [List.length_map]
  constructor
  · intro h i hi
    have e : (List.range n).filter P = List.range n := by
      refine List.Sublist.eq_of_length List.filter_sublist ?_
      rw [List.length_range]
      omega
    have := List.filter_eq_self.1 e i (List.mem_range.2 hi)
    exact this
  · intro h
    rw [List.filter_eq_self.2 (fun i hi => h i (List.mem_range.1 hi)), List.length_range]
set_option maxHeartbeats 8000000 in
set_option maxRecDepth 100000 in
theorem all_calls {w : World} {g : Nat} {u a o : List (List Int)} {nt : List Int} {no yes : Int} (h : AlgAt w g u a o nt no yes) (hn : u.length ≤ 12) (k : Nat) (cap : Array Value) (hk : Enters Try.prog k) (P : Nat → Bool)
    (hF : ∀ w' (i : Nat), Below w.heap.size w w' → i < u.length → Calls Try.prog k (#[.int .i64 i] ++ cap) w' fun e w2 => e = .returned (.bool (P i)) ∧ Below w'.heap.size w' w2) :
    Calls Try.prog 58 #[.pointer (some ⟨g, 0, none⟩), .func (.func k) #[] cap] w fun e w' => ∃ v, e = .returned v ∧ Kd.R (Kd.int .i64) 3 w' w.heap.size (fun _ => True) v (castL ((List.range u.length).filter P)) ∧ Below w.heap.size w w' := by
  have eg : ∀ (args : Array Value) (w : World), (callFunc k args).run Try.prog w = .ok (.enter k args) w := hk
  have HF := Aside0.mk hF
  obtain ⟨Bu, bu, _, _, _, _, _, _, hz, _⟩ := h
  have HZ := Aside0.mk hz
  have hq0 : w.cell? ⟨g, 0, none⟩ = some (.slice Bu u.length bu) := (blk_cell hz 0).trans rfl
  clear hF hk hz
  go_enter Try.func58, Try.ntmps58
  go_wp2_with ((with_reducible refine gate_dst (N := 7) rfl ?_); refine Kd.R_lit (Kd.int .i64) _ 3 ?hg (N := 7) ?hd (xs := ([] : List Int)) (inner := []) (ok := fun _ => True) (okp := fun _ => True) ?hr ?hp (fun _ hk => hk) trivial (Below.refl _ _) (Nat.le_refl _) (by simp) ?_; (case hd => rfl); (case hg => rfl); (case hr => first | (go_simp; done) | (go_simp; rfl)); (case hp => exact (Reps.none _ _)); intro v5 w1 ho hb hg_ hnew_; clear hg_ hnew_; have HO := Aside0.mk ho; have HB := Aside0.mk hb; have hq1 : w1.cell? ⟨g, 0, none⟩ = some (.slice Bu u.length bu) := (blk_cell (blk_below HZ.out hb) 0).trans rfl; clear ho hb hq0)
  go_loopw [13, 5] (fun v13 v5 wr => ∃ i : Nat, i ≤ u.length ∧ v13 = .int .i64 i ∧ Aside0 (Kd.R (Kd.int .i64) 3 wr w.heap.size (fun _ => True) v5 (castL ((List.range i).filter P))) ∧ Aside0 (Below w.heap.size w wr)) (fun v13 _ _ => u.length - (intOf v13).toNat)
  case atStart => exact ⟨0, Nat.zero_le _, rfl, HO, HB⟩
  case round =>
    clear HO HB hq1
    obtain ⟨i, hi, rfl, HO, HB⟩ := hrel
    by_cases hlt : i < u.length
    · have HL := Aside0.mk (filt_len P i)
      cases hP : P i with
      | true =>
        have HP := Aside0.mk hP
        clear hP
        go_wp2_with (first
          | (go_at_fn k; (with_reducible refine (HF.out _ i HB.out hlt).mono ?_); rw [HP.out]; rintro e w2 ⟨rfl, hb⟩; have HB2 := Aside0.mk (below_step HB.out hb); have HO2 := Aside0.mk (Kd.R_below HO.out hb); clear hb HB HO)
          | ((with_reducible refine gate_builtin (b := .append) (xs := #[.tmp 19, .tmp 21]) rfl ?_); at_builtin; refine Kd.R_append (Kd.int .i64) (w0 := w) w.heap.size rfl (.tmp 19) (.tmp 21) 23 3 (.int .i64 0) 8 rfl Try.underlying23 info3 rfl (by decide) (by omega) u5 (castL ((List.range i).filter P)) i [.int .i64 (i : Int)] (fun _ => True) (fun _ => False) rfl rfl rfl (fun _ hk => hk.elim) (fun _ _ => trivial) HO2.out HB2.out (below_size HB2.out) (by have := HL.out; omega) ?_; intro v1 w3 ho hb hg hat; have HB3 := Aside0.mk hb; have HO3 := Aside0.mk ho; clear hb ho hg hat))
        go_roundw
        case rel => exact ⟨i + 1, by omega, by go_num, ⟨by rw [filt_succ, if_pos HP.out]; exact HO3.out⟩, HB3⟩
        case measure => simp [intOf]; omega
      | false =>
        have HP := Aside0.mk hP
        clear hP
        go_wp2_with (go_at_fn k; (with_reducible refine (HF.out _ i HB.out hlt).mono ?_); rw [HP.out]; rintro e w2 ⟨rfl, hb⟩; have HB2 := Aside0.mk (below_step HB.out hb); have HO2 := Aside0.mk (Kd.R_below HO.out hb); clear hb HB HO)
        go_roundw
        case rel => exact ⟨i + 1, by omega, by go_num, ⟨by rw [filt_succ, if_neg (by rw [HP.out]; simp), List.append_nil]; exact HO2.out⟩, HB2⟩
        case measure => simp [intOf]; omega
    · have ei : i = u.length := by omega
      have HO2 : Aside0 (Kd.R (Kd.int .i64) 3 wr w.heap.size (fun _ => True) u5 (castL ((List.range u.length).filter P))) := ⟨by rw [← ei]; exact HO.out⟩
      clear ei HO
      go_wp2
      go_ret
      exact ⟨_, rfl, HO2.out, HB.out⟩
theorem drawn_below {w w' : World} (h : Drawn0 w w') : Below w.heap.size w w' := by
  obtain ⟨n, rfl⟩ := h
  exact pw_below_drewN (Below.refl _ _) n
theorem below_every {W : World} {g c n B : Nat} {A : Option Addr} {cs : Array Value} {t : Nat} (k : Nat) (hk : Enters Try.prog k) (P : Nat → Nat → Prop) [∀ a b, Decidable (P a b)] (hz : W.heap[g]? = some (.cells cs t (0, 0))) (hc : cs[0]? = some (.slice A n c)) (hn : n ≤ 1000)
    (hF : ∀ w' (i j : Nat), Below W.heap.size W w' → i < n → j < n → Calls Try.prog k #[.int .i64 i, .int .i64 j, .pointer (some ⟨B, 0, none⟩)] w' fun e w2 => e = .returned (.bool (decide (P i j))) ∧ Below w'.heap.size w' w2) :
    Calls Try.prog 56 #[.pointer (some ⟨g, 0, none⟩), .func (.func k) #[] #[.pointer (some ⟨B, 0, none⟩)]] W fun e w' => e = .returned (.bool (decide (∀ a, a < n → ∀ b, b < n → P a b))) ∧ Below W.heap.size W w' := by
  refine (every_inv (g := g) (n := n) (c := c) (A := A) k _ hk (fun i j w' => Below W.heap.size W w' ∧ ∀ a b, (a < i ∧ b < n ∨ a = i ∧ b < j) → P a b) (fun w' => Below W.heap.size W w' ∧ ¬ ∀ a, a < n → ∀ b, b < n → P a b) ?_ hn ?_ ?_ ?_).mono ?_
  · rintro i j w' ⟨hB, _⟩
    exact (blk_cell (blk_below hz hB) 0).trans hc
  · exact ⟨Below.refl _ _, fun a b h => by omega⟩
  · rintro i w' hi ⟨hD, h⟩
    exact ⟨hD, fun a b q => h a b (by omega)⟩
  · rintro i j w' hi hj ⟨hD, h⟩
    refine (hF w' i j hD hi hj).mono ?_
    rintro e w2 ⟨rfl, hD2⟩
    refine ⟨_, rfl, fun q => ⟨below_step hD hD2, fun a b r => ?_⟩, fun q => ⟨below_step hD hD2, fun r => absurd (r i hi j hj) (of_decide_eq_false q)⟩⟩
    by_cases e : a = i ∧ b = j
    · obtain ⟨rfl, rfl⟩ := e
      exact of_decide_eq_true q
    · exact h a b (by omega)
  · rintro e w' (⟨rfl, hD, h⟩ | ⟨rfl, hD, h⟩)
    · exact ⟨by rw [decide_eq_true (fun a ha b hb => h a b (by omega))], hD⟩
    · exact ⟨by rw [decide_eq_false h], hD⟩
set_option maxHeartbeats 4000000 in
set_option maxRecDepth 100000 in
theorem both_calls {w : World} {g : Nat} {u : List (List Int)} {nt : List Int} {no yes : Int} (h : AlgAt w g u (mtab u) (jtab u) nt no yes) (hl : OL u nt) {a b : Int} (ha : 0 ≤ a ∧ a < u.length) (hb : 0 ≤ b ∧ b < u.length) :
    Calls Try.prog 64 #[.pointer (some ⟨g, 0, none⟩), .int .i64 a, .int .i64 b] w fun e w' => e = .returned (.bool (decide (withB u nt a b ∧ withB u nt b a))) ∧ Drawn0 w w' := by
  have HA := Aside0.mk h
  have HL := Aside0.mk hl
  have HAB := Aside0.mk (And.intro ha hb)
  clear h hl ha hb
  cases h1 : decide (withB u nt a b) with
  | false =>
    have H1 := Aside0.mk h1
    clear h1
    go_enter Try.func64, Try.ntmps64
    go_wp2_with (go_at_call 98; (with_reducible first | refine (with_calls HA.out HL.out HAB.out.1 HAB.out.2).mono ?_ | refine (with_calls (HA.out.drewN _) HL.out HAB.out.1 HAB.out.2).mono ?_); rw [H1.out]; rintro e w2 ⟨rfl, ⟨n, rfl⟩⟩)
    go_ret
    exact ⟨by rw [decide_eq_false (fun q => of_decide_eq_false H1.out q.1)]; rfl, ⟨_, rfl⟩⟩
  | true =>
    have H1 := Aside0.mk h1
    clear h1
    cases h2 : decide (withB u nt b a) with
    | false =>
      have H2 := Aside0.mk h2
      clear h2
      go_enter Try.func64, Try.ntmps64
      go_wp2_with (first | (go_at_call 98; (with_reducible first | refine (with_calls HA.out HL.out HAB.out.1 HAB.out.2).mono ?_ | refine (with_calls (HA.out.drewN _) HL.out HAB.out.1 HAB.out.2).mono ?_); rw [H1.out]; rintro e w2 ⟨rfl, ⟨n, rfl⟩⟩) | (go_at_call 98; (with_reducible first | refine (with_calls HA.out HL.out HAB.out.2 HAB.out.1).mono ?_ | refine (with_calls (HA.out.drewN _) HL.out HAB.out.2 HAB.out.1).mono ?_); rw [H2.out]; rintro e w2 ⟨rfl, ⟨n, rfl⟩⟩))
      go_ret
      exact ⟨by rw [decide_eq_false (fun q => of_decide_eq_false H2.out q.2)]; rfl, ⟨_, rfl⟩⟩
    | true =>
      have H2 := Aside0.mk h2
      clear h2
      go_enter Try.func64, Try.ntmps64
      go_wp2_with (first | (go_at_call 98; (with_reducible first | refine (with_calls HA.out HL.out HAB.out.1 HAB.out.2).mono ?_ | refine (with_calls (HA.out.drewN _) HL.out HAB.out.1 HAB.out.2).mono ?_); rw [H1.out]; rintro e w2 ⟨rfl, ⟨n, rfl⟩⟩) | (go_at_call 98; (with_reducible first | refine (with_calls HA.out HL.out HAB.out.2 HAB.out.1).mono ?_ | refine (with_calls (HA.out.drewN _) HL.out HAB.out.2 HAB.out.1).mono ?_); rw [H2.out]; rintro e w2 ⟨rfl, ⟨n, rfl⟩⟩))
      go_ret
      exact ⟨by rw [decide_eq_true ⟨of_decide_eq_true H1.out, of_decide_eq_true H2.out⟩]; rfl, ⟨_, rfl⟩⟩
def agB (u : List (List Int)) (nt : List Int) (a b : Nat) : Bool := decide (withB u nt a b ∧ withB u nt b a)
set_option maxHeartbeats 4000000 in
set_option maxRecDepth 100000 in
theorem bool11 {w : World} {g Bg Ba Bb : Nat} {u : List (List Int)} {nt : List Int} {no yes : Int} (h : AlgAt w g u (mtab u) (jtab u) nt no yes) (hl : OL u nt) {a : Nat} (ha : a < u.length) {b : Nat} (hb : b < u.length) {c : Nat} (hc : c < u.length) (bg : w.cell? ⟨Bg, 0, none⟩ = some (.pointer (some ⟨g, 0, none⟩))) (ba : w.cell? ⟨Ba, 0, none⟩ = some (.int .i64 a)) (bb : w.cell? ⟨Bb, 0, none⟩ = some (.int .i64 b)) :
    Calls Try.prog 59 (#[.int .i64 c] ++ #[.pointer (some ⟨Bg, 0, none⟩), .pointer (some ⟨Ba, 0, none⟩), .pointer (some ⟨Bb, 0, none⟩)]) w fun e w' => e = .returned (.bool (decide (splitB u a b c))) ∧ Drawn0 w w' := by
  have HA := Aside0.mk h
  have HL := Aside0.mk hl
  have HI := Aside0.mk (show (0 ≤ (a : Int) ∧ (a : Int) < u.length) ∧ (0 ≤ (b : Int) ∧ (b : Int) < u.length) ∧ (0 ≤ (c : Int) ∧ (c : Int) < u.length) from ⟨⟨by omega, by omega⟩, ⟨by omega, by omega⟩, ⟨by omega, by omega⟩⟩)
  clear h hl
  go_enter Try.func59, Try.ntmps59
  go_wp2_with (go_at_call 60; (with_reducible refine (split_calls HA.out HL.out HI.out.1 HI.out.2.1 HI.out.2.2).mono ?_); rintro e w2 ⟨rfl, ⟨n, rfl⟩⟩)
  go_ret
  exact ⟨by first | rfl | (unfold agB; rw [Bool.decide_and]; rfl), ⟨_, rfl⟩⟩
set_option maxHeartbeats 8000000 in
set_option maxRecDepth 100000 in
theorem bool1 {w0 w : World} {g Bg : Nat} {u : List (List Int)} {nt : List Int} {no yes : Int} (h : AlgAt w0 g u (mtab u) (jtab u) nt no yes) (hl : OL u nt) (hw : Below w0.heap.size w0 w) (bg : w0.heap[Bg]? = some (.cells #[.pointer (some ⟨g, 0, none⟩)] 52 (0, 0))) {a : Nat} (ha : a < u.length) {b : Nat} (hb : b < u.length) :
    Calls Try.prog 57 #[.int .i64 a, .int .i64 b, .pointer (some ⟨Bg, 0, none⟩)] w fun e w' => e = .returned (.bool (decide (∀ c, c < u.length → splitB u a b c))) ∧ Below w.heap.size w w' := by
  have h12 := hl.1.1.le12
  have HL := Aside0.mk hl
  have HA := Aside0.mk (h.below hw)
  have HG := Aside0.mk (blk_below bg hw)
  have HB0 := Aside0.mk (Below.refl w.heap.size w)
  clear h hl hw bg
  go_enter Try.func57, Try.ntmps57
  go_wp2_with (first
    | ((with_reducible refine gate_dst (N := 3) rfl ?_); refine box_event ?hg (N := 3) ?hd (cs := #[.int .i64 (a : Int)]) (t := 3) ?hr ?_; (case hd => rfl); (case hg => rfl); (case hr => first | (go_simp; done) | (go_simp; rfl)); intro Ba hg w1 hbox hb; have HB1 := Aside0.mk (below_step HB0.out hb); have HKa := Aside0.mk hbox; clear hb hg hbox)
    | ((with_reducible refine gate_dst (N := 4) rfl ?_); refine box_event ?hg (N := 4) ?hd (cs := #[.int .i64 (b : Int)]) (t := 3) ?hr ?_; (case hd => rfl); (case hg => rfl); (case hr => first | (go_simp; done) | (go_simp; rfl)); intro Bb hg w2 hbox hb; have HB2 := Aside0.mk (below_step HB1.out hb); have HKb := Aside0.mk hbox; replace HKa := Aside0.mk (blk_below HKa.out hb); clear hb hg hbox))
  have HA2 := Aside0.mk (HA.out.below HB2.out)
  have HG2 := Aside0.mk (blk_below HG.out HB2.out)
  obtain ⟨Bu, bu, _, _, _, _, _, _, hz, _⟩ := HA2.out
  have f0 : w2.cell? ⟨Bg, 0, none⟩ = some (.pointer (some ⟨g, 0, none⟩)) := (blk_cell HG2.out 0).trans rfl
  have f1 : w2.cell? ⟨g, 0, none⟩ = some (.slice Bu u.length bu) := (blk_cell hz 0).trans rfl
  have HZ := Aside0.mk hz
  clear hz HG HA
  refine start_ (n := 11) (S := fun w' => w'.cell? ⟨Bg, 0, none⟩ = some (.pointer (some ⟨g, 0, none⟩)) ∧ w'.cell? ⟨g, 0, none⟩ = some (.slice Bu u.length bu)) (ds := []) #[false, false, false, false, false, false, false, false, false, false, false] (by kernel_rfl) rfl rfl ⟨f0, f1⟩ (fun hHeld => ?_)
  have HB8 := Aside0.mk (below_drew1 HB2.out)
  have HA8 := Aside0.mk (HA2.out.below (below_drew (Below.refl _ _)))
  have HG8 := Aside0.mk (blk_drew HG2.out)
  have HZ8 := Aside0.mk (blk_drew HZ.out)
  have H8a := Aside0.mk (blk_drew HKa.out)
  have H8b := Aside0.mk (blk_drew HKb.out)
  clear HA2 HG2 HZ f0 f1 HKa HKb
  generalize w2.drew = wd at HB8 HA8 HG8 HZ8 H8a H8b hHeld ⊢
  refine take_ (i := 0) (N := some 6) (v := ?_) (a' := ?_) #[true, false, false, false, false, false, false, false, false, false, false] rfl rfl (by kernel_rfl) (fun _ _ _ h => h) (Or.inl ⟨by rfl, ?_⟩) hHeld ?_ ?_
  rotate_left
  · rintro w' ⟨s0, s1⟩
    go_simp
    with_reducible rfl
  rotate_left
  · simp only [Act.put, List.setIfInBounds_toArray, List.set_cons_zero, List.set_cons_succ, i64_w, i32_w]
    rfl
  refine pure_ (i := 1) (N := some 7) (v := ?_) (a' := ?_) #[true, true, false, false, false, false, false, false, false, false, false] rfl rfl (by kernel_rfl) (fun _ _ _ h => h) (Or.inl ⟨by rfl, ?_⟩) ?_ ?_
  rotate_left
  · intro w'
    go_simp
    with_reducible rfl
  rotate_left
  · simp only [Act.put, List.setIfInBounds_toArray, List.set_cons_zero, List.set_cons_succ, i64_w, i32_w]
    rfl
  refine take_ (i := 4) (N := some 10) (v := ?_) (a' := ?_) #[true, true, false, false, true, false, false, false, false, false, false] rfl rfl (by kernel_rfl) (fun _ _ _ h => h) (Or.inl ⟨by rfl, ?_⟩) hHeld ?_ ?_
  rotate_left
  · rintro w' ⟨s0, s1⟩
    go_simp
    with_reducible rfl
  rotate_left
  · simp only [Act.put, List.setIfInBounds_toArray, List.set_cons_zero, List.set_cons_succ, i64_w, i32_w]
    rfl
  refine pure_ (i := 5) (N := some 11) (v := ?_) (a' := ?_) #[true, true, false, false, true, true, false, false, false, false, false] rfl rfl (by kernel_rfl) (fun _ _ _ h => h) (Or.inl ⟨by rfl, ?_⟩) ?_ ?_
  rotate_left
  · intro w'
    go_simp
    with_reducible rfl
  rotate_left
  · simp only [Act.put, List.setIfInBounds_toArray, List.set_cons_zero, List.set_cons_succ, i64_w, i32_w]
    rfl
  refine pure_ (i := 6) (N := some 12) (v := ?_) (a' := ?_) #[true, true, false, false, true, true, true, false, false, false, false] rfl rfl (by kernel_rfl) (fun _ _ _ h => h) (Or.inl ⟨by rfl, ?_⟩) ?_ ?_
  rotate_left
  · intro w'
    go_simp
    with_reducible rfl
  rotate_left
  · simp only [Act.put, List.setIfInBounds_toArray, List.set_cons_zero, List.set_cons_succ, i64_w, i32_w]
    rfl
  refine take_ (i := 7) (N := some 13) (v := ?_) (a' := ?_) #[true, true, false, false, true, true, true, true, false, false, false] rfl rfl (by kernel_rfl) (fun _ _ _ h => h) (Or.inl ⟨by rfl, ?_⟩) hHeld ?_ ?_
  rotate_left
  · rintro w' ⟨s0, s1⟩
    go_simp
    with_reducible rfl
  rotate_left
  · simp only [Act.put, List.setIfInBounds_toArray, List.set_cons_zero, List.set_cons_succ, i64_w, i32_w]
    rfl
  refine pure_ (i := 8) (N := some 14) (v := ?_) (a' := ?_) #[true, true, false, false, true, true, true, true, true, false, false] rfl rfl (by kernel_rfl) (fun _ _ _ h => h) (Or.inl ⟨by rfl, ?_⟩) ?_ ?_
  rotate_left
  · intro w'
    go_simp
    with_reducible rfl
  rotate_left
  · simp only [Act.put, List.setIfInBounds_toArray, List.set_cons_zero, List.set_cons_succ, i64_w, i32_w]
    rfl
  refine one_ (i := 2) (N := some 8) #[true, true, true, false, true, true, true, true, true, false, false] rfl rfl (by kernel_rfl) (by decide) (fun K hK => ?_)
  refine goes_ Try.func58 (by kernel_rfl) rfl #[.pointer (some ⟨g, 0, none⟩), .func (.func 59) #[] #[.pointer (some ⟨Bg, 0, none⟩), .pointer (some ⟨Ba, 0, none⟩), .pointer (some ⟨Bb, 0, none⟩)]] (by rfl) rfl rfl (by (try simp only [List.map_toArray, List.map_cons, List.map_nil]); first | done | rfl | (simp only [List.length_drop, List.length_take]; rfl)) ?_
  with_reducible refine (all_calls HA8.out h12 59 #[.pointer (some ⟨Bg, 0, none⟩), .pointer (some ⟨Ba, 0, none⟩), .pointer (some ⟨Bb, 0, none⟩)] (enters_of Try.func59 (by kernel_rfl) rfl) (fun c => decide (splitB u a b c)) (fun w' c hbw hc => (bool11 (HA8.out.below hbw) HL.out ha hb hc ((blk_cell (blk_below HG8.out hbw) 0).trans rfl) ((blk_cell (blk_below H8a.out hbw) 0).trans rfl) ((blk_cell (blk_below H8b.out hbw) 0).trans rfl)).mono fun e w2 k => ⟨k.1, drawn_below k.2⟩)).mono ?_
  rintro e w9 ⟨v9, rfl, ho, hb⟩
  obtain ⟨A9, c9, e9⟩ := Kd.R_slice ho
  subst e9
  have HB9 := Aside0.mk (below_step HB8.out hb)
  have HZ9 := Aside0.mk (blk_below HZ8.out hb)
  have HG9 := Aside0.mk (blk_below HG8.out hb)
  clear ho hb
  refine ⟨_, rfl, ?_⟩
  refine hK.out _ _ ⟨(blk_cell HG9.out 0).trans rfl, (blk_cell HZ9.out 0).trans rfl⟩ (fun hHeld => ?_)
  clear hK K
  refine norm_ (a' := ?_) ?_ ?_
  rotate_left
  · show Act.put _ (some 8) _ = _
    simp only [Act.put, List.setIfInBounds_toArray, List.set_cons_zero, List.set_cons_succ, i64_w, i32_w]
    rfl
  refine pure_ (i := 3) (N := some 9) (v := ?_) (a' := ?_) #[true, true, true, true, true, true, true, true, true, false, false] rfl rfl (by kernel_rfl) (fun _ _ _ h => h) (Or.inl ⟨by rfl, ?_⟩) ?_ ?_
  rotate_left
  · intro w'
    go_simp
    with_reducible rfl
  rotate_left
  · simp only [Act.put, List.setIfInBounds_toArray, List.set_cons_zero, List.set_cons_succ, i64_w, i32_w]
    rfl
  refine pure_ (i := 9) (N := some 15) (v := ?_) (a' := ?_) #[true, true, true, true, true, true, true, true, true, true, false] rfl rfl (by kernel_rfl) (fun _ _ _ h => h) (Or.inl ⟨by rfl, ?_⟩) ?_ ?_
  rotate_left
  · intro w'
    go_simp
    with_reducible rfl
  rotate_left
  · simp only [Act.put, List.setIfInBounds_toArray, List.set_cons_zero, List.set_cons_succ, i64_w, i32_w]
    rfl
  refine pure_ (i := 10) (N := some 5) (v := ?_) (a' := ?_) #[true, true, true, true, true, true, true, true, true, true, true] rfl rfl (by kernel_rfl) (fun _ _ _ h => h) (Or.inl ⟨by rfl, ?_⟩) ?_ ?_
  rotate_left
  · intro w'
    go_simp
    with_reducible rfl
  rotate_left
  · simp only [Act.put, List.setIfInBounds_toArray, List.set_cons_zero, List.set_cons_succ, i64_w, i32_w]
    rfl
  refine done_ (by kernel_rfl) ?_
  go_wp2
  go_ret
  refine ⟨?_, HB9.out⟩
  have e := filt_all (fun c => decide (splitB u a b c)) u.length
  have e2 : decide (∀ i, i < u.length → (fun c => decide (splitB u a b c)) i = true) = decide (∀ c, c < u.length → splitB u a b c) := by first | rfl | exact decide_eq_decide.2 ⟨fun q i hi => of_decide_eq_true (q i hi), fun q i hi => decide_eq_true (q i hi)⟩
  have e3 := e.trans e2
  first | exact congrArg (fun b => Ending.returned (Value.bool b)) e3 | (rw [← e3]; rfl) | (simp only [← e3]; rfl)
theorem bool_every {W : World} {B g : Nat} {u : List (List Int)} {nt : List Int} {no yes : Int} (hB : W.heap[B]? = some (.cells #[.pointer (some ⟨g, 0, none⟩)] 52 (0, 0))) (h : AlgAt W g u (mtab u) (jtab u) nt no yes) (hl : OL u nt) :
    Calls Try.prog 56 #[.pointer (some ⟨g, 0, none⟩), .func (.func 57) #[] #[.pointer (some ⟨B, 0, none⟩)]] W fun e w' => e = .returned (.bool (decide (∀ a, a < u.length → ∀ b, b < u.length → ∀ c, c < u.length → splitB u a b c))) ∧ Below W.heap.size W w' := by
  obtain ⟨Bu, bu, Ba, ba, Bo, bo, Bn, bn, h0, _⟩ := id h
  exact below_every (c := bu) (A := Bu) 57 (enters_of Try.func57 (by kernel_rfl) rfl) (fun a b => ∀ c, c < u.length → splitB u a b c) h0 rfl (by have := hl.1.1.2.1; omega) (fun w' i j hw hi hj => bool1 h hl hw hB hi hj)
set_option maxHeartbeats 4000000 in
set_option maxRecDepth 100000 in
theorem boolOk_core (Au : Option Addr) (cu : Nat) (u : List (List Int)) (An : Option Addr) (cn : Nat) (nt : List Int) (w : World)
    (hu : Kd.C (Kd.slice 3 (Kd.int .i64)) w Au u.length u) (hcu : u.length ≤ cu) (hn : Kd.C (Kd.int .i64) w An nt.length nt) (hcn : nt.length ≤ cn) :
    Calls Try.prog 21 #[.agg #[.slice Au u.length cu, .slice An nt.length cn]] w fun e w' => e = .returned (.bool (boolF u nt)) ∧ Below w.heap.size w w' := by
  have hul := Try.underlying29
  have HU := Aside0.mk hu
  have HC := Aside0.mk hcu
  have HN := Aside0.mk hn
  have HCN := Aside0.mk hcn
  clear hu hcu hn hcn
  by_cases hl : OL u nt
  · have HL := Aside0.mk hl
    clear hl
    go_enter Try.func21, Try.ntmps21
    go_wp2_with (first
      | ((with_reducible refine gate_dst (N := 1) rfl ?_); refine box_event ?hg (N := 1) ?hd (cs := #[.slice Au u.length cu, .slice An nt.length cn]) (t := 29) ?hr ?_; (case hd => rfl); (case hg => rfl); (case hr => first | (go_simp; done) | (go_simp; rfl)); intro gb hg w4 hbox hb; have hc0 : w4.cell? ⟨gb, 0, none⟩ = some (.slice Au u.length cu) := (blk_cell hbox 0).trans rfl; have hc1 : w4.cell? ⟨gb, 1, none⟩ = some (.slice An nt.length cn) := (blk_cell hbox 1).trans rfl; have HB4 := Aside0.mk hb; clear hb hg hbox)
      | (go_at_call 53; (with_reducible refine (told_some _ _ u _ _ nt _ ?s1 ?s2 ?s3 ?s4 HL.out).mono ?_); (case s1 => repeat (first | exact (Kd.C_below HU.out HB4.out) | (with_reducible refine Kd.C_alloc ?_ _) | (with_reducible refine Kd.C_drewN ?_ _) | (with_reducible refine Kd.C_drew ?_))); (case s2 => exact HC.out); (case s3 => repeat (first | exact (Kd.C_below HN.out HB4.out) | (with_reducible refine Kd.C_alloc ?_ _) | (with_reducible refine Kd.C_drewN ?_ _) | (with_reducible refine Kd.C_drew ?_))); (case s4 => exact HCN.out); rintro e w5 ⟨g, rfl, hge, hAl, hD⟩; have HB5 := Aside0.mk (below_step HB4.out hD); have HA := Aside0.mk hAl; clear hD hge hAl; skip)
      | (go_at_call 56; (with_reducible refine (bool_every (B := w5.heap.size) (g := g) (no := leastI u) (yes := rd nt (leastI u)) ?e1 ?e2 HL.out).mono ?_); (case e1 => exact blk_new _ _); (case e2 => exact HA.out.below (below_alloc (Below.refl _ _) _)); rintro e w6 ⟨rfl, hb⟩; have HB6 := Aside0.mk (below_step (below_alloc HB5.out _) hb); clear hb))
    go_ret
    exact ⟨by unfold boolF; rw [show decide (OL u nt ∧ ∀ a, a < u.length → ∀ b, b < u.length → ∀ c, c < u.length → splitB u a b c) = decide (∀ a, a < u.length → ∀ b, b < u.length → ∀ c, c < u.length → splitB u a b c) from decide_eq_decide.2 ⟨fun q => q.2, fun q => ⟨HL.out, q⟩⟩]; rfl, (by repeat (first | exact HB6.out | (with_reducible first | apply below_alloc | apply pw_below_drewN | apply below_drew1)))⟩
  · have HL := Aside0.mk hl
    clear hl
    go_enter Try.func21, Try.ntmps21
    go_wp2_with (first
      | ((with_reducible refine gate_dst (N := 1) rfl ?_); refine box_event ?hg (N := 1) ?hd (cs := #[.slice Au u.length cu, .slice An nt.length cn]) (t := 29) ?hr ?_; (case hd => rfl); (case hg => rfl); (case hr => first | (go_simp; done) | (go_simp; rfl)); intro gb hg w4 hbox hb; have hc0 : w4.cell? ⟨gb, 0, none⟩ = some (.slice Au u.length cu) := (blk_cell hbox 0).trans rfl; have hc1 : w4.cell? ⟨gb, 1, none⟩ = some (.slice An nt.length cn) := (blk_cell hbox 1).trans rfl; have HB4 := Aside0.mk hb; clear hb hg hbox)
      | (go_at_call 53; (with_reducible refine (told_none _ _ u _ _ nt _ ?s1 ?s2 ?s3 ?s4 HL.out).mono ?_); (case s1 => repeat (first | exact (Kd.C_below HU.out HB4.out) | (with_reducible refine Kd.C_alloc ?_ _) | (with_reducible refine Kd.C_drewN ?_ _) | (with_reducible refine Kd.C_drew ?_))); (case s2 => exact HC.out); (case s3 => repeat (first | exact (Kd.C_below HN.out HB4.out) | (with_reducible refine Kd.C_alloc ?_ _) | (with_reducible refine Kd.C_drewN ?_ _) | (with_reducible refine Kd.C_drew ?_))); (case s4 => exact HCN.out); rintro e w5 ⟨rfl, hD⟩; have HB5 := Aside0.mk (below_step HB4.out hD); clear hD))
    go_ret
    exact ⟨by unfold boolF; rw [decide_eq_false (fun q => HL.out q.1)]; rfl, (by repeat (first | exact HB5.out | (with_reducible first | apply below_alloc | apply pw_below_drewN | apply below_drew1)))⟩
end Go.Proofs.Ytlkibgccgkhdmaa.P

