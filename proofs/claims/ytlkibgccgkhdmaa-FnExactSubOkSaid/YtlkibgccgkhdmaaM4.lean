import Derived.Test.YtlkibgccgkhdmaaPk7
import Derived.Test.YtlkibgccgkhdmaaE1
import Derived.Test.YtlkibgccgkhdmaaPk6
import Derived.Test.YtlkibgccgkhdmaaFImplHas
import Derived.Deep.RegionWith
namespace Go.Proofs.Ytlkibgccgkhdmaa.P
open Go.RowKit Go.Proofs.YtlkibgccgkhdmaaW.PrintWords Go.Proofs.YtlkibgccgkhdmaaW.PrintLast Go.Proofs.YtlkibgccgkhdmaaW.PrintMore Go.Proofs.Cl
set_option linter.unusedVariables false
set_option linter.unusedSimpArgs false
set_option maxHeartbeats 4000000 in
set_option maxRecDepth 100000 in
theorem isSet_nil (s : Int) (w : World) : Calls Try.prog 68 #[.pointer none, .int .i64 s] w fun e w' => e = .returned (.bool false) ∧ Drawn0 w w' := by
  go_enter Try.func68, Try.ntmps68
  go_wp2
  go_ret
  exact ⟨rfl, Drawn0.refl _⟩
set_option maxHeartbeats 4000000 in
set_option maxRecDepth 100000 in
theorem isSet_calls {w : World} {g : Nat} {u a o : List (List Int)} {nt : List Int} {no yes : Int} (h : AlgAt w g u a o nt no yes) (hn : u.length ≤ 12) (s : Int) :
    Calls Try.prog 68 #[.pointer (some ⟨g, 0, none⟩), .int .i64 s] w fun e w' => e = .returned (.bool (isSetB u.length s)) ∧ Drawn0 w w' := by
  obtain ⟨Bu, bu, _, _, _, _, _, _, hz, _⟩ := h
  have hq : w.cell? ⟨g, 0, none⟩ = some (.slice Bu u.length bu) := (blk_cell hz 0).trans rfl
  clear hz
  by_cases h0 : 0 < s
  · have HR := Aside0.mk (Q.isSet_wrap hn h0)
    go_enter Try.func68, Try.ntmps68
    go_wp2
    go_ret
    exact ⟨by rw [HR.out]; rfl, Drawn0.refl _⟩
  · have HR : Aside0 (isSetB u.length s = false) := ⟨decide_eq_false (fun q => h0 q.1)⟩
    go_enter Try.func68, Try.ntmps68
    go_wp2
    go_ret
    exact ⟨by rw [HR.out]; rfl, Drawn0.refl _⟩
theorem three_reads {w : World} {g : Nat} {u : List (List Int)} {nt : List Int} {no yes : Int} (h : AlgAt w g u (mtab u) (jtab u) nt no yes) (hl : OL u nt) {i j : Nat} (hi : i < u.length) (hj : j < u.length) :
    ∃ (m l y : Nat) (am an2 ao ar2 an : Addr) (ba bo bn c3 c4 : Nat), mt u i j = m ∧ jn u i j = l ∧ rd nt i = y ∧ m < u.length ∧ l < u.length ∧ y < u.length ∧
      w.cell? ⟨g, 1, none⟩ = some (.slice (some am) u.length ba) ∧ w.cell? (am.add i) = some (.slice (some an2) u.length c3) ∧ w.cell? (an2.add j) = some (.int .i64 m) ∧
      w.cell? ⟨g, 2, none⟩ = some (.slice (some ao) u.length bo) ∧ w.cell? (ao.add i) = some (.slice (some ar2) u.length c4) ∧ w.cell? (ar2.add j) = some (.int .i64 l) ∧
      w.cell? ⟨g, 3, none⟩ = some (.slice (some an) u.length bn) ∧ w.cell? (an.add i) = some (.int .i64 y) := by
  obtain ⟨Bu, bu, Ba, ba, Bo, bo, Bn, bn, h0, h1, h2, h3, h4, h5, h6, h7, h8⟩ := h
  have ha : 0 ≤ (i : Int) ∧ (i : Int) < u.length := by omega
  have hb : 0 ≤ (j : Int) ∧ (j : Int) < u.length := by omega
  have hy := ng_in hl ha
  have hm := mt_in hl.1 ha hb
  have hj2 := jn_in hl.1 ha hb
  have hlm : (mtab u).length = u.length := by simp [mtab]
  have hlj : (jtab u).length = u.length := by simp [jtab]
  rw [hlm, hlj, hl.2.1] at h0
  obtain ⟨am, an2, c3, e4, k7, k8⟩ := tab_row (f := meetI u) rfl h3 ha
  obtain ⟨ao, ar2, c4, e6, k9, k10⟩ := tab_row (f := joinI u) rfl h5 ha
  obtain ⟨an, e5, k11⟩ := Kd.at_int h7 i ha.1 (by rw [hl.2.1]; exact ha.2)
  subst e4
  subst e5
  subst e6
  have q1 := k8 _ hb
  have q2 := k10 _ hb
  simp only [Int.toNat_natCast] at k7 k9 k11 q1 q2
  obtain ⟨m, em⟩ := Int.eq_ofNat_of_zero_le hm.1
  obtain ⟨l, el⟩ := Int.eq_ofNat_of_zero_le hj2.1
  obtain ⟨y, ey⟩ := Int.eq_ofNat_of_zero_le hy.1
  have em2 : meetI u i j = m := em
  have el2 : joinI u i j = l := el
  rw [em2] at q1
  rw [el2] at q2
  rw [ey] at k11
  exact ⟨m, l, y, am, an2, ao, ar2, an, ba, bo, bn, c3, c4, em, el, ey, by omega, by omega, by omega, (blk_cell h0 1).trans rfl, k7, q1, (blk_cell h0 2).trans rfl, k9, q2, (blk_cell h0 3).trans rfl, k11⟩
set_option maxHeartbeats 8000000 in
set_option maxRecDepth 100000 in
theorem closed1_yes {w0 wr : World} {g Bb Bs Bg : Nat} {u : List (List Int)} {nt : List Int} {no yes : Int} (h : AlgAt w0 g u (mtab u) (jtab u) nt no yes) (hl : OL u nt) (hb : Below w0.heap.size w0 wr) {S v i j : Nat} (hi : i < u.length) (hj : j < u.length) (hS : S < 2 ^ u.length) (hv : v < 2 ^ u.length)
    (b1 : wr.heap[Bb]? = some (.cells #[.int .i64 (S : Int)] 3 (0, 0))) (b2 : wr.heap[Bs]? = some (.cells #[.int .i64 (v : Int)] 3 (0, 0))) (b3 : wr.heap[Bg]? = some (.cells #[.pointer (some ⟨g, 0, none⟩)] 52 (0, 0)))
    (ka : S.testBit i = true) (kb : S.testBit j = true) :
    Calls Try.prog 100 #[.int .i64 i, .int .i64 j, .pointer (some ⟨Bb, 0, none⟩), .pointer (some ⟨Bs, 0, none⟩), .pointer (some ⟨Bg, 0, none⟩)] wr fun e w' => e = .returned (.bool true) ∧
      ∃ n, w' = (wr.drewN n).setCell ⟨Bs, 0, none⟩ (.int .i64 ((v ||| (2 ^ (mt u i j).toNat ||| 2 ^ (jn u i j).toNat ||| 2 ^ (rd nt i).toNat) : Nat) : Int)) := by
  have h12 := hl.1.1.le12
  have E1 := Aside0.mk (Q.has_eq h12 hS hi)
  have E2 := Aside0.mk (Q.has_eq h12 hS hj)
  rw [ka] at E1
  rw [kb] at E2
  obtain ⟨m, l, y, am, an2, ao, ar2, an, ba, bo, bn, c3, c4, em, el, ey, hm, hj2, hy, f2, f3, f4, f5, f6, f7, f8, f9⟩ := three_reads (h.below hb) hl hi hj
  rw [em, el, ey]
  simp only [Int.toNat_natCast]
  have HE := Aside0.mk (Q.or4_set (v := v) h12 hv hm hj2 hy)
  have f0 : wr.cell? ⟨Bs, 0, none⟩ = some (.int .i64 (v : Int)) := (blk_cell b2 0).trans rfl
  have f1 : wr.cell? ⟨Bg, 0, none⟩ = some (.pointer (some ⟨g, 0, none⟩)) := (blk_cell b3 0).trans rfl
  have hq : wr.cell? ⟨Bb, 0, none⟩ = some (.int .i64 (S : Int)) := (blk_cell b1 0).trans rfl
  have HB := Aside0.mk hb
  have HX := Aside0.mk b2
  have hi1 : (i : Int) < (u.length : Int) := by omega
  have hj1 : (j : Int) < (u.length : Int) := by omega
  clear h hl b1 b2 b3 em el ey hb ka kb
  go_enter Try.func100, Try.ntmps100
  go_wp2_with (first
    | (go_at_call 73; (with_reducible refine (impl_has.calls (S : Int) (i : Int) true _ E1.out).mono ?_); rintro e w2 ⟨rfl, ⟨nd, rfl⟩⟩)
    | (go_at_call 73; (with_reducible refine (impl_has.calls (S : Int) (j : Int) true _ E2.out).mono ?_); rintro e w2 ⟨rfl, ⟨nd2, rfl⟩⟩))
  refine start_ (n := 35) (S := fun w' => w'.cell? ⟨Bs, 0, none⟩ = some (.int .i64 (v : Int)) ∧ w'.cell? ⟨Bg, 0, none⟩ = some (.pointer (some ⟨g, 0, none⟩)) ∧ w'.cell? ⟨g, 1, none⟩ = some (.slice (some am) u.length ba) ∧ w'.cell? (am.add i) = some (.slice (some an2) u.length c3) ∧ w'.cell? (an2.add j) = some (.int .i64 (m : Int)) ∧ w'.cell? ⟨g, 2, none⟩ = some (.slice (some ao) u.length bo) ∧ w'.cell? (ao.add i) = some (.slice (some ar2) u.length c4) ∧ w'.cell? (ar2.add j) = some (.int .i64 (l : Int)) ∧ w'.cell? ⟨g, 3, none⟩ = some (.slice (some an) u.length bn) ∧ w'.cell? (an.add i) = some (.int .i64 (y : Int))) (ds := [34]) #[false, false, false, false, false, false, false, false, false, false, false, false, false, false, false, false, false, false, false, false, false, false, false, false, false, false, false, false, false, false, false, false, false, false, false] (by kernel_rfl) rfl rfl ⟨f0, f1, f2, f3, f4, f5, f6, f7, f8, f9⟩ (fun hHeld => ?_)
  refine take_ (i := 0) (N := some 16) (v := ?_) (a' := ?_) #[true, false, false, false, false, false, false, false, false, false, false, false, false, false, false, false, false, false, false, false, false, false, false, false, false, false, false, false, false, false, false, false, false, false, false] rfl rfl (by kernel_rfl) (fun _ _ _ h => h) (Or.inl ⟨by rfl, ?_⟩) hHeld ?_ ?_
  rotate_left
  · rintro w' ⟨s0, s1, s2, s3, s4, s5, s6, s7, s8, s9⟩
    go_simp
    with_reducible rfl
  rotate_left
  · simp only [Act.put, List.setIfInBounds_toArray, List.set_cons_zero, List.set_cons_succ, i64_w, i32_w]
    rfl
  refine take_ (i := 1) (N := some 17) (v := ?_) (a' := ?_) #[true, true, false, false, false, false, false, false, false, false, false, false, false, false, false, false, false, false, false, false, false, false, false, false, false, false, false, false, false, false, false, false, false, false, false] rfl rfl (by kernel_rfl) (fun _ _ _ h => h) (Or.inl ⟨by rfl, ?_⟩) hHeld ?_ ?_
  rotate_left
  · rintro w' ⟨s0, s1, s2, s3, s4, s5, s6, s7, s8, s9⟩
    go_simp
    with_reducible rfl
  rotate_left
  · simp only [Act.put, List.setIfInBounds_toArray, List.set_cons_zero, List.set_cons_succ, i64_w, i32_w]
    rfl
  refine pure_ (i := 2) (N := some 18) (v := ?_) (a' := ?_) #[true, true, true, false, false, false, false, false, false, false, false, false, false, false, false, false, false, false, false, false, false, false, false, false, false, false, false, false, false, false, false, false, false, false, false] rfl rfl (by kernel_rfl) (fun _ _ _ h => h) (Or.inl ⟨by rfl, ?_⟩) ?_ ?_
  rotate_left
  · intro w'
    go_simp
    with_reducible rfl
  rotate_left
  · simp only [Act.put, List.setIfInBounds_toArray, List.set_cons_zero, List.set_cons_succ, i64_w, i32_w]
    rfl
  refine pure_ (i := 3) (N := some 19) (v := ?_) (a' := ?_) #[true, true, true, true, false, false, false, false, false, false, false, false, false, false, false, false, false, false, false, false, false, false, false, false, false, false, false, false, false, false, false, false, false, false, false] rfl rfl (by kernel_rfl) (fun _ _ _ h => h) (Or.inl ⟨by rfl, ?_⟩) ?_ ?_
  rotate_left
  · intro w'
    go_simp
    with_reducible rfl
  rotate_left
  · simp only [Act.put, List.setIfInBounds_toArray, List.set_cons_zero, List.set_cons_succ, i64_w, i32_w]
    rfl
  refine take_ (i := 4) (N := some 20) (v := ?_) (a' := ?_) #[true, true, true, true, true, false, false, false, false, false, false, false, false, false, false, false, false, false, false, false, false, false, false, false, false, false, false, false, false, false, false, false, false, false, false] rfl rfl (by kernel_rfl) (fun _ _ _ h => h) (Or.inl ⟨by rfl, ?_⟩) hHeld ?_ ?_
  rotate_left
  · rintro w' ⟨s0, s1, s2, s3, s4, s5, s6, s7, s8, s9⟩
    go_simp
    with_reducible rfl
  rotate_left
  · simp only [Act.put, List.setIfInBounds_toArray, List.set_cons_zero, List.set_cons_succ, i64_w, i32_w]
    rfl
  refine pure_ (i := 5) (N := some 21) (v := ?_) (a' := ?_) #[true, true, true, true, true, true, false, false, false, false, false, false, false, false, false, false, false, false, false, false, false, false, false, false, false, false, false, false, false, false, false, false, false, false, false] rfl rfl (by kernel_rfl) (fun _ _ _ h => h) (Or.inl ⟨by rfl, ?_⟩) ?_ ?_
  rotate_left
  · intro w'
    go_simp
    with_reducible rfl
  rotate_left
  · simp only [Act.put, List.setIfInBounds_toArray, List.set_cons_zero, List.set_cons_succ, i64_w, i32_w]
    rfl
  refine pure_ (i := 6) (N := some 22) (v := ?_) (a' := ?_) #[true, true, true, true, true, true, true, false, false, false, false, false, false, false, false, false, false, false, false, false, false, false, false, false, false, false, false, false, false, false, false, false, false, false, false] rfl rfl (by kernel_rfl) (fun _ _ _ h => h) (Or.inl ⟨by rfl, ?_⟩) ?_ ?_
  rotate_left
  · intro w'
    go_simp
    with_reducible rfl
  rotate_left
  · simp only [Act.put, List.setIfInBounds_toArray, List.set_cons_zero, List.set_cons_succ, i64_w, i32_w]
    rfl
  refine take_ (i := 7) (N := some 23) (v := ?_) (a' := ?_) #[true, true, true, true, true, true, true, true, false, false, false, false, false, false, false, false, false, false, false, false, false, false, false, false, false, false, false, false, false, false, false, false, false, false, false] rfl rfl (by kernel_rfl) (fun _ _ _ h => h) (Or.inl ⟨by rfl, ?_⟩) hHeld ?_ ?_
  rotate_left
  · rintro w' ⟨s0, s1, s2, s3, s4, s5, s6, s7, s8, s9⟩
    go_simp
    with_reducible rfl
  rotate_left
  · simp only [Act.put, List.setIfInBounds_toArray, List.set_cons_zero, List.set_cons_succ, i64_w, i32_w]
    rfl
  refine pure_ (i := 8) (N := some 24) (v := ?_) (a' := ?_) #[true, true, true, true, true, true, true, true, true, false, false, false, false, false, false, false, false, false, false, false, false, false, false, false, false, false, false, false, false, false, false, false, false, false, false] rfl rfl (by kernel_rfl) (fun _ _ _ h => h) (Or.inl ⟨by rfl, ?_⟩) ?_ ?_
  rotate_left
  · intro w'
    go_simp
    with_reducible rfl
  rotate_left
  · simp only [Act.put, List.setIfInBounds_toArray, List.set_cons_zero, List.set_cons_succ, i64_w, i32_w]
    rfl
  refine pure_ (i := 9) (N := some 25) (v := ?_) (a' := ?_) #[true, true, true, true, true, true, true, true, true, true, false, false, false, false, false, false, false, false, false, false, false, false, false, false, false, false, false, false, false, false, false, false, false, false, false] rfl rfl (by kernel_rfl) (fun _ _ _ h => h) (Or.inl ⟨by rfl, ?_⟩) ?_ ?_
  rotate_left
  · intro w'
    go_simp
    with_reducible rfl
  rotate_left
  · simp only [Act.put, List.setIfInBounds_toArray, List.set_cons_zero, List.set_cons_succ, i64_w, i32_w]
    rfl
  refine take_ (i := 10) (N := some 26) (v := ?_) (a' := ?_) #[true, true, true, true, true, true, true, true, true, true, true, false, false, false, false, false, false, false, false, false, false, false, false, false, false, false, false, false, false, false, false, false, false, false, false] rfl rfl (by kernel_rfl) (fun _ _ _ h => h) (Or.inl ⟨by rfl, ?_⟩) hHeld ?_ ?_
  rotate_left
  · rintro w' ⟨s0, s1, s2, s3, s4, s5, s6, s7, s8, s9⟩
    go_simp
    with_reducible rfl
  rotate_left
  · simp only [Act.put, List.setIfInBounds_toArray, List.set_cons_zero, List.set_cons_succ, i64_w, i32_w]
    rfl
  refine pure_ (i := 11) (N := some 27) (v := ?_) (a' := ?_) #[true, true, true, true, true, true, true, true, true, true, true, true, false, false, false, false, false, false, false, false, false, false, false, false, false, false, false, false, false, false, false, false, false, false, false] rfl rfl (by kernel_rfl) (fun _ _ _ h => h) (Or.inl ⟨by rfl, ?_⟩) ?_ ?_
  rotate_left
  · intro w'
    go_simp
    with_reducible rfl
  rotate_left
  · simp only [Act.put, List.setIfInBounds_toArray, List.set_cons_zero, List.set_cons_succ, i64_w, i32_w]
    rfl
  refine take_ (i := 12) (N := some 28) (v := ?_) (a' := ?_) #[true, true, true, true, true, true, true, true, true, true, true, true, true, false, false, false, false, false, false, false, false, false, false, false, false, false, false, false, false, false, false, false, false, false, false] rfl rfl (by kernel_rfl) (fun _ _ _ h => h) (Or.inl ⟨by rfl, ?_⟩) hHeld ?_ ?_
  rotate_left
  · rintro w' ⟨s0, s1, s2, s3, s4, s5, s6, s7, s8, s9⟩
    go_simp
    with_reducible rfl
  rotate_left
  · simp only [Act.put, List.setIfInBounds_toArray, List.set_cons_zero, List.set_cons_succ, i64_w, i32_w]
    rfl
  refine pure_ (i := 13) (N := some 29) (v := ?_) (a' := ?_) #[true, true, true, true, true, true, true, true, true, true, true, true, true, true, false, false, false, false, false, false, false, false, false, false, false, false, false, false, false, false, false, false, false, false, false] rfl rfl (by kernel_rfl) (fun _ _ _ h => h) (Or.inl ⟨by rfl, ?_⟩) ?_ ?_
  rotate_left
  · intro w'
    go_simp
    with_reducible rfl
  rotate_left
  · simp only [Act.put, List.setIfInBounds_toArray, List.set_cons_zero, List.set_cons_succ, i64_w, i32_w]
    rfl
  refine pure_ (i := 14) (N := some 30) (v := ?_) (a' := ?_) #[true, true, true, true, true, true, true, true, true, true, true, true, true, true, true, false, false, false, false, false, false, false, false, false, false, false, false, false, false, false, false, false, false, false, false] rfl rfl (by kernel_rfl) (fun _ _ _ h => h) (Or.inl ⟨by rfl, ?_⟩) ?_ ?_
  rotate_left
  · intro w'
    go_simp
    with_reducible rfl
  rotate_left
  · simp only [Act.put, List.setIfInBounds_toArray, List.set_cons_zero, List.set_cons_succ, i64_w, i32_w]
    rfl
  refine take_ (i := 15) (N := some 31) (v := ?_) (a' := ?_) #[true, true, true, true, true, true, true, true, true, true, true, true, true, true, true, true, false, false, false, false, false, false, false, false, false, false, false, false, false, false, false, false, false, false, false] rfl rfl (by kernel_rfl) (fun _ _ _ h => h) (Or.inl ⟨by rfl, ?_⟩) hHeld ?_ ?_
  rotate_left
  · rintro w' ⟨s0, s1, s2, s3, s4, s5, s6, s7, s8, s9⟩
    go_simp
    with_reducible rfl
  rotate_left
  · simp only [Act.put, List.setIfInBounds_toArray, List.set_cons_zero, List.set_cons_succ, i64_w, i32_w]
    rfl
  refine pure_ (i := 16) (N := some 32) (v := ?_) (a' := ?_) #[true, true, true, true, true, true, true, true, true, true, true, true, true, true, true, true, true, false, false, false, false, false, false, false, false, false, false, false, false, false, false, false, false, false, false] rfl rfl (by kernel_rfl) (fun _ _ _ h => h) (Or.inl ⟨by rfl, ?_⟩) ?_ ?_
  rotate_left
  · intro w'
    go_simp
    with_reducible rfl
  rotate_left
  · simp only [Act.put, List.setIfInBounds_toArray, List.set_cons_zero, List.set_cons_succ, i64_w, i32_w]
    rfl
  refine pure_ (i := 17) (N := some 33) (v := ?_) (a' := ?_) #[true, true, true, true, true, true, true, true, true, true, true, true, true, true, true, true, true, true, false, false, false, false, false, false, false, false, false, false, false, false, false, false, false, false, false] rfl rfl (by kernel_rfl) (fun _ _ _ h => h) (Or.inl ⟨by rfl, ?_⟩) ?_ ?_
  rotate_left
  · intro w'
    go_simp
    with_reducible rfl
  rotate_left
  · simp only [Act.put, List.setIfInBounds_toArray, List.set_cons_zero, List.set_cons_succ, i64_w, i32_w]
    rfl
  refine take_ (i := 18) (N := some 34) (v := ?_) (a' := ?_) #[true, true, true, true, true, true, true, true, true, true, true, true, true, true, true, true, true, true, true, false, false, false, false, false, false, false, false, false, false, false, false, false, false, false, false] rfl rfl (by kernel_rfl) (fun _ _ _ h => h) (Or.inl ⟨by rfl, ?_⟩) hHeld ?_ ?_
  rotate_left
  · rintro w' ⟨s0, s1, s2, s3, s4, s5, s6, s7, s8, s9⟩
    go_simp
    with_reducible rfl
  rotate_left
  · simp only [Act.put, List.setIfInBounds_toArray, List.set_cons_zero, List.set_cons_succ, i64_w, i32_w]
    rfl
  refine pure_ (i := 19) (N := some 35) (v := ?_) (a' := ?_) #[true, true, true, true, true, true, true, true, true, true, true, true, true, true, true, true, true, true, true, true, false, false, false, false, false, false, false, false, false, false, false, false, false, false, false] rfl rfl (by kernel_rfl) (fun _ _ _ h => h) (Or.inl ⟨by rfl, ?_⟩) ?_ ?_
  rotate_left
  · intro w'
    go_simp
    with_reducible rfl
  rotate_left
  · simp only [Act.put, List.setIfInBounds_toArray, List.set_cons_zero, List.set_cons_succ, i64_w, i32_w]
    rfl
  refine pure_ (i := 20) (N := some 36) (v := ?_) (a' := ?_) #[true, true, true, true, true, true, true, true, true, true, true, true, true, true, true, true, true, true, true, true, true, false, false, false, false, false, false, false, false, false, false, false, false, false, false] rfl rfl (by kernel_rfl) (fun _ _ _ h => h) (Or.inl ⟨by rfl, ?_⟩) ?_ ?_
  rotate_left
  · intro w'
    go_simp
    with_reducible rfl
  rotate_left
  · simp only [Act.put, List.setIfInBounds_toArray, List.set_cons_zero, List.set_cons_succ, i64_w, i32_w]
    rfl
  refine take_ (i := 21) (N := some 37) (v := ?_) (a' := ?_) #[true, true, true, true, true, true, true, true, true, true, true, true, true, true, true, true, true, true, true, true, true, true, false, false, false, false, false, false, false, false, false, false, false, false, false] rfl rfl (by kernel_rfl) (fun _ _ _ h => h) (Or.inl ⟨by rfl, ?_⟩) hHeld ?_ ?_
  rotate_left
  · rintro w' ⟨s0, s1, s2, s3, s4, s5, s6, s7, s8, s9⟩
    go_simp
    with_reducible rfl
  rotate_left
  · simp only [Act.put, List.setIfInBounds_toArray, List.set_cons_zero, List.set_cons_succ, i64_w, i32_w]
    rfl
  refine pure_ (i := 22) (N := some 38) (v := ?_) (a' := ?_) #[true, true, true, true, true, true, true, true, true, true, true, true, true, true, true, true, true, true, true, true, true, true, true, false, false, false, false, false, false, false, false, false, false, false, false] rfl rfl (by kernel_rfl) (fun _ _ _ h => h) (Or.inl ⟨by rfl, ?_⟩) ?_ ?_
  rotate_left
  · intro w'
    go_simp
    with_reducible rfl
  rotate_left
  · simp only [Act.put, List.setIfInBounds_toArray, List.set_cons_zero, List.set_cons_succ, i64_w, i32_w]
    rfl
  refine pure_ (i := 23) (N := some 39) (v := ?_) (a' := ?_) #[true, true, true, true, true, true, true, true, true, true, true, true, true, true, true, true, true, true, true, true, true, true, true, true, false, false, false, false, false, false, false, false, false, false, false] rfl rfl (by kernel_rfl) (fun _ _ _ h => h) (Or.inl ⟨by rfl, ?_⟩) ?_ ?_
  rotate_left
  · intro w'
    go_simp
    with_reducible rfl
  rotate_left
  · simp only [Act.put, List.setIfInBounds_toArray, List.set_cons_zero, List.set_cons_succ, i64_w, i32_w]
    rfl
  refine take_ (i := 24) (N := some 40) (v := ?_) (a' := ?_) #[true, true, true, true, true, true, true, true, true, true, true, true, true, true, true, true, true, true, true, true, true, true, true, true, true, false, false, false, false, false, false, false, false, false, false] rfl rfl (by kernel_rfl) (fun _ _ _ h => h) (Or.inl ⟨by rfl, ?_⟩) hHeld ?_ ?_
  rotate_left
  · rintro w' ⟨s0, s1, s2, s3, s4, s5, s6, s7, s8, s9⟩
    go_simp
    with_reducible rfl
  rotate_left
  · simp only [Act.put, List.setIfInBounds_toArray, List.set_cons_zero, List.set_cons_succ, i64_w, i32_w]
    rfl
  refine pure_ (i := 25) (N := some 41) (v := ?_) (a' := ?_) #[true, true, true, true, true, true, true, true, true, true, true, true, true, true, true, true, true, true, true, true, true, true, true, true, true, true, false, false, false, false, false, false, false, false, false] rfl rfl (by kernel_rfl) (fun _ _ _ h => h) (Or.inl ⟨by rfl, ?_⟩) ?_ ?_
  rotate_left
  · intro w'
    go_simp
    with_reducible rfl
  rotate_left
  · simp only [Act.put, List.setIfInBounds_toArray, List.set_cons_zero, List.set_cons_succ, i64_w, i32_w]
    rfl
  refine pure_ (i := 26) (N := some 42) (v := ?_) (a' := ?_) #[true, true, true, true, true, true, true, true, true, true, true, true, true, true, true, true, true, true, true, true, true, true, true, true, true, true, true, false, false, false, false, false, false, false, false] rfl rfl (by kernel_rfl) (fun _ _ _ h => h) (Or.inl ⟨by rfl, ?_⟩) ?_ ?_
  rotate_left
  · intro w'
    go_simp
    with_reducible rfl
  rotate_left
  · simp only [Act.put, List.setIfInBounds_toArray, List.set_cons_zero, List.set_cons_succ, i64_w, i32_w]
    rfl
  refine take_ (i := 27) (N := some 43) (v := ?_) (a' := ?_) #[true, true, true, true, true, true, true, true, true, true, true, true, true, true, true, true, true, true, true, true, true, true, true, true, true, true, true, true, false, false, false, false, false, false, false] rfl rfl (by kernel_rfl) (fun _ _ _ h => h) (Or.inl ⟨by rfl, ?_⟩) hHeld ?_ ?_
  rotate_left
  · rintro w' ⟨s0, s1, s2, s3, s4, s5, s6, s7, s8, s9⟩
    go_simp
    with_reducible rfl
  rotate_left
  · simp only [Act.put, List.setIfInBounds_toArray, List.set_cons_zero, List.set_cons_succ, i64_w, i32_w]
    rfl
  refine pure_ (i := 28) (N := some 44) (v := ?_) (a' := ?_) #[true, true, true, true, true, true, true, true, true, true, true, true, true, true, true, true, true, true, true, true, true, true, true, true, true, true, true, true, true, false, false, false, false, false, false] rfl rfl (by kernel_rfl) (fun _ _ _ h => h) (Or.inl ⟨by rfl, ?_⟩) ?_ ?_
  rotate_left
  · intro w'
    go_simp
    with_reducible rfl
  rotate_left
  · simp only [Act.put, List.setIfInBounds_toArray, List.set_cons_zero, List.set_cons_succ, i64_w, i32_w]
    rfl
  refine pure_ (i := 29) (N := some 45) (v := ?_) (a' := ?_) #[true, true, true, true, true, true, true, true, true, true, true, true, true, true, true, true, true, true, true, true, true, true, true, true, true, true, true, true, true, true, false, false, false, false, false] rfl rfl (by kernel_rfl) (fun _ _ _ h => h) (Or.inl ⟨by rfl, ?_⟩) ?_ ?_
  rotate_left
  · intro w'
    go_simp
    with_reducible rfl
  rotate_left
  · simp only [Act.put, List.setIfInBounds_toArray, List.set_cons_zero, List.set_cons_succ, i64_w, i32_w]
    rfl
  refine take_ (i := 30) (N := some 46) (v := ?_) (a' := ?_) #[true, true, true, true, true, true, true, true, true, true, true, true, true, true, true, true, true, true, true, true, true, true, true, true, true, true, true, true, true, true, true, false, false, false, false] rfl rfl (by kernel_rfl) (fun _ _ _ h => h) (Or.inl ⟨by rfl, ?_⟩) hHeld ?_ ?_
  rotate_left
  · rintro w' ⟨s0, s1, s2, s3, s4, s5, s6, s7, s8, s9⟩
    go_simp
    with_reducible rfl
  rotate_left
  · simp only [Act.put, List.setIfInBounds_toArray, List.set_cons_zero, List.set_cons_succ, i64_w, i32_w]
    rfl
  refine pure_ (i := 31) (N := some 47) (v := ?_) (a' := ?_) #[true, true, true, true, true, true, true, true, true, true, true, true, true, true, true, true, true, true, true, true, true, true, true, true, true, true, true, true, true, true, true, true, false, false, false] rfl rfl (by kernel_rfl) (fun _ _ _ h => h) (Or.inl ⟨by rfl, ?_⟩) ?_ ?_
  rotate_left
  · intro w'
    go_simp
    with_reducible rfl
  rotate_left
  · simp only [Act.put, List.setIfInBounds_toArray, List.set_cons_zero, List.set_cons_succ, i64_w, i32_w]
    rfl
  refine pure_ (i := 32) (N := some 48) (v := ?_) (a' := ?_) #[true, true, true, true, true, true, true, true, true, true, true, true, true, true, true, true, true, true, true, true, true, true, true, true, true, true, true, true, true, true, true, true, true, false, false] rfl rfl (by kernel_rfl) (fun _ _ _ h => h) (Or.inl ⟨by rfl, ?_⟩) ?_ ?_
  rotate_left
  · intro w'
    go_simp
    with_reducible rfl
  rotate_left
  · simp only [Act.put, List.setIfInBounds_toArray, List.set_cons_zero, List.set_cons_succ, i64_w, i32_w]
    rfl
  refine pure_ (i := 33) (N := some 49) (v := ?_) (a' := ?_) #[true, true, true, true, true, true, true, true, true, true, true, true, true, true, true, true, true, true, true, true, true, true, true, true, true, true, true, true, true, true, true, true, true, true, false] rfl rfl (by kernel_rfl) (fun _ _ _ h => h) (Or.inl ⟨by rfl, ?_⟩) ?_ ?_
  rotate_left
  · intro w'
    go_simp
    with_reducible rfl
  rotate_left
  · simp only [Act.put, List.setIfInBounds_toArray, List.set_cons_zero, List.set_cons_succ, i64_w, i32_w]
    rfl
  have hs2 : wr.cell? ⟨Bs, 0, none⟩ = some (.int .i64 (v : Int)) := (blk_cell HX.out 0).trans rfl
  have hz2 : wr.frozen? ⟨Bs, 0, none⟩ = false := blk_frozen HX.out 0
  refine last_ (i := 34) (N := none) #[true, true, true, true, true, true, true, true, true, true, true, true, true, true, true, true, true, true, true, true, true, true, true, true, true, true, true, true, true, true, true, true, true, true, true] rfl rfl (by kernel_rfl) (by decide) (fun K hK => ?_)
  refine skip_ (w1 := ?_) (by rfl) rfl ?_ ?_
  rotate_left
  · go_simp
    rfl
  refine hK.out _ _ ?_
  clear hK K
  refine done_ (by kernel_rfl) ?_
  go_wp2
  go_ret
  exact ⟨rfl, _, by rw [HE.out.1]⟩
set_option maxHeartbeats 8000000 in
set_option maxRecDepth 100000 in
theorem closed1_no {wr : World} {n Bb Bs Bg : Nat} {S i j : Nat} (h12 : n ≤ 12) (hi : i < n) (hj : j < n) (hS : S < 2 ^ n)
    (b1 : wr.heap[Bb]? = some (.cells #[.int .i64 (S : Int)] 3 (0, 0))) (kab : ¬ (S.testBit i = true ∧ S.testBit j = true)) :
    Calls Try.prog 100 #[.int .i64 i, .int .i64 j, .pointer (some ⟨Bb, 0, none⟩), .pointer (some ⟨Bs, 0, none⟩), .pointer (some ⟨Bg, 0, none⟩)] wr fun e w' => e = .returned (.bool true) ∧ Drawn0 wr w' := by
  have E1 := Aside0.mk (Q.has_eq h12 hS hi)
  have E2 := Aside0.mk (Q.has_eq h12 hS hj)
  have hq : wr.cell? ⟨Bb, 0, none⟩ = some (.int .i64 (S : Int)) := (blk_cell b1 0).trans rfl
  clear b1
  cases k1 : S.testBit i with
  | false =>
    rw [k1] at E1
    clear k1 kab
    go_enter Try.func100, Try.ntmps100
    go_wp2_with (go_at_call 73; (with_reducible refine (impl_has.calls (S : Int) (i : Int) false _ E1.out).mono ?_); rintro e w2 ⟨rfl, ⟨nd, rfl⟩⟩)
    go_ret
    exact ⟨rfl, ⟨_, rfl⟩⟩
  | true =>
    have k2 : S.testBit j = false := by
      cases q : S.testBit j with
      | false => rfl
      | true => exact absurd ⟨k1, q⟩ kab
    rw [k1] at E1
    rw [k2] at E2
    clear k1 k2 kab
    go_enter Try.func100, Try.ntmps100
    go_wp2_with (first
      | (go_at_call 73; (with_reducible refine (impl_has.calls (S : Int) (i : Int) true _ E1.out).mono ?_); rintro e w2 ⟨rfl, ⟨nd, rfl⟩⟩)
      | (go_at_call 73; (with_reducible refine (impl_has.calls (S : Int) (j : Int) false _ E2.out).mono ?_); rintro e w2 ⟨rfl, ⟨nd2, rfl⟩⟩))
    go_ret
    exact ⟨rfl, ⟨_, rfl⟩⟩
def Pass (u : List (List Int)) (nt : List Int) (g Bb Bs Bg : Nat) (w0 : World) (S : Nat) (i j : Nat) (w' : World) : Prop :=
  ∃ v : Nat, Below w0.heap.size w0 w' ∧ w'.heap[Bb]? = some (.cells #[.int .i64 (S : Int)] 3 (0, 0)) ∧ w'.heap[Bs]? = some (.cells #[.int .i64 (v : Int)] 3 (0, 0)) ∧ w'.heap[Bg]? = some (.cells #[.pointer (some ⟨g, 0, none⟩)] 52 (0, 0)) ∧ v < 2 ^ u.length ∧ SubS u.length S v ∧
    (∀ T, T < 2 ^ u.length → Cls u nt T → SubS u.length S T → SubS u.length v T) ∧
    ∀ a b, a < u.length → b < u.length → (a < i ∨ a = i ∧ b < j) → S.testBit a = true → S.testBit b = true → v.testBit (mt u a b).toNat = true ∧ v.testBit (jn u a b).toNat = true ∧ v.testBit (rd nt a).toNat = true
theorem pass_step {w0 w' : World} {g Bb Bs Bg : Nat} {u : List (List Int)} {nt : List Int} {no yes : Int} (h : AlgAt w0 g u (mtab u) (jtab u) nt no yes) (hl : OL u nt) (h1 : Bb ≠ Bs) (h2 : w0.heap.size ≤ Bs) {S : Nat} (hS : S < 2 ^ u.length) {i j : Nat} (hi : i < u.length) (hj : j < u.length) (I : Pass u nt g Bb Bs Bg w0 S i j w') :
    Calls Try.prog 100 #[.int .i64 i, .int .i64 j, .pointer (some ⟨Bb, 0, none⟩), .pointer (some ⟨Bs, 0, none⟩), .pointer (some ⟨Bg, 0, none⟩)] w' fun e w'' => ∃ b, e = .returned (.bool b) ∧ (b = true → Pass u nt g Bb Bs Bg w0 S i (j + 1) w'') ∧ (b = false → False) := by
  obtain ⟨v, hB, b1, b2, b3, hv, hsub, hmin, hdone⟩ := I
  have h12 := hl.1.1.le12
  have split : ∀ a b, (a < i ∨ a = i ∧ b < j + 1) → (a < i ∨ a = i ∧ b < j) ∨ a = i ∧ b = j := fun a b q => by omega
  by_cases k : S.testBit i = true ∧ S.testBit j = true
  · refine (closed1_yes h hl hB hi hj hS hv b1 b2 b3 k.1 k.2).mono ?_
    rintro e w'' ⟨rfl, n, rfl⟩
    refine ⟨true, rfl, fun _ => ?_, fun q => by cases q⟩
    have hm := mt_in hl.1 (a := (i : Int)) (b := (j : Int)) ⟨by omega, by omega⟩ ⟨by omega, by omega⟩
    have hj2 := jn_in hl.1 (a := (i : Int)) (b := (j : Int)) ⟨by omega, by omega⟩ ⟨by omega, by omega⟩
    have hy := ng_in hl (a := (i : Int)) ⟨by omega, by omega⟩
    have hE := (Q.or4_set (v := v) (m := (mt u i j).toNat) (l := (jn u i j).toNat) (y := (rd nt i).toNat) h12 hv (by omega) (by omega) (by omega)).2
    have hbit := Q.or_bits v (mt u i j).toNat (jn u i j).toNat (rd nt i).toNat
    have old : ∀ a, v.testBit a = true → (v ||| (2 ^ (mt u i j).toNat ||| 2 ^ (jn u i j).toNat ||| 2 ^ (rd nt i).toNat)).testBit a = true := fun a q => by rw [hbit, q]; rfl
    have hne : Bg ≠ Bs := fun e => by
      rw [e, b2] at b3
      cases b3
    refine ⟨_, below_set (pw_below_drewN hB n) h2, blk_far (blk_drewN b1 n) h1 _, blk_put (blk_drewN b2 n) 0 _ rfl, blk_far (blk_drewN b3 n) hne _, hE, fun a ha q => old a (hsub a ha q), fun T hT hc hs a ha q => ?_, fun a b ha hb q ka kb => ?_⟩
    · rw [hbit] at q
      rcases Bool.or_eq_true_iff.1 q with q | q
      · exact hmin T hT hc hs a ha q
      · have c1 := hc i hi (hs i hi k.1)
        have c2 := c1.2 j hj (hs j hj k.2)
        rcases Bool.or_eq_true_iff.1 q with q | q
        · rcases Bool.or_eq_true_iff.1 q with q | q
          · rw [← of_decide_eq_true q]; exact c2.1
          · rw [← of_decide_eq_true q]; exact c2.2
        · rw [← of_decide_eq_true q]; exact c1.1
    · rcases split a b q with q | ⟨rfl, rfl⟩
      · have := hdone a b ha hb q ka kb
        exact ⟨old _ this.1, old _ this.2.1, old _ this.2.2⟩
      · rw [hbit, hbit, hbit]
        simp
  · refine (closed1_no (Bs := Bs) (Bg := Bg) h12 hi hj hS b1 k).mono ?_
    rintro e w'' ⟨rfl, ⟨n, rfl⟩⟩
    refine ⟨true, rfl, fun _ => ⟨v, pw_below_drewN hB n, blk_drewN b1 n, blk_drewN b2 n, blk_drewN b3 n, hv, hsub, hmin, fun a b ha hb q ka kb => ?_⟩, fun q => by cases q⟩
    rcases split a b q with q | ⟨rfl, rfl⟩
    · exact hdone a b ha hb q ka kb
    · exact absurd ⟨ka, kb⟩ k
set_option maxHeartbeats 4000000 in
set_option maxRecDepth 100000 in
theorem pass_every {w0 w' : World} {g Bb Bs Bg : Nat} {u : List (List Int)} {nt : List Int} {no yes : Int} (h : AlgAt w0 g u (mtab u) (jtab u) nt no yes) (hl : OL u nt) (h1 : Bb ≠ Bs) (h2 : w0.heap.size ≤ Bs) {S : Nat} (hS : S < 2 ^ u.length) (I : Pass u nt g Bb Bs Bg w0 S 0 0 w') :
    Calls Try.prog 56 #[.pointer (some ⟨g, 0, none⟩), .func (.func 100) #[] #[.pointer (some ⟨Bb, 0, none⟩), .pointer (some ⟨Bs, 0, none⟩), .pointer (some ⟨Bg, 0, none⟩)]] w' fun e w'' => e = .returned (.bool true) ∧ Pass u nt g Bb Bs Bg w0 S u.length 0 w'' := by
  obtain ⟨Bu, bu, _, _, _, _, _, _, hz, _⟩ := id h
  refine (every_inv (g := g) (n := u.length) (c := bu) (A := Bu) 100 _ (enters_of Try.func100 (by kernel_rfl) rfl) (Pass u nt g Bb Bs Bg w0 S) (fun _ => False) ?_ (by have := hl.1.1.2.1; omega) I ?_ (fun i j w2 hi hj J => by rw [show (#[Value.int .i64 (i : Int), .int .i64 (j : Int)] ++ #[Value.pointer (some ⟨Bb, 0, none⟩), .pointer (some ⟨Bs, 0, none⟩), .pointer (some ⟨Bg, 0, none⟩)] : Array Value) = #[.int .i64 i, .int .i64 j, .pointer (some ⟨Bb, 0, none⟩), .pointer (some ⟨Bs, 0, none⟩), .pointer (some ⟨Bg, 0, none⟩)] from by simp]; exact pass_step h hl h1 h2 hS hi hj J)).mono ?_
  · rintro i j w2 ⟨v, hB, _⟩
    exact (blk_cell (blk_below hz hB) 0).trans rfl
  · rintro i w2 hi ⟨v, hB, b1, b2, b3, hv, hs, hm, hd⟩
    exact ⟨v, hB, b1, b2, b3, hv, hs, hm, fun a b ha hb q => hd a b ha hb (by omega)⟩
  · rintro e w2 (⟨rfl, hP⟩ | ⟨_, hF⟩)
    · exact ⟨rfl, hP⟩
    · exact hF.elim
def cellN (w : World) (b : Nat) : Nat := match w.cell? ⟨b, 0, none⟩ with
  | some (.int _ n) => n.toNat
  | _ => 0
theorem cellN_of {w : World} {b v : Nat} {t : Nat} (h : w.heap[b]? = some (.cells #[.int .i64 (v : Int)] t (0, 0))) : cellN w b = v := by
  unfold cellN
  rw [show w.cell? ⟨b, 0, none⟩ = some (.int .i64 (v : Int)) from (blk_cell h 0).trans rfl]
  rfl
set_option maxHeartbeats 8000000 in
set_option maxRecDepth 100000 in
theorem closed_calls {w : World} {g : Nat} {u : List (List Int)} {nt : List Int} {no yes : Int} (h : AlgAt w g u (mtab u) (jtab u) nt no yes) (hl : OL u nt) {S : Nat} (hS : S < 2 ^ u.length) :
    Calls Try.prog 71 #[.pointer (some ⟨g, 0, none⟩), .int .i64 S] w fun e w' => e = .returned (.int .i64 (closN u nt S)) ∧ Below w.heap.size w w' := by
  have HL := Aside0.mk hl
  have HA := Aside0.mk h
  have HS0 := Aside0.mk hS
  have HP12 := Aside0.mk (Q.pow_le12 hl.1.1.le12)
  clear h hl hS
  go_enter Try.func71, Try.ntmps71
  go_wp2_with (first
    | ((with_reducible refine gate_dst (N := 2) rfl ?_); refine box_event ?hg (N := 2) ?hd (cs := #[.pointer (some ⟨g, 0, none⟩)]) (t := 52) ?hr ?_; (case hd => rfl); (case hg => rfl); (case hr => first | (go_simp; done) | (go_simp; rfl)); intro Bg hg w1 hbox hb; have HG := Aside0.mk hbox; have HB1 := Aside0.mk hb; clear hb hg hbox)
    | ((with_reducible refine gate_dst (N := 3) rfl ?_); refine box_event ?hg (N := 3) ?hd (cs := #[.int .i64 (S : Int)]) (t := 3) ?hr ?_; (case hd => rfl); (case hg => rfl); (case hr => first | (go_simp; done) | (go_simp; rfl)); intro Bs hg w2 hbox hb; have HS2 := Aside0.mk hbox; have HG2 := Aside0.mk (blk_below HG.out hb); have HB2 := Aside0.mk (below_step HB1.out hb); have HGE : Aside0 (w.heap.size ≤ Bs) := ⟨by rw [hg]; exact below_size HB1.out⟩; clear hb hg hbox HG HB1))
  go_loopw [] (fun wr => ∃ v : Nat, Aside0 (Below w.heap.size w wr) ∧ Aside0 (wr.heap[Bs]? = some (.cells #[.int .i64 (v : Int)] 3 (0, 0))) ∧ Aside0 (wr.heap[Bg]? = some (.cells #[.pointer (some ⟨g, 0, none⟩)] 52 (0, 0))) ∧ Aside0 (v < 2 ^ u.length) ∧ Aside0 (SubS u.length S v) ∧ Aside0 (∀ T, T < 2 ^ u.length → Cls u nt T → SubS u.length S T → SubS u.length v T)) (fun wr => 4096 - cellN wr Bs)
  case atStart => exact ⟨S, HB2, HS2, HG2, HS0, ⟨fun _ _ q => q⟩, ⟨fun T _ _ q => q⟩⟩
  case round =>
    clear HS2 HG2 HB2
    obtain ⟨v, HB, HX, HG, HV, HSS, HM⟩ := hrel
    have hq3 : wr.cell? ⟨Bs, 0, none⟩ = some (.int .i64 (v : Int)) := (blk_cell HX.out 0).trans rfl
    have hq2 : wr.cell? ⟨Bg, 0, none⟩ = some (.pointer (some ⟨g, 0, none⟩)) := (blk_cell HG.out 0).trans rfl
    obtain ⟨W1, hW1⟩ : ∃ W1, W1 = wr := ⟨_, rfl⟩
    have HW1 := Aside0.mk hW1
    clear hW1
    go_wp2_with (first
      | ((with_reducible refine gate_dst (N := 5) rfl ?_); refine box_event ?hg (N := 5) ?hd (cs := #[.int .i64 0]) (t := 3) ?hr ?_; (case hd => rfl); (case hg => rfl); (case hr => first | (go_simp; done) | (go_simp; rfl)); intro Bb hg w4 hbox hb; have HX4 := Aside0.mk (blk_below HX.out hb); have HG4 := Aside0.mk (blk_below HG.out hb); have HB4 := Aside0.mk (below_step HB.out hb); have HN4 := Aside0.mk hbox; have HNE : Aside0 (Bb ≠ Bs) := ⟨by have := blk_lt HX.out; omega⟩; have HGB : Aside0 (w.heap.size ≤ Bb) := ⟨by rw [hg]; exact below_size HB.out⟩; have hq4 : w4.cell? ⟨Bb, 0, none⟩ = some (.int .i64 0) := (blk_cell hbox 0).trans rfl; have hz4 := blk_frozen hbox 0; have hq5 : w4.cell? ⟨Bs, 0, none⟩ = some (.int .i64 (v : Int)) := (blk_cell HX4.out 0).trans rfl; have hq6 : w4.cell? ⟨Bg, 0, none⟩ = some (.pointer (some ⟨g, 0, none⟩)) := (blk_cell HG4.out 0).trans rfl; have HNG : Aside0 (Bg ≠ Bb) := ⟨by have := blk_lt HG.out; omega⟩; have hng := HNG.out; clear hb hg hbox)
      | (go_at_call 56; (with_reducible refine (pass_every (w0 := w) (g := g) (Bb := Bb) (Bs := Bs) (Bg := Bg) (S := v) HA.out HL.out HNE.out HGE.out HV.out ?s1).mono ?_); (case s1 => exact ⟨v, below_set HB4.out HGB.out, blk_put HN4.out 0 _ rfl, blk_far HX4.out (fun e => HNE.out e.symm) _, blk_far HG4.out HNG.out _, HV.out, fun _ _ q => q, fun T _ _ q => q, fun a b _ _ q => absurd q (by omega)⟩); rintro e w6 ⟨rfl, hP⟩; obtain ⟨v2, hB6, b1, b2, b3, hv2, hsub, hmin, hdone⟩ := hP; have hr1 : w6.cell? ⟨Bb, 0, none⟩ = some (.int .i64 (v : Int)) := (blk_cell b1 0).trans rfl; have hr2 : w6.cell? ⟨Bs, 0, none⟩ = some (.int .i64 (v2 : Int)) := (blk_cell b2 0).trans rfl; have HB6 := Aside0.mk hB6; have HX6 := Aside0.mk b2; have HG6 := Aside0.mk b3; have HV2 := Aside0.mk hv2; have HSU := Aside0.mk hsub; have HMI := Aside0.mk hmin; have HDO := Aside0.mk hdone; clear hB6 b1 b2 b3 hv2 hsub hmin hdone; rcases Q.eq_or v2 v with hvv | hvv))
    · have HE : Aside0 (v2 = v) := ⟨by have := eq_of_beq hvv; omega⟩
      go_ret
      refine ⟨?_, HB6.out⟩
      have e : v2 = closN u nt S := by
        have e2 := HE.out
        refine Q.clos_end HV2.out (by rw [e2]; exact HSS.out) (by rw [e2]; exact HM.out) (fun a b ha hb ka kb => ?_)
        have := HDO.out a b ha hb (Or.inl ha)
        rw [e2] at ka kb
        exact this ka kb
      rw [← e]
      rfl
    · have HLT : Aside0 (v < v2) := ⟨Q.sub_lt HV.out HV2.out HSU.out (fun e => by rw [e] at hvv; simp at hvv)⟩
      go_roundw
      case rel => exact ⟨v2, HB6, HX6, HG6, HV2, ⟨fun a ha k => HSU.out a ha (HSS.out a ha k)⟩, ⟨fun T hT hc hs => HMI.out T hT hc (HM.out T hT hc hs)⟩⟩
      case measure =>
        have := HLT.out
        have := HV2.out
        have := HP12.out
        rw [cellN_of HX6.out, cellN_of HX.out]
        omega
set_option maxHeartbeats 4000000 in
set_option maxRecDepth 100000 in
theorem subOk_core (Au : Option Addr) (cu : Nat) (u : List (List Int)) (An : Option Addr) (cn : Nat) (nt : List Int) (s : Int) (w : World)
    (hu : Kd.C (Kd.slice 3 (Kd.int .i64)) w Au u.length u) (hcu : u.length ≤ cu) (hn : Kd.C (Kd.int .i64) w An nt.length nt) (hcn : nt.length ≤ cn) :
    Calls Try.prog 31 #[.agg #[.slice Au u.length cu, .slice An nt.length cn], .int .i64 s] w fun e w' => e = .returned (.bool (subF u nt s)) ∧ Below w.heap.size w w' := by
  have hul := Try.underlying29
  have HU := Aside0.mk hu
  have HC := Aside0.mk hcu
  have HN := Aside0.mk hn
  have HCN := Aside0.mk hcn
  clear hu hcu hn hcn
  by_cases hl : OL u nt
  · have HL := Aside0.mk hl
    have h12 := hl.1.1.le12
    clear hl
    cases hk : isSetB u.length s with
    | true =>
      obtain ⟨S, rfl, hS, hS0⟩ := Q.set_of hk
      have HK := Aside0.mk hk
      have HS := Aside0.mk hS
      clear hk hS
      go_enter Try.func31, Try.ntmps31
      go_wp2_with (first
        | ((with_reducible refine gate_dst (N := 2) rfl ?_); refine box_event ?hg (N := 2) ?hd (cs := #[.slice Au u.length cu, .slice An nt.length cn]) (t := 29) ?hr ?_; (case hd => rfl); (case hg => rfl); (case hr => first | (go_simp; done) | (go_simp; rfl)); intro gb hg w4 hbox hb; have hc0 : w4.cell? ⟨gb, 0, none⟩ = some (.slice Au u.length cu) := (blk_cell hbox 0).trans rfl; have hc1 : w4.cell? ⟨gb, 1, none⟩ = some (.slice An nt.length cn) := (blk_cell hbox 1).trans rfl; have HB4 := Aside0.mk hb; clear hb hg hbox)
        | (go_at_call 53; (with_reducible refine (told_some _ _ u _ _ nt _ ?s1 ?s2 ?s3 ?s4 HL.out).mono ?_); (case s1 => repeat (first | exact (Kd.C_below HU.out HB4.out) | (with_reducible refine Kd.C_alloc ?_ _) | (with_reducible refine Kd.C_drewN ?_ _) | (with_reducible refine Kd.C_drew ?_))); (case s2 => exact HC.out); (case s3 => repeat (first | exact (Kd.C_below HN.out HB4.out) | (with_reducible refine Kd.C_alloc ?_ _) | (with_reducible refine Kd.C_drewN ?_ _) | (with_reducible refine Kd.C_drew ?_))); (case s4 => exact HCN.out); rintro e w5 ⟨g, rfl, hge, hAl, hD⟩; have HB5 := Aside0.mk (below_step HB4.out hD); have HA := Aside0.mk hAl; clear hD hge hAl; skip)
        | (go_at_call 68; (with_reducible refine (isSet_calls HA.out h12 _).mono ?_); rw [HK.out]; rintro e w6 ⟨rfl, hD⟩; obtain ⟨nd, rfl⟩ := hD)
        | (go_at_call 71; (with_reducible refine (closed_calls (S := S) (HA.out.drewN nd) HL.out HS.out).mono ?_); rintro e w7 ⟨rfl, hb⟩; have HB7 := Aside0.mk (below_step (pw_below_drewN HB5.out nd) hb); clear hb))
      go_ret
      exact ⟨by rw [Q.sub_eq HL.out HS.out HK.out]; rfl, (by repeat (first | exact HB7.out | (with_reducible first | apply below_alloc | apply pw_below_drewN | apply below_drew1)))⟩
    | false =>
      have HK := Aside0.mk hk
      clear hk
      go_enter Try.func31, Try.ntmps31
      go_wp2_with (first
        | ((with_reducible refine gate_dst (N := 2) rfl ?_); refine box_event ?hg (N := 2) ?hd (cs := #[.slice Au u.length cu, .slice An nt.length cn]) (t := 29) ?hr ?_; (case hd => rfl); (case hg => rfl); (case hr => first | (go_simp; done) | (go_simp; rfl)); intro gb hg w4 hbox hb; have hc0 : w4.cell? ⟨gb, 0, none⟩ = some (.slice Au u.length cu) := (blk_cell hbox 0).trans rfl; have hc1 : w4.cell? ⟨gb, 1, none⟩ = some (.slice An nt.length cn) := (blk_cell hbox 1).trans rfl; have HB4 := Aside0.mk hb; clear hb hg hbox)
        | (go_at_call 53; (with_reducible refine (told_some _ _ u _ _ nt _ ?s1 ?s2 ?s3 ?s4 HL.out).mono ?_); (case s1 => repeat (first | exact (Kd.C_below HU.out HB4.out) | (with_reducible refine Kd.C_alloc ?_ _) | (with_reducible refine Kd.C_drewN ?_ _) | (with_reducible refine Kd.C_drew ?_))); (case s2 => exact HC.out); (case s3 => repeat (first | exact (Kd.C_below HN.out HB4.out) | (with_reducible refine Kd.C_alloc ?_ _) | (with_reducible refine Kd.C_drewN ?_ _) | (with_reducible refine Kd.C_drew ?_))); (case s4 => exact HCN.out); rintro e w5 ⟨g, rfl, hge, hAl, hD⟩; have HB5 := Aside0.mk (below_step HB4.out hD); have HA := Aside0.mk hAl; clear hD hge hAl; skip)
        | (go_at_call 68; (with_reducible refine (isSet_calls HA.out h12 _).mono ?_); rw [HK.out]; rintro e w6 ⟨rfl, hD⟩; obtain ⟨nd, rfl⟩ := hD))
      go_ret
      exact ⟨by unfold subF; rw [HK.out, decide_eq_false (fun q => Bool.false_ne_true q.2.1)]; rfl, (by repeat (first | exact HB5.out | (with_reducible first | apply below_alloc | apply pw_below_drewN | apply below_drew1)))⟩
  · have HL := Aside0.mk hl
    clear hl
    go_enter Try.func31, Try.ntmps31
    go_wp2_with (first
      | ((with_reducible refine gate_dst (N := 2) rfl ?_); refine box_event ?hg (N := 2) ?hd (cs := #[.slice Au u.length cu, .slice An nt.length cn]) (t := 29) ?hr ?_; (case hd => rfl); (case hg => rfl); (case hr => first | (go_simp; done) | (go_simp; rfl)); intro gb hg w4 hbox hb; have hc0 : w4.cell? ⟨gb, 0, none⟩ = some (.slice Au u.length cu) := (blk_cell hbox 0).trans rfl; have hc1 : w4.cell? ⟨gb, 1, none⟩ = some (.slice An nt.length cn) := (blk_cell hbox 1).trans rfl; have HB4 := Aside0.mk hb; clear hb hg hbox)
      | (go_at_call 53; (with_reducible refine (told_none _ _ u _ _ nt _ ?s1 ?s2 ?s3 ?s4 HL.out).mono ?_); (case s1 => repeat (first | exact (Kd.C_below HU.out HB4.out) | (with_reducible refine Kd.C_alloc ?_ _) | (with_reducible refine Kd.C_drewN ?_ _) | (with_reducible refine Kd.C_drew ?_))); (case s2 => exact HC.out); (case s3 => repeat (first | exact (Kd.C_below HN.out HB4.out) | (with_reducible refine Kd.C_alloc ?_ _) | (with_reducible refine Kd.C_drewN ?_ _) | (with_reducible refine Kd.C_drew ?_))); (case s4 => exact HCN.out); rintro e w5 ⟨rfl, hD⟩; have HB5 := Aside0.mk (below_step HB4.out hD); clear hD)
      | (go_at_call 68; (with_reducible refine (isSet_nil _ _).mono ?_); rintro e w6 ⟨rfl, hD⟩; obtain ⟨nd, rfl⟩ := hD))
    go_ret
    exact ⟨by unfold subF; rw [decide_eq_false (fun q => HL.out q.1)]; rfl, (by repeat (first | exact HB5.out | (with_reducible first | apply below_alloc | apply pw_below_drewN | apply below_drew1)))⟩
set_option maxHeartbeats 4000000 in
set_option maxRecDepth 100000 in
theorem madeBy_core (Au : Option Addr) (cu : Nat) (u : List (List Int)) (An : Option Addr) (cn : Nat) (nt : List Int) (s : Int) (w : World)
    (hu : Kd.C (Kd.slice 3 (Kd.int .i64)) w Au u.length u) (hcu : u.length ≤ cu) (hn : Kd.C (Kd.int .i64) w An nt.length nt) (hcn : nt.length ≤ cn) :
    Calls Try.prog 33 #[.agg #[.slice Au u.length cu, .slice An nt.length cn], .int .i64 s] w fun e w' => e = .returned (.int .i64 (madeByF u nt s)) ∧ Below w.heap.size w w' := by
  have hul := Try.underlying29
  have HU := Aside0.mk hu
  have HC := Aside0.mk hcu
  have HN := Aside0.mk hn
  have HCN := Aside0.mk hcn
  clear hu hcu hn hcn
  by_cases hl : OL u nt
  · have HL := Aside0.mk hl
    have h12 := hl.1.1.le12
    clear hl
    cases hk : isSetB u.length s with
    | true =>
      obtain ⟨S, rfl, hS, hS0⟩ := Q.set_of hk
      have HK := Aside0.mk hk
      have HS := Aside0.mk hS
      clear hk hS
      go_enter Try.func33, Try.ntmps33
      go_wp2_with (first
        | ((with_reducible refine gate_dst (N := 2) rfl ?_); refine box_event ?hg (N := 2) ?hd (cs := #[.slice Au u.length cu, .slice An nt.length cn]) (t := 29) ?hr ?_; (case hd => rfl); (case hg => rfl); (case hr => first | (go_simp; done) | (go_simp; rfl)); intro gb hg w4 hbox hb; have hc0 : w4.cell? ⟨gb, 0, none⟩ = some (.slice Au u.length cu) := (blk_cell hbox 0).trans rfl; have hc1 : w4.cell? ⟨gb, 1, none⟩ = some (.slice An nt.length cn) := (blk_cell hbox 1).trans rfl; have HB4 := Aside0.mk hb; clear hb hg hbox)
        | (go_at_call 53; (with_reducible refine (told_some _ _ u _ _ nt _ ?s1 ?s2 ?s3 ?s4 HL.out).mono ?_); (case s1 => repeat (first | exact (Kd.C_below HU.out HB4.out) | (with_reducible refine Kd.C_alloc ?_ _) | (with_reducible refine Kd.C_drewN ?_ _) | (with_reducible refine Kd.C_drew ?_))); (case s2 => exact HC.out); (case s3 => repeat (first | exact (Kd.C_below HN.out HB4.out) | (with_reducible refine Kd.C_alloc ?_ _) | (with_reducible refine Kd.C_drewN ?_ _) | (with_reducible refine Kd.C_drew ?_))); (case s4 => exact HCN.out); rintro e w5 ⟨g, rfl, hge, hAl, hD⟩; have HB5 := Aside0.mk (below_step HB4.out hD); have HA := Aside0.mk hAl; clear hD hge hAl; skip)
        | (go_at_call 68; (with_reducible refine (isSet_calls HA.out h12 _).mono ?_); rw [HK.out]; rintro e w6 ⟨rfl, hD⟩; obtain ⟨nd, rfl⟩ := hD)
        | (go_at_call 71; (with_reducible refine (closed_calls (S := S) (HA.out.drewN nd) HL.out HS.out).mono ?_); rintro e w7 ⟨rfl, hb⟩; have HB7 := Aside0.mk (below_step (pw_below_drewN HB5.out nd) hb); clear hb))
      go_ret
      exact ⟨by unfold madeByF; rw [if_pos ⟨HL.out, HK.out⟩]; rfl, (by repeat (first | exact HB7.out | (with_reducible first | apply below_alloc | apply pw_below_drewN | apply below_drew1)))⟩
    | false =>
      have HK := Aside0.mk hk
      clear hk
      go_enter Try.func33, Try.ntmps33
      go_wp2_with (first
        | ((with_reducible refine gate_dst (N := 2) rfl ?_); refine box_event ?hg (N := 2) ?hd (cs := #[.slice Au u.length cu, .slice An nt.length cn]) (t := 29) ?hr ?_; (case hd => rfl); (case hg => rfl); (case hr => first | (go_simp; done) | (go_simp; rfl)); intro gb hg w4 hbox hb; have hc0 : w4.cell? ⟨gb, 0, none⟩ = some (.slice Au u.length cu) := (blk_cell hbox 0).trans rfl; have hc1 : w4.cell? ⟨gb, 1, none⟩ = some (.slice An nt.length cn) := (blk_cell hbox 1).trans rfl; have HB4 := Aside0.mk hb; clear hb hg hbox)
        | (go_at_call 53; (with_reducible refine (told_some _ _ u _ _ nt _ ?s1 ?s2 ?s3 ?s4 HL.out).mono ?_); (case s1 => repeat (first | exact (Kd.C_below HU.out HB4.out) | (with_reducible refine Kd.C_alloc ?_ _) | (with_reducible refine Kd.C_drewN ?_ _) | (with_reducible refine Kd.C_drew ?_))); (case s2 => exact HC.out); (case s3 => repeat (first | exact (Kd.C_below HN.out HB4.out) | (with_reducible refine Kd.C_alloc ?_ _) | (with_reducible refine Kd.C_drewN ?_ _) | (with_reducible refine Kd.C_drew ?_))); (case s4 => exact HCN.out); rintro e w5 ⟨g, rfl, hge, hAl, hD⟩; have HB5 := Aside0.mk (below_step HB4.out hD); have HA := Aside0.mk hAl; clear hD hge hAl; skip)
        | (go_at_call 68; (with_reducible refine (isSet_calls HA.out h12 _).mono ?_); rw [HK.out]; rintro e w6 ⟨rfl, hD⟩; obtain ⟨nd, rfl⟩ := hD))
      go_ret
      exact ⟨by unfold madeByF; rw [HK.out, if_neg (fun q => Bool.false_ne_true q.2)]; rfl, (by repeat (first | exact HB5.out | (with_reducible first | apply below_alloc | apply pw_below_drewN | apply below_drew1)))⟩
  · have HL := Aside0.mk hl
    clear hl
    go_enter Try.func33, Try.ntmps33
    go_wp2_with (first
      | ((with_reducible refine gate_dst (N := 2) rfl ?_); refine box_event ?hg (N := 2) ?hd (cs := #[.slice Au u.length cu, .slice An nt.length cn]) (t := 29) ?hr ?_; (case hd => rfl); (case hg => rfl); (case hr => first | (go_simp; done) | (go_simp; rfl)); intro gb hg w4 hbox hb; have hc0 : w4.cell? ⟨gb, 0, none⟩ = some (.slice Au u.length cu) := (blk_cell hbox 0).trans rfl; have hc1 : w4.cell? ⟨gb, 1, none⟩ = some (.slice An nt.length cn) := (blk_cell hbox 1).trans rfl; have HB4 := Aside0.mk hb; clear hb hg hbox)
      | (go_at_call 53; (with_reducible refine (told_none _ _ u _ _ nt _ ?s1 ?s2 ?s3 ?s4 HL.out).mono ?_); (case s1 => repeat (first | exact (Kd.C_below HU.out HB4.out) | (with_reducible refine Kd.C_alloc ?_ _) | (with_reducible refine Kd.C_drewN ?_ _) | (with_reducible refine Kd.C_drew ?_))); (case s2 => exact HC.out); (case s3 => repeat (first | exact (Kd.C_below HN.out HB4.out) | (with_reducible refine Kd.C_alloc ?_ _) | (with_reducible refine Kd.C_drewN ?_ _) | (with_reducible refine Kd.C_drew ?_))); (case s4 => exact HCN.out); rintro e w5 ⟨rfl, hD⟩; have HB5 := Aside0.mk (below_step HB4.out hD); clear hD)
      | (go_at_call 68; (with_reducible refine (isSet_nil _ _).mono ?_); rintro e w6 ⟨rfl, hD⟩; obtain ⟨nd, rfl⟩ := hD))
    go_ret
    exact ⟨by unfold madeByF; rw [if_neg (fun q => HL.out q.1)]; rfl, (by repeat (first | exact HB5.out | (with_reducible first | apply below_alloc | apply pw_below_drewN | apply below_drew1)))⟩
end Go.Proofs.Ytlkibgccgkhdmaa.P

