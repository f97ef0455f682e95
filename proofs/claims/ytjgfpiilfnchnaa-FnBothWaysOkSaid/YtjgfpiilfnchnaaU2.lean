import Derived.Test.YtjgfpiilfnchnaaPk2
import Derived.Test.YtjgfpiilfnchnaaU0
namespace Go.Proofs.Ytjgfpiilfnchnaa.P
open Go.RowKit Go.Proofs.YtjgfpiilfnchnaaW.PrintWords Go.Proofs.YtjgfpiilfnchnaaW.PrintLast Go.Proofs.YtjgfpiilfnchnaaW.PrintMore Go.Proofs.Cl
set_option linter.unusedVariables false
set_option linter.unusedSimpArgs false
theorem mt_in {u : List (List Int)} (h : Lat u) {a b : Int} (ha : 0 ≤ a ∧ a < u.length) (hb : 0 ≤ b ∧ b < u.length) : 0 ≤ mt u a b ∧ mt u a b < u.length := by
 obtain ⟨c, hc, hm⟩ := h.meet (a := a.toNat) (b := b.toNat) (by omega) (by omega)
 have := hm.1
 unfold mt
 omega
theorem jn_in {u : List (List Int)} (h : Lat u) {a b : Int} (ha : 0 ≤ a ∧ a < u.length) (hb : 0 ≤ b ∧ b < u.length) : 0 ≤ jn u a b ∧ jn u a b < u.length := by
 obtain ⟨c, hc, hm⟩ := h.join (a := a.toNat) (b := b.toNat) (by omega) (by omega)
 have := hm.1
 unfold jn
 omega
theorem ng_in {u : List (List Int)} {nt : List Int} (h : OL u nt) {a : Int} (ha : 0 ≤ a ∧ a < u.length) : 0 ≤ rd nt a ∧ rd nt a < u.length := by
 obtain ⟨n, rfl, hn⟩ := Q.nat_of ha
 exact (h.2.2.1 n hn).1
theorem tab_row {w : World} {A : Option Addr} {u : List (List Int)} {f : Nat → Nat → Int} {T : List (List Int)} (hT : T = (List.range u.length).map fun a => (List.range u.length).map fun b => f a b)
 (h : Kd.C (Kd.slice 3 (Kd.int .i64)) w A T.length T) {a : Int} (ha : 0 ≤ a ∧ a < u.length) :
 ∃ ad ad2 c, A = some ad ∧ w.cell? (ad.add a.toNat) = some (.slice (some ad2) u.length c) ∧ ∀ b : Int, (0 ≤ b ∧ b < (u.length : Int)) → w.cell? (ad2.add b.toNat) = some (.int .i64 (f a.toNat b.toNat)) := by
 obtain ⟨ad, ad2, c, e, _, h1, h2⟩ := tab_at hT h ha ha
 refine ⟨ad, ad2, c, e, h1, fun b hb => ?_⟩
 obtain ⟨ad', ad2', c', e', _, h1', h2'⟩ := tab_at hT h ha hb
 obtain rfl : ad = ad' := by rw [e] at e'; injection e'
 rw [h1] at h1'
 obtain rfl : ad2 = ad2' := by injection h1' with q; injection q with q1; injection q1
 exact h2'
set_option maxHeartbeats 4000000 in
set_option maxRecDepth 100000 in
theorem with_calls {w : World} {g : Nat} {u : List (List Int)} {nt : List Int} {no yes : Int} (h : AlgAt w g u (mtab u) (jtab u) nt no yes) (hl : OL u nt) {a b : Int} (ha : 0 ≤ a ∧ a < u.length) (hb : 0 ≤ b ∧ b < u.length) :
 Calls Try.prog 68 #[.pointer (some ⟨g, 0, none⟩), .int .i64 a, .int .i64 b] w fun e w' => e = .returned (.bool (decide (withB u nt a b))) ∧ Drawn0 w w' := by
 obtain ⟨Bu, bu, Ba, ba, Bo, bo, Bn, bn, h0, h1, h2, h3, h4, h5, h6, h7, h8⟩ := h
 have hy := ng_in hl hb
 have hx := mt_in hl.1 ha hb
 have hz := mt_in hl.1 ha hy
 obtain ⟨ad, ad2, c2, e1, hr1, hr2⟩ := tab_row (f := meetI u) rfl h3 ha
 subst e1
 have hr3 := hr2 b hb
 have hr4 := hr2 _ hy
 obtain ⟨ae, ae2, c3, e2, hs1, hs2⟩ := tab_row (f := joinI u) rfl h5 hx
 subst e2
 have hs3 := hs2 _ hz
 obtain ⟨an, e3, ht⟩ := Kd.at_int h7 b hb.1 (by rw [hl.2.1]; exact hb.2)
 subst e3
 have hlm : (mtab u).length = u.length := by simp [mtab]
 have hlj : (jtab u).length = u.length := by simp [jtab]
 have hW : withB u nt a b ↔ joinI u (meetI u a.toNat b.toNat).toNat (meetI u a.toNat (rd nt b).toNat).toNat = a := Iff.rfl
 have hdW : decide (withB u nt a b) = (joinI u (meetI u a.toNat b.toNat).toNat (meetI u a.toNat (rd nt b).toNat).toNat == a) := by
  rw [Bool.eq_iff_iff, decide_eq_true_iff, beq_iff_eq]; exact hW
 rw [hdW]
 clear hW hdW hr2 hs2
 rw [hlm, hlj, hl.2.1] at h0
 have hg1 : w.cell? ⟨g, 1, none⟩ = some (.slice (some ad) u.length ba) := (blk_cell h0 1).trans rfl
 have hg2 : w.cell? ⟨g, 2, none⟩ = some (.slice (some ae) u.length bo) := (blk_cell h0 2).trans rfl
 have hg3 : w.cell? ⟨g, 3, none⟩ = some (.slice (some an) u.length bn) := (blk_cell h0 3).trans rfl
 clear h0 h1 h2 h3 h4 h5 h6 h7 h8 hl hlm hlj
 unfold mt at hx hz hs1 hs3
 generalize rd nt b = y at *
 generalize meetI u a.toNat b.toNat = x at *
 generalize meetI u a.toNat y.toNat = z at *
 generalize joinI u x.toNat z.toNat = v at *
 obtain ⟨ha0, ha1⟩ := ha
 obtain ⟨hb0, hb1⟩ := hb
 obtain ⟨hx0, hx1⟩ := hx
 obtain ⟨hy0, hy1⟩ := hy
 obtain ⟨hz0, hz1⟩ := hz
 go_enter Try.func68, Try.ntmps68
 go_wp2
 repeat (go_quiet (fail); try go_wp2)
 go_ret
 exact ⟨rfl, ⟨_, rfl⟩⟩
set_option maxHeartbeats 4000000 in
set_option maxRecDepth 100000 in
theorem split_calls {w : World} {g : Nat} {u : List (List Int)} {nt : List Int} {no yes : Int} (h : AlgAt w g u (mtab u) (jtab u) nt no yes) (hl : OL u nt) {a b c : Int} (ha : 0 ≤ a ∧ a < u.length) (hb : 0 ≤ b ∧ b < u.length) (hc : 0 ≤ c ∧ c < u.length) :
 Calls Try.prog 75 #[.pointer (some ⟨g, 0, none⟩), .int .i64 a, .int .i64 b, .int .i64 c] w fun e w' => e = .returned (.bool (mt u a (jn u b c) == jn u (mt u a b) (mt u a c))) ∧ Drawn0 w w' := by
 obtain ⟨Bu, bu, Ba, ba, Bo, bo, Bn, bn, h0, h1, h2, h3, h4, h5, h6, h7, h8⟩ := h
 have hx := jn_in hl.1 hb hc
 have hy := mt_in hl.1 ha hb
 have hz := mt_in hl.1 ha hc
 obtain ⟨ad, ad2, c2, e1, hr1, hr2⟩ := tab_row (f := meetI u) rfl h3 ha
 subst e1
 have hr3 := hr2 b hb
 have hr4 := hr2 c hc
 have hr5 := hr2 _ hx
 obtain ⟨ae, ae2, c3, e2, hs1, hs2⟩ := tab_row (f := joinI u) rfl h5 hb
 subst e2
 have hs3 := hs2 c hc
 obtain ⟨ae', ae3, c4, e2, hs4, hs5⟩ := tab_row (f := joinI u) rfl h5 hy
 obtain rfl : ae = ae' := by injection e2
 have hs6 := hs5 _ hz
 have hlm : (mtab u).length = u.length := by simp [mtab]
 have hlj : (jtab u).length = u.length := by simp [jtab]
 rw [hlm, hlj, hl.2.1] at h0
 have hg1 : w.cell? ⟨g, 1, none⟩ = some (.slice (some ad) u.length ba) := (blk_cell h0 1).trans rfl
 have hg2 : w.cell? ⟨g, 2, none⟩ = some (.slice (some ae) u.length bo) := (blk_cell h0 2).trans rfl
 clear h0 h1 h2 h3 h4 h5 h6 h7 h8 hl hlm hlj hr2 hs2 hs5 e2
 unfold mt jn at *
 generalize joinI u b.toNat c.toNat = x at *
 generalize meetI u a.toNat b.toNat = y at *
 generalize meetI u a.toNat c.toNat = z at *
 generalize meetI u a.toNat x.toNat = v at *
 generalize joinI u y.toNat z.toNat = t at *
 obtain ⟨ha0, ha1⟩ := ha
 obtain ⟨hb0, hb1⟩ := hb
 obtain ⟨hc0, hc1⟩ := hc
 obtain ⟨hx0, hx1⟩ := hx
 obtain ⟨hy0, hy1⟩ := hy
 obtain ⟨hz0, hz1⟩ := hz
 go_enter Try.func75, Try.ntmps75
 go_wp2
 repeat (go_quiet (fail); try go_wp2)
 go_ret
 exact ⟨rfl, ⟨_, rfl⟩⟩
end Go.Proofs.Ytjgfpiilfnchnaa.P

