import Derived.Test.YtjgfpiilfnchnaaPk2
import Derived.Test.YtjgfpiilfnchnaaPk6
namespace Go.Proofs.Ytjgfpiilfnchnaa.P
open Go.RowKit Go.Proofs.YtjgfpiilfnchnaaW.PrintWords Go.Proofs.YtjgfpiilfnchnaaW.PrintLast Go.Proofs.YtjgfpiilfnchnaaW.PrintMore Go.Proofs.Cl
set_option linter.unusedVariables false
set_option linter.unusedSimpArgs false
theorem knows_n {w : World} {g : Nat} {u a o : List (List Int)} {nt : List Int} {no yes : Int} (h : AlgAt w g u a o nt no yes) (A : Option Addr) (c : Nat) (xs : List Int) (n : Nat) (hn : n = xs.length) (hx : Kd.C (Kd.int .i64) w A xs.length xs) (hl : xs.length ≤ 1000) :
 Calls Try.prog 63 #[.pointer (some ⟨g, 0, none⟩), .slice A n c] w fun e w' => e = .returned (.bool (okAll u.length xs)) ∧ Drawn0 w w' := by
 subst hn
 exact knows_calls h A c xs hx hl
theorem okAll_two {n : Nat} {a b : Int} (h : okAll n [a, b] = true) : (0 ≤ a ∧ a < n) ∧ (0 ≤ b ∧ b < n) := by simpa [okAll] using h
theorem okAll_one {n : Nat} {a : Int} (h : okAll n [a] = true) : 0 ≤ a ∧ a < n := by simpa [okAll] using h
theorem okAll_three {n : Nat} {a b c : Int} (h : okAll n [a, b, c] = true) : (0 ≤ a ∧ a < n) ∧ (0 ≤ b ∧ b < n) ∧ (0 ≤ c ∧ c < n) := by simpa [okAll] using h
theorem tab_at {w : World} {A : Option Addr} {u : List (List Int)} {f : Nat → Nat → Int} {T : List (List Int)} (hT : T = (List.range u.length).map fun a => (List.range u.length).map fun b => f a b)
 (h : Kd.C (Kd.slice 3 (Kd.int .i64)) w A T.length T) {a b : Int} (ha : 0 ≤ a ∧ a < u.length) (hb : 0 ≤ b ∧ b < u.length) :
 ∃ ad ad2 c, A = some ad ∧ a < (T.length : Int) ∧ w.cell? (ad.add a.toNat) = some (.slice (some ad2) u.length c) ∧ w.cell? (ad2.add b.toNat) = some (.int .i64 (f a.toNat b.toNat)) := by
 have hl : T.length = u.length := by rw [hT]; simp
 obtain ⟨ad, A0, c0, e, h1, h2, h3⟩ := at_L1 h a ha.1 (by rw [hl]; exact ha.2)
 have hr : rd_L1 T a = (List.range u.length).map fun b => f a.toNat b := by
  obtain ⟨n, rfl, hn⟩ := Q.nat_of ha
  rw [Q.row_nat, hT, getD_map_range _ _ hn, Int.toNat_natCast]
 have hrl : (rd_L1 T a).length = u.length := by rw [hr]; simp
 rw [hrl] at h1 h3
 obtain ⟨ad2, rfl, h4⟩ := Kd.at_int h3 b hb.1 hb.2
 refine ⟨ad, ad2, c0, e, (by rw [hl]; exact ha.2), h1, ?_⟩
 rw [h4, hr]
 obtain ⟨m, rfl, hm⟩ := Q.nat_of hb
 rw [Int.toNat_natCast, Q.rd_nat, getD_map_range _ _ hm]
end Go.Proofs.Ytjgfpiilfnchnaa.P

