import Derived.Test.YtilgbnbeonlbnaaPk3
import Derived.Test.YtilgbnbeonlbnaaOm
import Derived.Test.YtilgbnbeonlbnaaFImplTurnedOf
import Derived.Test.YtilgbnbeonlbnaaPk2
import Derived.Test.YtilgbnbeonlbnaaFSpecTurnedOf
namespace Go.Proofs.Ytilgbnbeonlbnaa.P
open Go.RowKit Go.Proofs.YtilgbnbeonlbnaaW.PrintWords Go.Proofs.YtilgbnbeonlbnaaW.PrintLast Go.Proofs.YtilgbnbeonlbnaaW.PrintMore Go.Proofs.Cl
set_option linter.unusedVariables false
set_option linter.unusedSimpArgs false
set_option maxHeartbeats 8000000 in
set_option maxRecDepth 100000 in
theorem FnExactTurnedOf_neg (w : World) (A0 : Option Addr) (c0 : Nat) (u0 : List (List Int)) (hr0 : Kd.C (Kd.slice 3 (Kd.int .i64)) w A0 u0.length u0) (hc0 : u0.length ≤ c0) (x0 : Int) (k0 : Nat) (hk0 : laws_szIntSS.f k0 u0 1048576 = some x0) (hx : x0 < 0) : Calls Try.prog 8 #[.slice A0 u0.length c0] w fun e w' => e = .returned (.bool true) ∧ Below w.heap.size w w' := by
  have HR0 := Aside0.mk hr0
  have HC0 := Aside0.mk hc0
  clear hr0 hc0
  have HK0 := Aside0.mk hk0
  clear hk0
  have hx0 : decide (x0 < 0) = true := decide_eq_true hx
  have HL := Aside0.mk (Live.start w)
  have s0 := Aside0.mk True.intro
  go_enter Try.func8, Try.ntmps8
  go_wp2_with (first
    | (clear s0; go_at_call 18; refine arm_ (rs' := []) HL ?_; clear HL; intro HL; (with_reducible refine (laws_szIntSS.calls k0 _ _ u0 1048576 x0 _ ?q1 ?q2 HK0.out).mono ?_); (case q1 => exact Live.came HL.out HR0.out); (case q2 => exact HC0.out); rintro e w1 ⟨rfl, hD⟩; have HL1 : Aside0 (Live w w1 []) := ⟨HL.out.step (dB hD)⟩; clear HL hD; have HL := HL1; clear HL1; have s1 := Aside0.mk True.intro))
  go_ret
  exact ⟨rfl, by repeat (first | exact HL.out.below | apply pw_below_drewN | apply below_drew1)⟩
set_option maxHeartbeats 8000000 in
set_option maxRecDepth 100000 in
theorem FnExactTurnedOf_all (w : World) (A0 : Option Addr) (c0 : Nat) (u0 : List (List Int)) (hr0 : Kd.C (Kd.slice 3 (Kd.int .i64)) w A0 u0.length u0) (hc0 : u0.length ≤ c0) (x0 : Int) (k0 : Nat) (hk0 : laws_szIntSS.f k0 u0 1048576 = some x0) (hx : ¬ x0 < 0) (hl : u0.length ≤ 1048576) (hz : ∀ i (k : i < u0.length), u0[i].length ≤ 1048576) : Calls Try.prog 8 #[.slice A0 u0.length c0] w fun e w' => e = .returned (.bool true) ∧ Below w.heap.size w w' := by
  have HR0 := Aside0.mk hr0
  have HC0 := Aside0.mk hc0
  clear hr0 hc0
  have HK0 := Aside0.mk hk0
  clear hk0
  have hx0 : decide (x0 < 0) = false := decide_eq_false hx
  have hb : (turnOf u0).length ≤ 1048576 ∧ ∀ i (k : i < (turnOf u0).length), (turnOf u0)[i].length ≤ 1048576 := Q.turnOf_b u0 hl
  have hl2 := hb.1
  have hy := hb.2
  have HT1 := Aside0.mk (Q.tot_b u0 hl hz)
  have HU1 := Aside0.mk hl
  have HT2 := Aside0.mk (Q.tot_b (turnOf u0) hl2 hy)
  have HU2 := Aside0.mk hl2
  obtain ⟨M1, e1⟩ : ∃ M : Int, (1 : Int) + (Q.tot u0 : Nat) = M := ⟨_, rfl⟩
  obtain ⟨M2, e2⟩ : ∃ M : Int, (1 : Int) + (Q.tot (turnOf u0) : Nat) = M := ⟨_, rfl⟩
  have hM1 : decide (M1 < 0) = false := decide_eq_false (by omega)
  have hM2 : decide (M2 < 0) = false := decide_eq_false (by omega)
  have E1 := Aside0.mk e1
  have E2 := Aside0.mk e2
  clear e1 e2
  obtain ⟨k1, hk1⟩ := Ev.rounds (Q.toIntSS_ev u0 (by omega) (fun i k => by have := hz i k; omega))
  have HK1 := Aside0.mk hk1
  clear hk1
  obtain ⟨k2, hk2⟩ := Ev.rounds (Q.spec_turnedOf_ev u0)
  have HK2 := Aside0.mk hk2
  clear hk2
  obtain ⟨k3, hk3⟩ := Ev.rounds (Q.toIntSS_ev u0 (by omega) (fun i k => by have := hz i k; omega))
  have HK3 := Aside0.mk hk3
  clear hk3
  obtain ⟨k4, hk4⟩ := Ev.rounds (Q.impl_turnedOf_ev u0)
  have HK4 := Aside0.mk hk4
  clear hk4
  obtain ⟨k5, hk5⟩ := Ev.rounds (Q.eqIntSS_ev (((turnOf u0))) (by omega) (fun i k => by have := hy i k; omega))
  have HK5 := Aside0.mk hk5
  clear hk5
  obtain ⟨k6, hk6⟩ := Ev.rounds (Q.toIntSS_ev u0 (by omega) (fun i k => by have := hz i k; omega))
  have HK6 := Aside0.mk hk6
  clear hk6
  obtain ⟨k7, hk7⟩ := Ev.rounds (Q.eqIntSS_ev u0 (by omega) (fun i k => by have := hz i k; omega))
  have HK7 := Aside0.mk hk7
  clear hk7
  obtain ⟨k8, hk8⟩ := Ev.rounds (Q.eqIntSS_ev (((turnOf u0))) (by omega) (fun i k => by have := hy i k; omega))
  have HK8 := Aside0.mk hk8
  clear hk8
  obtain ⟨k9, hk9⟩ := Ev.rounds (Q.toIntSS_ev u0 (by omega) (fun i k => by have := hz i k; omega))
  have HK9 := Aside0.mk hk9
  clear hk9
  obtain ⟨k10, hk10⟩ := Ev.rounds (Q.impl_turnedOf_ev u0)
  have HK10 := Aside0.mk hk10
  clear hk10
  obtain ⟨k11, hk11⟩ := Ev.rounds (Q.eqIntSS_ev (((turnOf u0))) (by omega) (fun i k => by have := hy i k; omega))
  have HK11 := Aside0.mk hk11
  clear hk11
  have HL := Aside0.mk (Live.start w)
  have s0 := Aside0.mk True.intro
  go_enter Try.func8, Try.ntmps8
  go_wp2_with (first
    | (clear s0; go_at_call 18; refine arm_ (rs' := []) HL ?_; clear HL; intro HL; (with_reducible refine (laws_szIntSS.calls k0 _ _ u0 1048576 x0 _ ?q1 ?q2 HK0.out).mono ?_); (case q1 => exact Live.came HL.out HR0.out); (case q2 => exact HC0.out); rintro e w1 ⟨rfl, hD⟩; have HL1 : Aside0 (Live w w1 []) := ⟨HL.out.step (dB hD)⟩; clear HL hD; have HL := HL1; clear HL1; have s1 := Aside0.mk True.intro)
    | (clear s1; go_at_call 20; refine arm_ (rs' := []) HL ?_; clear HL; intro HL; (with_reducible refine (laws_toIntSS.calls k1 _ _ u0 u0 _ ?q1 ?q2 HK1.out).mono ?_); (case q1 => exact Live.came HL.out HR0.out); (case q2 => exact HC0.out); rintro e w2 ⟨v1, rfl, hs, hb⟩; obtain ⟨A_1, c_1, ev⟩ := Kd.S_slice hs; subst ev; have HL1 : Aside0 (Live w w2 [.rows (.slice A_1 u0.length c_1) u0]) := ⟨HL.out.rows hs hb⟩; clear HL hs hb; have HL := HL1; clear HL1; have s2 := Aside0.mk True.intro)
    | (clear s2; go_at_call 30; refine arm_ (rs' := [.rows (.slice A_1 u0.length c_1) u0]) HL ?_; clear HL; intro HL; (with_reducible refine (spec_TurnedOf.calls k2 _ _ u0 ((turnOf u0)) _ ?q1 ?q2 HK2.out).mono ?_); (case q1 => exact (Live.rowsC [] HL.out).1); (case q2 => exact (Live.rowsC [] HL.out).2); rintro e w3 ⟨v2, rfl, hs, hb⟩; obtain ⟨A_2, c_2, ev⟩ := Kd.S_slice hs; subst ev; have HL1 : Aside0 (Live w w3 [.rows (.slice A_2 ((turnOf u0)).length c_2) ((turnOf u0)), .rows (.slice A_1 u0.length c_1) u0]) := ⟨HL.out.rows hs hb⟩; clear HL hs hb; have HL := HL1; clear HL1; have s3 := Aside0.mk True.intro)
    | (clear s3; go_at_call 20; refine arm_ (rs' := [.rows (.slice A_2 ((turnOf u0)).length c_2) ((turnOf u0)), .rows (.slice A_1 u0.length c_1) u0]) HL ?_; clear HL; intro HL; (with_reducible refine (laws_toIntSS.calls k3 _ _ u0 u0 _ ?q1 ?q2 HK3.out).mono ?_); (case q1 => exact Live.came HL.out HR0.out); (case q2 => exact HC0.out); rintro e w4 ⟨v3, rfl, hs, hb⟩; obtain ⟨A_3, c_3, ev⟩ := Kd.S_slice hs; subst ev; have HL1 : Aside0 (Live w w4 [.rows (.slice A_3 u0.length c_3) u0, .rows (.slice A_2 ((turnOf u0)).length c_2) ((turnOf u0)), .rows (.slice A_1 u0.length c_1) u0]) := ⟨HL.out.rows hs hb⟩; clear HL hs hb; have HL := HL1; clear HL1; have s4 := Aside0.mk True.intro)
    | (clear s4; go_at_call 26; refine arm_ (rs' := [.rows (.slice A_3 u0.length c_3) u0, .rows (.slice A_2 ((turnOf u0)).length c_2) ((turnOf u0)), .rows (.slice A_1 u0.length c_1) u0]) HL ?_; clear HL; intro HL; (with_reducible refine (impl_TurnedOf.calls k4 _ _ u0 ((turnOf u0)) _ ?q1 ?q2 HK4.out).mono ?_); (case q1 => exact (Live.rowsC [] HL.out).1); (case q2 => exact (Live.rowsC [] HL.out).2); rintro e w5 ⟨v4, rfl, hs, hb⟩; obtain ⟨A_4, c_4, ev⟩ := Kd.S_slice hs; subst ev; have HL1 : Aside0 (Live w w5 [.rows (.slice A_4 ((turnOf u0)).length c_4) ((turnOf u0)), .rows (.slice A_3 u0.length c_3) u0, .rows (.slice A_2 ((turnOf u0)).length c_2) ((turnOf u0)), .rows (.slice A_1 u0.length c_1) u0]) := ⟨HL.out.rows hs hb⟩; clear HL hs hb; have HL := HL1; clear HL1; have s5 := Aside0.mk True.intro)
    | (clear s5; go_at_call 22; refine arm_ (rs' := [.rows (.slice A_4 ((turnOf u0)).length c_4) ((turnOf u0)), .rows (.slice A_3 u0.length c_3) u0, .rows (.slice A_2 ((turnOf u0)).length c_2) ((turnOf u0)), .rows (.slice A_1 u0.length c_1) u0]) HL ?_; clear HL; intro HL; (with_reducible refine (laws_eqIntSS.calls k5 _ _ (((turnOf u0))) _ _ (((turnOf u0))) true _ ?q1 ?q2 ?q3 ?q4 HK5.out).mono ?_); (case q1 => exact (Live.rowsC [] HL.out).1); (case q2 => exact (Live.rowsC [] HL.out).2); (case q3 => exact (Live.rowsC [_, _] HL.out).1); (case q4 => exact (Live.rowsC [_, _] HL.out).2); rintro e w6 ⟨rfl, hD⟩; have HL1 : Aside0 (Live w w6 [.rows (.slice A_4 ((turnOf u0)).length c_4) ((turnOf u0)), .rows (.slice A_3 u0.length c_3) u0, .rows (.slice A_2 ((turnOf u0)).length c_2) ((turnOf u0)), .rows (.slice A_1 u0.length c_1) u0]) := ⟨HL.out.step (dB hD)⟩; clear HL hD; have HL := HL1; clear HL1; have s6 := Aside0.mk True.intro)
    | (clear s6; go_at_call 20; refine arm_ (rs' := [.rows (.slice A_4 ((turnOf u0)).length c_4) ((turnOf u0)), .rows (.slice A_3 u0.length c_3) u0, .rows (.slice A_2 ((turnOf u0)).length c_2) ((turnOf u0)), .rows (.slice A_1 u0.length c_1) u0]) HL ?_; clear HL; intro HL; (with_reducible refine (laws_toIntSS.calls k6 _ _ u0 u0 _ ?q1 ?q2 HK6.out).mono ?_); (case q1 => exact Live.came HL.out HR0.out); (case q2 => exact HC0.out); rintro e w7 ⟨v5, rfl, hs, hb⟩; obtain ⟨A_5, c_5, ev⟩ := Kd.S_slice hs; subst ev; have HL1 : Aside0 (Live w w7 [.rows (.slice A_5 u0.length c_5) u0, .rows (.slice A_4 ((turnOf u0)).length c_4) ((turnOf u0)), .rows (.slice A_3 u0.length c_3) u0, .rows (.slice A_2 ((turnOf u0)).length c_2) ((turnOf u0)), .rows (.slice A_1 u0.length c_1) u0]) := ⟨HL.out.rows hs hb⟩; clear HL hs hb; have HL := HL1; clear HL1; have s7 := Aside0.mk True.intro)
    | (clear s7; go_at_call 22; refine arm_ (rs' := [.rows (.slice A_5 u0.length c_5) u0, .rows (.slice A_4 ((turnOf u0)).length c_4) ((turnOf u0)), .rows (.slice A_3 u0.length c_3) u0, .rows (.slice A_2 ((turnOf u0)).length c_2) ((turnOf u0)), .rows (.slice A_1 u0.length c_1) u0]) HL ?_; clear HL; intro HL; (with_reducible refine (laws_eqIntSS.calls k7 _ _ u0 _ _ u0 true _ ?q1 ?q2 ?q3 ?q4 HK7.out).mono ?_); (case q1 => exact (Live.rowsC [_, _] HL.out).1); (case q2 => exact (Live.rowsC [_, _] HL.out).2); (case q3 => exact (Live.rowsC [] HL.out).1); (case q4 => exact (Live.rowsC [] HL.out).2); rintro e w8 ⟨rfl, hD⟩; have HL1 : Aside0 (Live w w8 [.rows (.slice A_5 u0.length c_5) u0, .rows (.slice A_4 ((turnOf u0)).length c_4) ((turnOf u0)), .rows (.slice A_3 u0.length c_3) u0, .rows (.slice A_2 ((turnOf u0)).length c_2) ((turnOf u0)), .rows (.slice A_1 u0.length c_1) u0]) := ⟨HL.out.step (dB hD)⟩; clear HL hD; have HL := HL1; clear HL1; have s8 := Aside0.mk True.intro)
    | (clear s8; go_at_call 31; refine arm_ (rs' := [.rows (.slice A_5 u0.length c_5) u0, .rows (.slice A_4 ((turnOf u0)).length c_4) ((turnOf u0)), .rows (.slice A_3 u0.length c_3) u0, .rows (.slice A_2 ((turnOf u0)).length c_2) ((turnOf u0)), .rows (.slice A_1 u0.length c_1) u0]) HL ?_; clear HL; intro HL; obtain ⟨b_, e_, hbe, hs_, hput⟩ := Live.rowsAt [_, _] HL.out; (with_reducible refine (marks_calls (w0 := w) (fun k => b_ ≤ k ∧ k < e_) _ _ u0 1 (by omega) HT1.out HU1.out HL.out.below hs_).mono ?_); rw [E1.out]; rintro e w9 ⟨rfl, hs, hb, hk⟩; have HL1 : Aside0 (Live w w9 [.rows (.slice A_5 u0.length c_5) u0, .rows (.slice A_4 ((turnOf u0)).length c_4) ((turnOf u0)), .rows (.slice A_3 u0.length c_3) (Q.mk2 u0 1), .rows (.slice A_2 ((turnOf u0)).length c_2) ((turnOf u0)), .rows (.slice A_1 u0.length c_1) u0]) := ⟨hput _ _ hb hk hs⟩; clear HL hput hs hb hk hbe hs_; have HL := HL1; clear HL1; have s9 := Aside0.mk True.intro)
    | (clear s9; go_at_call 22; refine arm_ (rs' := [.rows (.slice A_5 u0.length c_5) u0, .rows (.slice A_4 ((turnOf u0)).length c_4) ((turnOf u0)), .rows (.slice A_3 u0.length c_3) (Q.mk2 u0 1), .rows (.slice A_2 ((turnOf u0)).length c_2) ((turnOf u0)), .rows (.slice A_1 u0.length c_1) u0]) HL ?_; clear HL; intro HL; (with_reducible refine (laws_eqIntSS.calls k8 _ _ (((turnOf u0))) _ _ (((turnOf u0))) true _ ?q1 ?q2 ?q3 ?q4 HK8.out).mono ?_); (case q1 => exact (Live.rowsC [_] HL.out).1); (case q2 => exact (Live.rowsC [_] HL.out).2); (case q3 => exact (Live.rowsC [_, _, _] HL.out).1); (case q4 => exact (Live.rowsC [_, _, _] HL.out).2); rintro e w10 ⟨rfl, hD⟩; have HL1 : Aside0 (Live w w10 [.rows (.slice A_5 u0.length c_5) u0, .rows (.slice A_4 ((turnOf u0)).length c_4) ((turnOf u0)), .rows (.slice A_3 u0.length c_3) (Q.mk2 u0 1), .rows (.slice A_2 ((turnOf u0)).length c_2) ((turnOf u0)), .rows (.slice A_1 u0.length c_1) u0]) := ⟨HL.out.step (dB hD)⟩; clear HL hD; have HL := HL1; clear HL1; have s10 := Aside0.mk True.intro)
    | (clear s10; go_at_call 31; refine arm_ (rs' := [.rows (.slice A_5 u0.length c_5) u0, .rows (.slice A_4 ((turnOf u0)).length c_4) ((turnOf u0)), .rows (.slice A_3 u0.length c_3) (Q.mk2 u0 1), .rows (.slice A_2 ((turnOf u0)).length c_2) ((turnOf u0)), .rows (.slice A_1 u0.length c_1) u0]) HL ?_; clear HL; intro HL; obtain ⟨b_, e_, hbe, hs_, hput⟩ := Live.rowsAt [_] HL.out; (with_reducible refine (marks_calls (w0 := w) (fun k => b_ ≤ k ∧ k < e_) _ _ ((turnOf u0)) 1 (by omega) HT2.out HU2.out HL.out.below hs_).mono ?_); rw [E2.out]; rintro e w11 ⟨rfl, hs, hb, hk⟩; have HL1 : Aside0 (Live w w11 [.rows (.slice A_5 u0.length c_5) u0, .rows (.slice A_4 ((turnOf u0)).length c_4) (Q.mk2 ((turnOf u0)) 1), .rows (.slice A_3 u0.length c_3) (Q.mk2 u0 1), .rows (.slice A_2 ((turnOf u0)).length c_2) ((turnOf u0)), .rows (.slice A_1 u0.length c_1) u0]) := ⟨hput _ _ hb hk hs⟩; clear HL hput hs hb hk hbe hs_; have HL := HL1; clear HL1; have s11 := Aside0.mk True.intro)
    | (clear s11; go_at_call 32; refine arm_ (rs' := [.rows (.slice A_5 u0.length c_5) u0, .rows (.slice A_4 ((turnOf u0)).length c_4) (Q.mk2 ((turnOf u0)) 1), .rows (.slice A_3 u0.length c_3) (Q.mk2 u0 1), .rows (.slice A_2 ((turnOf u0)).length c_2) ((turnOf u0)), .rows (.slice A_1 u0.length c_1) u0]) HL ?_; clear HL; intro HL; (with_reducible refine (held2_calls _ _ (turnOf u0) 1 (by omega) HT2.out HU2.out ?q1 ?q2).mono ?_); (case q1 => exact (Live.rowsC [_] HL.out).1); (case q2 => exact (Live.rowsC [_] HL.out).2); rw [E2.out]; rintro e w12 ⟨rfl, hD⟩; have HL1 : Aside0 (Live w w12 [.rows (.slice A_5 u0.length c_5) u0, .rows (.slice A_4 ((turnOf u0)).length c_4) (Q.mk2 ((turnOf u0)) 1), .rows (.slice A_3 u0.length c_3) (Q.mk2 u0 1), .rows (.slice A_2 ((turnOf u0)).length c_2) ((turnOf u0)), .rows (.slice A_1 u0.length c_1) u0]) := ⟨HL.out.step (dB hD)⟩; clear HL hD; have HL := HL1; clear HL1; have s12 := Aside0.mk True.intro)
    | (clear s12; go_at_call 20; refine arm_ (rs' := [.rows (.slice A_5 u0.length c_5) u0, .rows (.slice A_4 ((turnOf u0)).length c_4) (Q.mk2 ((turnOf u0)) 1), .rows (.slice A_3 u0.length c_3) (Q.mk2 u0 1), .rows (.slice A_2 ((turnOf u0)).length c_2) ((turnOf u0)), .rows (.slice A_1 u0.length c_1) u0]) HL ?_; clear HL; intro HL; (with_reducible refine (laws_toIntSS.calls k9 _ _ u0 u0 _ ?q1 ?q2 HK9.out).mono ?_); (case q1 => exact Live.came HL.out HR0.out); (case q2 => exact HC0.out); rintro e w13 ⟨v6, rfl, hs, hb⟩; obtain ⟨A_6, c_6, ev⟩ := Kd.S_slice hs; subst ev; have HL1 : Aside0 (Live w w13 [.rows (.slice A_6 u0.length c_6) u0, .rows (.slice A_5 u0.length c_5) u0, .rows (.slice A_4 ((turnOf u0)).length c_4) (Q.mk2 ((turnOf u0)) 1), .rows (.slice A_3 u0.length c_3) (Q.mk2 u0 1), .rows (.slice A_2 ((turnOf u0)).length c_2) ((turnOf u0)), .rows (.slice A_1 u0.length c_1) u0]) := ⟨HL.out.rows hs hb⟩; clear HL hs hb; have HL := HL1; clear HL1; have s13 := Aside0.mk True.intro)
    | (clear s13; go_at_call 26; refine arm_ (rs' := [.rows (.slice A_6 u0.length c_6) u0, .rows (.slice A_5 u0.length c_5) u0, .rows (.slice A_4 ((turnOf u0)).length c_4) (Q.mk2 ((turnOf u0)) 1), .rows (.slice A_3 u0.length c_3) (Q.mk2 u0 1), .rows (.slice A_2 ((turnOf u0)).length c_2) ((turnOf u0)), .rows (.slice A_1 u0.length c_1) u0]) HL ?_; clear HL; intro HL; (with_reducible refine (impl_TurnedOf.calls k10 _ _ u0 ((turnOf u0)) _ ?q1 ?q2 HK10.out).mono ?_); (case q1 => exact (Live.rowsC [] HL.out).1); (case q2 => exact (Live.rowsC [] HL.out).2); rintro e w14 ⟨v7, rfl, hs, hb⟩; obtain ⟨A_7, c_7, ev⟩ := Kd.S_slice hs; subst ev; have HL1 : Aside0 (Live w w14 [.rows (.slice A_7 ((turnOf u0)).length c_7) ((turnOf u0)), .rows (.slice A_6 u0.length c_6) u0, .rows (.slice A_5 u0.length c_5) u0, .rows (.slice A_4 ((turnOf u0)).length c_4) (Q.mk2 ((turnOf u0)) 1), .rows (.slice A_3 u0.length c_3) (Q.mk2 u0 1), .rows (.slice A_2 ((turnOf u0)).length c_2) ((turnOf u0)), .rows (.slice A_1 u0.length c_1) u0]) := ⟨HL.out.rows hs hb⟩; clear HL hs hb; have HL := HL1; clear HL1; have s14 := Aside0.mk True.intro)
    | (clear s14; go_at_call 22; refine arm_ (rs' := [.rows (.slice A_7 ((turnOf u0)).length c_7) ((turnOf u0)), .rows (.slice A_6 u0.length c_6) u0, .rows (.slice A_5 u0.length c_5) u0, .rows (.slice A_4 ((turnOf u0)).length c_4) (Q.mk2 ((turnOf u0)) 1), .rows (.slice A_3 u0.length c_3) (Q.mk2 u0 1), .rows (.slice A_2 ((turnOf u0)).length c_2) ((turnOf u0)), .rows (.slice A_1 u0.length c_1) u0]) HL ?_; clear HL; intro HL; (with_reducible refine (laws_eqIntSS.calls k11 _ _ (((turnOf u0))) _ _ (((turnOf u0))) true _ ?q1 ?q2 ?q3 ?q4 HK11.out).mono ?_); (case q1 => exact (Live.rowsC [] HL.out).1); (case q2 => exact (Live.rowsC [] HL.out).2); (case q3 => exact (Live.rowsC [_, _, _, _, _] HL.out).1); (case q4 => exact (Live.rowsC [_, _, _, _, _] HL.out).2); rintro e w15 ⟨rfl, hD⟩; have HL1 : Aside0 (Live w w15 [.rows (.slice A_7 ((turnOf u0)).length c_7) ((turnOf u0)), .rows (.slice A_6 u0.length c_6) u0, .rows (.slice A_5 u0.length c_5) u0, .rows (.slice A_4 ((turnOf u0)).length c_4) (Q.mk2 ((turnOf u0)) 1), .rows (.slice A_3 u0.length c_3) (Q.mk2 u0 1), .rows (.slice A_2 ((turnOf u0)).length c_2) ((turnOf u0)), .rows (.slice A_1 u0.length c_1) u0]) := ⟨HL.out.step (dB hD)⟩; clear HL hD; have HL := HL1; clear HL1; have s15 := Aside0.mk True.intro)
    | (clear s15; go_at_call 32; refine arm_ (rs' := [.rows (.slice A_7 ((turnOf u0)).length c_7) ((turnOf u0)), .rows (.slice A_6 u0.length c_6) u0, .rows (.slice A_5 u0.length c_5) u0, .rows (.slice A_4 ((turnOf u0)).length c_4) (Q.mk2 ((turnOf u0)) 1), .rows (.slice A_3 u0.length c_3) (Q.mk2 u0 1), .rows (.slice A_2 ((turnOf u0)).length c_2) ((turnOf u0)), .rows (.slice A_1 u0.length c_1) u0]) HL ?_; clear HL; intro HL; (with_reducible refine (held2_calls _ _ (turnOf u0) 1 (by omega) HT2.out HU2.out ?q1 ?q2).mono ?_); (case q1 => exact (Live.rowsC [_, _, _] HL.out).1); (case q2 => exact (Live.rowsC [_, _, _] HL.out).2); rw [E2.out]; rintro e w16 ⟨rfl, hD⟩; have HL1 : Aside0 (Live w w16 [.rows (.slice A_7 ((turnOf u0)).length c_7) ((turnOf u0)), .rows (.slice A_6 u0.length c_6) u0, .rows (.slice A_5 u0.length c_5) u0, .rows (.slice A_4 ((turnOf u0)).length c_4) (Q.mk2 ((turnOf u0)) 1), .rows (.slice A_3 u0.length c_3) (Q.mk2 u0 1), .rows (.slice A_2 ((turnOf u0)).length c_2) ((turnOf u0)), .rows (.slice A_1 u0.length c_1) u0]) := ⟨HL.out.step (dB hD)⟩; clear HL hD; have HL := HL1; clear HL1; have s16 := Aside0.mk True.intro))
  go_ret
  exact ⟨rfl, by repeat (first | exact HL.out.below | apply pw_below_drewN | apply below_drew1)⟩
theorem FnExactTurnedOf_calls (w : World) (A0 : Option Addr) (c0 : Nat) (u0 : List (List Int)) (hr0 : Kd.C (Kd.slice 3 (Kd.int .i64)) w A0 u0.length u0) (hc0 : u0.length ≤ c0) (hin : u0.length ≤ 9223372036854775807 ∧ ∀ i (k : i < u0.length), u0[i].length ≤ 9223372036854775807) : Calls Try.prog 8 #[.slice A0 u0.length c0] w fun e w' => e = .returned (.bool true) ∧ Below w.heap.size w w' := by
  obtain ⟨x, hx, _, h2⟩ := Q.szIntSS_ev u0 1048576 (by omega) (by omega) hin.1 hin.2
  obtain ⟨k0, hk0⟩ := Ev.rounds hx
  by_cases e : x < 0
  · exact FnExactTurnedOf_neg w A0 c0 u0 hr0 hc0 x k0 hk0 e
  · exact FnExactTurnedOf_all w A0 c0 u0 hr0 hc0 x k0 hk0 e (h2 (by omega)).1 (h2 (by omega)).2
end Go.Proofs.Ytilgbnbeonlbnaa.P

