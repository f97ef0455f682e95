/- FnExactGluedOf: the statement's row, out of the walk and the pure statement. -/
import Derived.Test.YtlkibgccgkhdmaaRows
import Derived.Test.YtlkibgccgkhdmaaPk7
import Derived.Test.YtlkibgccgkhdmaaPk4
import Derived.WalkKit
import Derived.ProofKit
import Derived.OpenShut
import Derived.ShutString
import Derived.ChangeOld
import Derived.Below
import Derived.SizedLaws
import Derived.Lib.SmallJoins
import Derived.Test.YtlkibgccgkhdmaaPk1
namespace Go.Proofs.Ytlkibgccgkhdmaa.fnExactGluedOf
open Go.ChangeShapes Go.WideShapes Go.ChangeAt Go.RowKit Go.Joins
open Go.ChangeMaps (open_string shut_string)
open Go.Proofs.YtlkibgccgkhdmaaW.PrintWords
set_option linter.unusedVariables false
theorem own : ownKnob Try.prog.godebug = none := by kernel_rfl
theorem laidOut : laidOutB Try.prog = true := by kernel_rfl
set_option maxRecDepth 100000 in
theorem lifted (os : Os) (started : os.Started) (H : Type) (enc : TypeId × Value → H) :
    ReturnsInHanded {} Try.checked os 14 .any (Rows.fnExactGluedOfSpec.pre6 enc Try.prog Try.f14 Rows.fnExactGluedOfRow.domain false) (Rows.fnExactGluedOfSpec.post enc Try.prog Try.f14 false true false false) := by
  refine returnsInHanded_of_change_sized (C := Try.checked) own started (by kernel_rfl) Try.func14
    (ChangeSpec.witness6 (enc := enc) (C := Try.checked) false ⟨#[], #[.agg #[.slice none 0 0, .slice none 0 0], .agg #[.slice none 0 0, .slice none 0 0]], []⟩ 8 (by kernel_rfl) (by kernel_rfl) (by kernel_rfl) (by kernel_rfl)) ?_
  intro W base args ds gs before hval0 hW hcnd hsz0 _
  have hsz : (DataW.weightsEach Try.prog (Try.f14.params.toList ++ Rows.fnExactGluedOfSpec.plain.varTypes Try.prog) (ds ++ gs)).all (· ≤ reachBytes) = true := hsz0
  have hval : ∀ (j : Nat) t v, Try.f14.params[j]? = some t → args[j]? = some v → Value.okWide Try.prog W .any base t v := hval0
  have hW' := hW
  obtain ⟨p, q, hA0, hV, rfl, hfz, hnd⟩ := hW
  have hA : DataW.TrodAll enc Try.prog W 0 (fun _ => true) true Try.f14.params.toList args.toList ds p := hA0
  rw [Try.params14] at hA hval hsz
  obtain ⟨v0, vs0, d0, ds0, p0, q0, hargs, rfl, rfl, h0, r0⟩ := trodAll_cons hA
  obtain ⟨v1, vs1, d1, ds1, p1, q1, rfl, rfl, rfl, h1, r1⟩ := trodAll_cons r0
  obtain ⟨rfl, rfl, rfl⟩ := trodAll_nil r1
  obtain rfl : args = #[v0, v1] := by cases args; simp_all
  obtain ⟨rfl, rfl⟩ := trodVars_none hV
  have k0 := h0
  have lt0 : ∀ x ∈ p0, x.block < W.heap.size := by obtain ⟨m, hm⟩ := k0; exact DataW.trod_lt m _ _ _ hm
  obtain ⟨c0, e0, x0, y0_, m0, rfl, rfl, rfl, hx0, hy0⟩ := open_agg2 Try.underlying25 (by kernel_rfl) (by kernel_rfl) (hval 0 25 v0 rfl rfl) h0
  obtain ⟨a0, len0, cap0, rfl, ml0⟩ : ∃ a len cap, c0 = .slice a len cap ∧ len ≤ maxLen := by
    rcases Go.Deep.open_int_rows Try.underlying22 Try.underlying23 Try.underlying3 (by kernel_rfl) (by kernel_rfl) hx0 with ⟨hcs, _⟩ | ⟨x, l, c, A, L, C, Z, hcs, _, hl, hm, _⟩
    · exact ⟨none, 0, 0, by simpa using hcs, Nat.zero_le _⟩
    · exact ⟨some x, l, c, by simpa using hcs, Nat.le_trans hl hm⟩
  obtain ⟨u0, rfl, hc0, hr0, hm0⟩ : ∃ u : List (List Int), u.length = len0 ∧ len0 ≤ cap0 ∧ Kd.C (Kd.slice 3 (Kd.int .i64)) W a0 u.length u ∧ ∀ i (k : i < u.length), u[i].length ≤ maxLen := (Q.rows_of Try.underlying22 Try.underlying23 Try.underlying3 (by kernel_rfl) (by kernel_rfl) hx0).reads 3
  obtain ⟨b0, cap0_, n0, rfl, hcn0, hrn0, mn0⟩ : ∃ (b : Option Addr) (cp : Nat) (n : List Int), e0 = .slice b n.length cp ∧ n.length ≤ cp ∧ Kd.C (Kd.int .i64) W b n.length n ∧ n.length ≤ maxLen := Q.ints_of Try.underlying23 Try.underlying3 (by kernel_rfl) hy0
  have k1 := h1
  have lt1 : ∀ x ∈ p1, x.block < W.heap.size := by obtain ⟨m, hm⟩ := k1; exact DataW.trod_lt m _ _ _ hm
  obtain ⟨c1, e1, x1, y1_, m1, rfl, rfl, rfl, hx1, hy1⟩ := open_agg2 Try.underlying25 (by kernel_rfl) (by kernel_rfl) (hval 1 25 v1 rfl rfl) h1
  obtain ⟨a1, len1, cap1, rfl, ml1⟩ : ∃ a len cap, c1 = .slice a len cap ∧ len ≤ maxLen := by
    rcases Go.Deep.open_int_rows Try.underlying22 Try.underlying23 Try.underlying3 (by kernel_rfl) (by kernel_rfl) hx1 with ⟨hcs, _⟩ | ⟨x, l, c, A, L, C, Z, hcs, _, hl, hm, _⟩
    · exact ⟨none, 0, 0, by simpa using hcs, Nat.zero_le _⟩
    · exact ⟨some x, l, c, by simpa using hcs, Nat.le_trans hl hm⟩
  obtain ⟨u1, rfl, hc1, hr1, hm1⟩ : ∃ u : List (List Int), u.length = len1 ∧ len1 ≤ cap1 ∧ Kd.C (Kd.slice 3 (Kd.int .i64)) W a1 u.length u ∧ ∀ i (k : i < u.length), u[i].length ≤ maxLen := (Q.rows_of Try.underlying22 Try.underlying23 Try.underlying3 (by kernel_rfl) (by kernel_rfl) hx1).reads 3
  obtain ⟨b1, cap1_, n1, rfl, hcn1, hrn1, mn1⟩ : ∃ (b : Option Addr) (cp : Nat) (n : List Int), e1 = .slice b n.length cp ∧ n.length ≤ cp ∧ Kd.C (Kd.int .i64) W b n.length n ∧ n.length ≤ maxLen := Q.ints_of Try.underlying23 Try.underlying3 (by kernel_rfl) hy1
  clear hA0 hval0 hsz0 hsz
  refine (P.FnExactGluedOf_calls W _ _ u0 _ _ n0 hr0 hc0 hrn0 hcn0 _ _ u1 _ _ n1 hr1 hc1 hrn1 hcn1 ⟨⟨by have := ml0; unfold maxLen at this; omega, fun i k => by have := hm0 i k; unfold maxLen at this; omega⟩, by have := mn0; unfold maxLen at this; omega⟩ ⟨⟨by have := ml1; unfold maxLen at this; omega, fun i k => by have := hm1 i k; unfold maxLen at this; omega⟩, by have := mn1; unfold maxLen at this; omega⟩).mono fun e W' ⟨he, bel⟩ => ?_
  subst he
  exact ⟨_, rfl, _, _, _, [], _, [], hW', trodAll_mk1 (shut_bool Try.underlying4 _), (trodAll_cons_mk (Below.trod laidOut (by kernel_rfl) (of_decide_eq_true (by kernel_rfl)) k0 bel lt0) (trodAll_cons_mk (Below.trod laidOut (by kernel_rfl) (of_decide_eq_true (by kernel_rfl)) k1 bel lt1) trodAll_mk0)), rfl, bel.frame _, fun h => by cases h⟩
theorem over : Rows.fnExactGluedOfRow.holds Try.pinned (OpenSpec.ofChange Rows.fnExactGluedOfSpec) :=
  OpenClaim.holds_of_wide 14 Try.f14 rfl rfl rfl rfl rfl rfl rfl ⟨rfl, rfl, rfl, rfl, rfl⟩ rfl rfl rfl rfl rfl (by kernel_rfl) Try.func14 (by kernel_rfl)
    (of_decide_eq_true (by kernel_rfl)) (by unfold Func.isWrapper; first | (rw [if_pos (by decide +kernel)]; kernel_rfl) | (rw [if_neg (by decide +kernel)]; exact ⟨rfl, rfl⟩))
    (fun os started H enc _ => lifted os started H enc)
theorem proved : Rows.FnExactGluedOfSaid := over
#print axioms proved
end Go.Proofs.Ytlkibgccgkhdmaa.fnExactGluedOf
namespace Go.Proofs.Ytlkibgccgkhdmaa
theorem fnExactGluedOf_holds : Rows.FnExactGluedOfSaid := fnExactGluedOf.proved
end Go.Proofs.Ytlkibgccgkhdmaa
