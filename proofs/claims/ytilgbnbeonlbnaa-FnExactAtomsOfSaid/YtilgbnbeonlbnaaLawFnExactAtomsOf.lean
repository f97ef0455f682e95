/- FnExactAtomsOf: the statement's row, out of the walk and the pure statement. -/
import Derived.Test.YtilgbnbeonlbnaaRows
import Derived.Test.YtilgbnbeonlbnaaXFnExactAtomsOf
import Derived.Test.YtilgbnbeonlbnaaPk3
import Derived.WalkKit
import Derived.ProofKit
import Derived.OpenShut
import Derived.ShutString
import Derived.ChangeOld
import Derived.Below
import Derived.SizedLaws
import Derived.Test.YtilgbnbeonlbnaaPk1
namespace Go.Proofs.Ytilgbnbeonlbnaa.fnExactAtomsOf
open Go.ChangeShapes Go.WideShapes Go.ChangeAt Go.RowKit
open Go.ChangeMaps (open_string shut_string)
open Go.Proofs.YtilgbnbeonlbnaaW.PrintWords
set_option linter.unusedVariables false
theorem own : ownKnob Try.prog.godebug = none := by kernel_rfl
theorem laidOut : laidOutB Try.prog = true := by kernel_rfl
set_option maxRecDepth 100000 in
theorem lifted (os : Os) (started : os.Started) (H : Type) (enc : TypeId × Value → H) :
    ReturnsInHanded {} Try.checked os 14 .any (Rows.fnExactAtomsOfSpec.pre6 enc Try.prog Try.f14 Rows.fnExactAtomsOfRow.domain false) (Rows.fnExactAtomsOfSpec.post enc Try.prog Try.f14 false true false false) := by
  refine returnsInHanded_of_change_sized (C := Try.checked) own started (by kernel_rfl) Try.func14
    (ChangeSpec.witness6 (enc := enc) (C := Try.checked) false ⟨#[], #[.slice none 0 0], []⟩ 8 (by kernel_rfl) (by kernel_rfl) (by kernel_rfl) (by kernel_rfl)) ?_
  intro W base args ds gs before hval0 hW hcnd hsz0 _
  have hsz : (DataW.weightsEach Try.prog (Try.f14.params.toList ++ Rows.fnExactAtomsOfSpec.plain.varTypes Try.prog) (ds ++ gs)).all (· ≤ reachBytes) = true := hsz0
  have hval : ∀ (j : Nat) t v, Try.f14.params[j]? = some t → args[j]? = some v → Value.okWide Try.prog W .any base t v := hval0
  have hW' := hW
  obtain ⟨p, q, hA0, hV, rfl, hfz, hnd⟩ := hW
  have hA : DataW.TrodAll enc Try.prog W 0 (fun _ => true) true Try.f14.params.toList args.toList ds p := hA0
  rw [Try.params14] at hA hval hsz
  obtain ⟨v0, vs0, d0, ds0, p0, q0, hargs, rfl, rfl, h0, r0⟩ := trodAll_cons hA
  obtain ⟨rfl, rfl, rfl⟩ := trodAll_nil r0
  obtain rfl : args = #[v0] := by cases args; simp_all
  obtain ⟨rfl, rfl⟩ := trodVars_none hV
  obtain ⟨a0, len0, cap0, rfl⟩ := okWide_slice Try.underlying23 (hval 0 23 v0 rfl rfl)
  have k0 := h0
  have lt0 : ∀ x ∈ p0, x.block < W.heap.size := by obtain ⟨m, hm⟩ := k0; exact DataW.trod_lt m _ _ _ hm
  have y0 : len0 * 24 ≤ 140737488351232 := Q.rows_sized hsz (j := 0) (t := 23) rfl rfl Try.underlying23 Try.underlying32 Try.underlying3 (by kernel_rfl) (by kernel_rfl) (by kernel_rfl) h0
  obtain ⟨u0, rfl, hc0, hr0, hm0⟩ : ∃ u : List (List Int), u.length = len0 ∧ len0 ≤ cap0 ∧ Kd.C (Kd.slice 3 (Kd.int .i64)) W a0 u.length u ∧ ∀ i (k : i < u.length), u[i].length ≤ maxLen := by
    obtain ⟨fuel, hf⟩ := h0
    exact (Q.rows_of Try.underlying23 Try.underlying32 Try.underlying3 (by kernel_rfl) (by kernel_rfl) hf).reads 3
  clear hA0 hval0 hsz0 hsz
  refine (P.FnExactAtomsOf_calls W _ _ u0 hr0 hc0 ⟨by omega, fun i k => by have := hm0 i k; unfold maxLen at this; omega⟩).mono fun e W' ⟨he, bel⟩ => ?_
  subst he
  exact ⟨_, rfl, _, _, _, [], _, [], hW', trodAll_mk1 (shut_bool Try.underlying4 _), (trodAll_cons_mk (Below.trod laidOut (by kernel_rfl) (of_decide_eq_true (by kernel_rfl)) k0 bel lt0) trodAll_mk0), rfl, bel.frame _, fun h => by cases h⟩
theorem over : Rows.fnExactAtomsOfRow.holds Try.pinned (OpenSpec.ofChange Rows.fnExactAtomsOfSpec) :=
  OpenClaim.holds_of_wide 14 Try.f14 rfl rfl rfl rfl rfl rfl rfl ⟨rfl, rfl, rfl, rfl, rfl⟩ rfl rfl rfl rfl rfl (by kernel_rfl) Try.func14 (by kernel_rfl)
    (of_decide_eq_true (by kernel_rfl)) (by unfold Func.isWrapper; first | (rw [if_pos (by decide +kernel)]; kernel_rfl) | (rw [if_neg (by decide +kernel)]; exact ⟨rfl, rfl⟩))
    (fun os started H enc _ => lifted os started H enc)
theorem proved : Rows.FnExactAtomsOfSaid := over
#print axioms proved
end Go.Proofs.Ytilgbnbeonlbnaa.fnExactAtomsOf
namespace Go.Proofs.Ytilgbnbeonlbnaa
theorem fnExactAtomsOf_holds : Rows.FnExactAtomsOfSaid := fnExactAtomsOf.proved
end Go.Proofs.Ytilgbnbeonlbnaa
