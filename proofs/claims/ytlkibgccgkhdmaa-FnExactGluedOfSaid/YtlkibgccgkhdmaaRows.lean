/-
  No cell of these rows narrows 'for every input' (looked for: loops, veiled, ifaces, maps, wideKeys, modest, calm, conditions, laid).
  DERIVED. THE GIVEN ROWS OF THIS SEAT. 12 by the template 'for every input the law returns true; each argument reads behind the call as it read before'; 0 by the template 'total and deterministic' (their statements: YtlkibgccgkhdmaaTotals.lean).
  GIVEN WITH THE SEED: the statements are not yours to turn. If you find one false, say at which input.
  Laid BY PROGRAM, IN A SANDBOX (cutbox-rows.mjs): the forced cells as the released guide's own fill.sh prints them over the translation 2895e1213f1eefd6… (all of the seat's roots in one cut). By AI agents, Wed Nov 11 2026. No macro, syntax, notation, axiom, sorry.
-/
import Derived.Test.YtlkibgccgkhdmaaChecked
import GoSem.Claim
import GoSem.ClaimJoined
import GoSem.ClaimMapViews
import Derived.JoinedTies
import Derived.KernelRfl
namespace Go.Proofs.Ytlkibgccgkhdmaa
/- THE CELL 'sum', in the pinned program and in every row, IS THE sha256 OF THE DUMP (.gsa) THAT YtlkibgccgkhdmaaProg.lean LOADS. Nothing in Lean hashes anything: it is a label: what it is worth is what the hold of that sum in a sandbox is worth. -/
noncomputable def Try.pinned : Pinned := { name := "ytlkibgccgkhdmaa", sum := "2895e1213f1eefd6b56e028d0e319919371609c5697bcb6bf189c99777cb6c4c", checked := Try.checked }
namespace Rows
def none {H : Type} : Left H := { results := [], args := [] }

/-- 'laws.FnExactBreakOf': WHATEVER THE INPUT: true; the input reads as it did. -/
def fnExactBreakOfSpec : ChangeSpec := { name := "fnExactBreakOf", fn := fun _ => fun
  | [d] => { results := [.lit (.bool true)], args := [d] }
  | _ => none }
def fnExactBreakOfRow : OpenClaim := { program := "ytlkibgccgkhdmaa", sum := "2895e1213f1eefd6b56e028d0e319919371609c5697bcb6bf189c99777cb6c4c", func := "loop.example/orthologics/laws.FnExactBreakOf", spec := "fnExactBreakOf", apart := false }
def FnExactBreakOfSaid : Prop := fnExactBreakOfRow.holds Try.pinned (OpenSpec.ofChange fnExactBreakOfSpec)

/-- ITS FALSE NEIGHBOUR: 'it returns false'. Refute it at one input. -/
def fnExactBreakOfWrong : ChangeSpec := { name := "fnExactBreakOf", fn := fun _ => fun
  | [d] => { results := [.lit (.bool false)], args := [d] }
  | _ => none }
def FnExactBreakOfWrongFalsely : Prop := fnExactBreakOfRow.holds Try.pinned (OpenSpec.ofChange fnExactBreakOfWrong)

/-- 'laws.FnExactBooleanOk': WHATEVER THE INPUT: true; the input reads as it did. -/
def fnExactBooleanOkSpec : ChangeSpec := { name := "fnExactBooleanOk", fn := fun _ => fun
  | [d] => { results := [.lit (.bool true)], args := [d] }
  | _ => none }
def fnExactBooleanOkRow : OpenClaim := { program := "ytlkibgccgkhdmaa", sum := "2895e1213f1eefd6b56e028d0e319919371609c5697bcb6bf189c99777cb6c4c", func := "loop.example/orthologics/laws.FnExactBooleanOk", spec := "fnExactBooleanOk", unfollowed := true, recurses := true, apart := false }
def FnExactBooleanOkSaid : Prop := fnExactBooleanOkRow.holds Try.pinned (OpenSpec.ofChange fnExactBooleanOkSpec)

/-- ITS FALSE NEIGHBOUR: 'it returns false'. Refute it at one input. -/
def fnExactBooleanOkWrong : ChangeSpec := { name := "fnExactBooleanOk", fn := fun _ => fun
  | [d] => { results := [.lit (.bool false)], args := [d] }
  | _ => none }
def FnExactBooleanOkWrongFalsely : Prop := fnExactBooleanOkRow.holds Try.pinned (OpenSpec.ofChange fnExactBooleanOkWrong)

/-- 'laws.FnExactCentreOf': WHATEVER THE INPUT: true; the input reads as it did. -/
def fnExactCentreOfSpec : ChangeSpec := { name := "fnExactCentreOf", fn := fun _ => fun
  | [d] => { results := [.lit (.bool true)], args := [d] }
  | _ => none }
def fnExactCentreOfRow : OpenClaim := { program := "ytlkibgccgkhdmaa", sum := "2895e1213f1eefd6b56e028d0e319919371609c5697bcb6bf189c99777cb6c4c", func := "loop.example/orthologics/laws.FnExactCentreOf", spec := "fnExactCentreOf", unfollowed := true, recurses := true, apart := false }
def FnExactCentreOfSaid : Prop := fnExactCentreOfRow.holds Try.pinned (OpenSpec.ofChange fnExactCentreOfSpec)

/-- ITS FALSE NEIGHBOUR: 'it returns false'. Refute it at one input. -/
def fnExactCentreOfWrong : ChangeSpec := { name := "fnExactCentreOf", fn := fun _ => fun
  | [d] => { results := [.lit (.bool false)], args := [d] }
  | _ => none }
def FnExactCentreOfWrongFalsely : Prop := fnExactCentreOfRow.holds Try.pinned (OpenSpec.ofChange fnExactCentreOfWrong)

/-- 'laws.FnExactAgreeOk': WHATEVER THE INPUT: true; the input reads as it did. -/
def fnExactAgreeOkSpec : ChangeSpec := { name := "fnExactAgreeOk", fn := fun _ => fun
  | [d1, d2] => { results := [.lit (.bool true)], args := [d1, d2] }
  | _ => none }
def fnExactAgreeOkRow : OpenClaim := { program := "ytlkibgccgkhdmaa", sum := "2895e1213f1eefd6b56e028d0e319919371609c5697bcb6bf189c99777cb6c4c", func := "loop.example/orthologics/laws.FnExactAgreeOk", spec := "fnExactAgreeOk", unfollowed := true, recurses := true, apart := false }
def FnExactAgreeOkSaid : Prop := fnExactAgreeOkRow.holds Try.pinned (OpenSpec.ofChange fnExactAgreeOkSpec)

/-- ITS FALSE NEIGHBOUR: 'it returns false'. Refute it at one input. -/
def fnExactAgreeOkWrong : ChangeSpec := { name := "fnExactAgreeOk", fn := fun _ => fun
  | [d1, d2] => { results := [.lit (.bool false)], args := [d1, d2] }
  | _ => none }
def FnExactAgreeOkWrongFalsely : Prop := fnExactAgreeOkRow.holds Try.pinned (OpenSpec.ofChange fnExactAgreeOkWrong)

/-- 'laws.FnExactSubOk': WHATEVER THE INPUT: true; the input reads as it did. -/
def fnExactSubOkSpec : ChangeSpec := { name := "fnExactSubOk", fn := fun _ => fun
  | [d1, d2] => { results := [.lit (.bool true)], args := [d1, d2] }
  | _ => none }
def fnExactSubOkRow : OpenClaim := { program := "ytlkibgccgkhdmaa", sum := "2895e1213f1eefd6b56e028d0e319919371609c5697bcb6bf189c99777cb6c4c", func := "loop.example/orthologics/laws.FnExactSubOk", spec := "fnExactSubOk", unfollowed := true, recurses := true, apart := false }
def FnExactSubOkSaid : Prop := fnExactSubOkRow.holds Try.pinned (OpenSpec.ofChange fnExactSubOkSpec)

/-- ITS FALSE NEIGHBOUR: 'it returns false'. Refute it at one input. -/
def fnExactSubOkWrong : ChangeSpec := { name := "fnExactSubOk", fn := fun _ => fun
  | [d1, d2] => { results := [.lit (.bool false)], args := [d1, d2] }
  | _ => none }
def FnExactSubOkWrongFalsely : Prop := fnExactSubOkRow.holds Try.pinned (OpenSpec.ofChange fnExactSubOkWrong)

/-- 'laws.FnExactMadeBy': WHATEVER THE INPUT: true; the input reads as it did. -/
def fnExactMadeBySpec : ChangeSpec := { name := "fnExactMadeBy", fn := fun _ => fun
  | [d1, d2] => { results := [.lit (.bool true)], args := [d1, d2] }
  | _ => none }
def fnExactMadeByRow : OpenClaim := { program := "ytlkibgccgkhdmaa", sum := "2895e1213f1eefd6b56e028d0e319919371609c5697bcb6bf189c99777cb6c4c", func := "loop.example/orthologics/laws.FnExactMadeBy", spec := "fnExactMadeBy", unfollowed := true, recurses := true, apart := false }
def FnExactMadeBySaid : Prop := fnExactMadeByRow.holds Try.pinned (OpenSpec.ofChange fnExactMadeBySpec)

/-- ITS FALSE NEIGHBOUR: 'it returns false'. Refute it at one input. -/
def fnExactMadeByWrong : ChangeSpec := { name := "fnExactMadeBy", fn := fun _ => fun
  | [d1, d2] => { results := [.lit (.bool false)], args := [d1, d2] }
  | _ => none }
def FnExactMadeByWrongFalsely : Prop := fnExactMadeByRow.holds Try.pinned (OpenSpec.ofChange fnExactMadeByWrong)

/-- 'laws.FnExactPartOf': WHATEVER THE INPUT: true; the input reads as it did. -/
def fnExactPartOfSpec : ChangeSpec := { name := "fnExactPartOf", fn := fun _ => fun
  | [d1, d2] => { results := [.lit (.bool true)], args := [d1, d2] }
  | _ => none }
def fnExactPartOfRow : OpenClaim := { program := "ytlkibgccgkhdmaa", sum := "2895e1213f1eefd6b56e028d0e319919371609c5697bcb6bf189c99777cb6c4c", func := "loop.example/orthologics/laws.FnExactPartOf", spec := "fnExactPartOf", unfollowed := true, recurses := true, apart := false }
def FnExactPartOfSaid : Prop := fnExactPartOfRow.holds Try.pinned (OpenSpec.ofChange fnExactPartOfSpec)

/-- ITS FALSE NEIGHBOUR: 'it returns false'. Refute it at one input. -/
def fnExactPartOfWrong : ChangeSpec := { name := "fnExactPartOf", fn := fun _ => fun
  | [d1, d2] => { results := [.lit (.bool false)], args := [d1, d2] }
  | _ => none }
def FnExactPartOfWrongFalsely : Prop := fnExactPartOfRow.holds Try.pinned (OpenSpec.ofChange fnExactPartOfWrong)

/-- 'laws.FnExactTimesOf': WHATEVER THE INPUT: true; the input reads as it did. -/
def fnExactTimesOfSpec : ChangeSpec := { name := "fnExactTimesOf", fn := fun _ => fun
  | [d1, d2] => { results := [.lit (.bool true)], args := [d1, d2] }
  | _ => none }
def fnExactTimesOfRow : OpenClaim := { program := "ytlkibgccgkhdmaa", sum := "2895e1213f1eefd6b56e028d0e319919371609c5697bcb6bf189c99777cb6c4c", func := "loop.example/orthologics/laws.FnExactTimesOf", spec := "fnExactTimesOf", unfollowed := true, recurses := true, apart := false }
def FnExactTimesOfSaid : Prop := fnExactTimesOfRow.holds Try.pinned (OpenSpec.ofChange fnExactTimesOfSpec)

/-- ITS FALSE NEIGHBOUR: 'it returns false'. Refute it at one input. -/
def fnExactTimesOfWrong : ChangeSpec := { name := "fnExactTimesOf", fn := fun _ => fun
  | [d1, d2] => { results := [.lit (.bool false)], args := [d1, d2] }
  | _ => none }
def FnExactTimesOfWrongFalsely : Prop := fnExactTimesOfRow.holds Try.pinned (OpenSpec.ofChange fnExactTimesOfWrong)

/-- 'laws.FnExactRenamed': WHATEVER THE INPUT: true; the input reads as it did. -/
def fnExactRenamedSpec : ChangeSpec := { name := "fnExactRenamed", fn := fun _ => fun
  | [d1, d2] => { results := [.lit (.bool true)], args := [d1, d2] }
  | _ => none }
def fnExactRenamedRow : OpenClaim := { program := "ytlkibgccgkhdmaa", sum := "2895e1213f1eefd6b56e028d0e319919371609c5697bcb6bf189c99777cb6c4c", func := "loop.example/orthologics/laws.FnExactRenamed", spec := "fnExactRenamed", unfollowed := true, recurses := true, apart := false }
def FnExactRenamedSaid : Prop := fnExactRenamedRow.holds Try.pinned (OpenSpec.ofChange fnExactRenamedSpec)

/-- ITS FALSE NEIGHBOUR: 'it returns false'. Refute it at one input. -/
def fnExactRenamedWrong : ChangeSpec := { name := "fnExactRenamed", fn := fun _ => fun
  | [d1, d2] => { results := [.lit (.bool false)], args := [d1, d2] }
  | _ => none }
def FnExactRenamedWrongFalsely : Prop := fnExactRenamedRow.holds Try.pinned (OpenSpec.ofChange fnExactRenamedWrong)

/-- 'laws.FnExactRingOf': WHATEVER THE INPUT: true; the input reads as it did. -/
def fnExactRingOfSpec : ChangeSpec := { name := "fnExactRingOf", fn := fun _ => fun
  | [d] => { results := [.lit (.bool true)], args := [d] }
  | _ => none }
def fnExactRingOfRow : OpenClaim := { program := "ytlkibgccgkhdmaa", sum := "2895e1213f1eefd6b56e028d0e319919371609c5697bcb6bf189c99777cb6c4c", func := "loop.example/orthologics/laws.FnExactRingOf", spec := "fnExactRingOf", unfollowed := true, recurses := true, apart := false }
def FnExactRingOfSaid : Prop := fnExactRingOfRow.holds Try.pinned (OpenSpec.ofChange fnExactRingOfSpec)

/-- ITS FALSE NEIGHBOUR: 'it returns false'. Refute it at one input. -/
def fnExactRingOfWrong : ChangeSpec := { name := "fnExactRingOf", fn := fun _ => fun
  | [d] => { results := [.lit (.bool false)], args := [d] }
  | _ => none }
def FnExactRingOfWrongFalsely : Prop := fnExactRingOfRow.holds Try.pinned (OpenSpec.ofChange fnExactRingOfWrong)

/-- 'laws.FnExactSetsOf': WHATEVER THE INPUT: true; the input reads as it did. -/
def fnExactSetsOfSpec : ChangeSpec := { name := "fnExactSetsOf", fn := fun _ => fun
  | [d] => { results := [.lit (.bool true)], args := [d] }
  | _ => none }
def fnExactSetsOfRow : OpenClaim := { program := "ytlkibgccgkhdmaa", sum := "2895e1213f1eefd6b56e028d0e319919371609c5697bcb6bf189c99777cb6c4c", func := "loop.example/orthologics/laws.FnExactSetsOf", spec := "fnExactSetsOf", unfollowed := true, recurses := true, apart := false }
def FnExactSetsOfSaid : Prop := fnExactSetsOfRow.holds Try.pinned (OpenSpec.ofChange fnExactSetsOfSpec)

/-- ITS FALSE NEIGHBOUR: 'it returns false'. Refute it at one input. -/
def fnExactSetsOfWrong : ChangeSpec := { name := "fnExactSetsOf", fn := fun _ => fun
  | [d] => { results := [.lit (.bool false)], args := [d] }
  | _ => none }
def FnExactSetsOfWrongFalsely : Prop := fnExactSetsOfRow.holds Try.pinned (OpenSpec.ofChange fnExactSetsOfWrong)

/-- 'laws.FnExactGluedOf': WHATEVER THE INPUT: true; the input reads as it did. -/
def fnExactGluedOfSpec : ChangeSpec := { name := "fnExactGluedOf", fn := fun _ => fun
  | [d1, d2] => { results := [.lit (.bool true)], args := [d1, d2] }
  | _ => none }
def fnExactGluedOfRow : OpenClaim := { program := "ytlkibgccgkhdmaa", sum := "2895e1213f1eefd6b56e028d0e319919371609c5697bcb6bf189c99777cb6c4c", func := "loop.example/orthologics/laws.FnExactGluedOf", spec := "fnExactGluedOf", unfollowed := true, recurses := true, apart := false }
def FnExactGluedOfSaid : Prop := fnExactGluedOfRow.holds Try.pinned (OpenSpec.ofChange fnExactGluedOfSpec)

/-- ITS FALSE NEIGHBOUR: 'it returns false'. Refute it at one input. -/
def fnExactGluedOfWrong : ChangeSpec := { name := "fnExactGluedOf", fn := fun _ => fun
  | [d1, d2] => { results := [.lit (.bool false)], args := [d1, d2] }
  | _ => none }
def FnExactGluedOfWrongFalsely : Prop := fnExactGluedOfRow.holds Try.pinned (OpenSpec.ofChange fnExactGluedOfWrong)

/- THE SECOND FORM. 'bulk': how many values and letters a reading holds, each counted each time it is reached (what is shared counts as often as it is met; a slice's spare places count too). A statement '..UptoSaid' is the law's where the arguments, and the package variables that the reading takes, are together of bulk at most 1048576: NARROWER than '..Said'. Prove '..Said' where nothing that the law and all that it calls make is longer than what came in: it says more and counts as full. Else prove '..UptoSaid'. A law counts once. -/
mutual
def uptoBulk {H : Type} : DataW H → Nat
  | .lit (.string bytes) => bytes.length + 1
  | .lit _ => 1
  | .nil => 1
  | .ptr d => uptoBulk d + 1
  | .slice elems spare => uptoBulkAll elems + uptoBulkAll spare + 1
  | .agg parts => uptoBulkAll parts + 1
  | .iface _ d => uptoBulk d + 1
  | .map entries => uptoBulkEntries entries + 1
  | .held _ => 1
def uptoBulkAll {H : Type} : List (DataW H) → Nat
  | [] => 0
  | d :: r => uptoBulk d + uptoBulkAll r
def uptoBulkEntries {H : Type} : List (Lit × DataW H) → Nat
  | [] => 0
  | x :: r => uptoBulkEntry x + uptoBulkEntries r
def uptoBulkEntry {H : Type} : Lit × DataW H → Nat
  | (.string bytes, d) => bytes.length + uptoBulk d + 1
  | (_, d) => uptoBulk d + 1
 end
def uptoSmall : (H : Type) → List (DataW H) → Bool := fun _ ds => decide (uptoBulkAll ds ≤ 1048576)
def OpenSpec.upto (s : _root_.Go.ChangeSpec) : _root_.Go.OpenSpec := { _root_.Go.OpenSpec.ofChange s with cond := some uptoSmall }

/-- 'laws.FnExactBreakOf', WHERE WHAT IT READS IS OF BULK AT MOST 1048576: true; the input reads as it did. -/
def fnExactBreakOfUptoRow : OpenClaim := { program := "ytlkibgccgkhdmaa", sum := "2895e1213f1eefd6b56e028d0e319919371609c5697bcb6bf189c99777cb6c4c", func := "loop.example/orthologics/laws.FnExactBreakOf", spec := "fnExactBreakOf", apart := false, narrowed := true }
def FnExactBreakOfUptoSaid : Prop := fnExactBreakOfUptoRow.holds Try.pinned (OpenSpec.upto fnExactBreakOfSpec)

/-- 'laws.FnExactBooleanOk', WHERE WHAT IT READS IS OF BULK AT MOST 1048576: true; the input reads as it did. -/
def fnExactBooleanOkUptoRow : OpenClaim := { program := "ytlkibgccgkhdmaa", sum := "2895e1213f1eefd6b56e028d0e319919371609c5697bcb6bf189c99777cb6c4c", func := "loop.example/orthologics/laws.FnExactBooleanOk", spec := "fnExactBooleanOk", unfollowed := true, recurses := true, apart := false, narrowed := true }
def FnExactBooleanOkUptoSaid : Prop := fnExactBooleanOkUptoRow.holds Try.pinned (OpenSpec.upto fnExactBooleanOkSpec)

/-- 'laws.FnExactCentreOf', WHERE WHAT IT READS IS OF BULK AT MOST 1048576: true; the input reads as it did. -/
def fnExactCentreOfUptoRow : OpenClaim := { program := "ytlkibgccgkhdmaa", sum := "2895e1213f1eefd6b56e028d0e319919371609c5697bcb6bf189c99777cb6c4c", func := "loop.example/orthologics/laws.FnExactCentreOf", spec := "fnExactCentreOf", unfollowed := true, recurses := true, apart := false, narrowed := true }
def FnExactCentreOfUptoSaid : Prop := fnExactCentreOfUptoRow.holds Try.pinned (OpenSpec.upto fnExactCentreOfSpec)

/-- 'laws.FnExactAgreeOk', WHERE WHAT IT READS IS OF BULK AT MOST 1048576: true; the input reads as it did. -/
def fnExactAgreeOkUptoRow : OpenClaim := { program := "ytlkibgccgkhdmaa", sum := "2895e1213f1eefd6b56e028d0e319919371609c5697bcb6bf189c99777cb6c4c", func := "loop.example/orthologics/laws.FnExactAgreeOk", spec := "fnExactAgreeOk", unfollowed := true, recurses := true, apart := false, narrowed := true }
def FnExactAgreeOkUptoSaid : Prop := fnExactAgreeOkUptoRow.holds Try.pinned (OpenSpec.upto fnExactAgreeOkSpec)

/-- 'laws.FnExactSubOk', WHERE WHAT IT READS IS OF BULK AT MOST 1048576: true; the input reads as it did. -/
def fnExactSubOkUptoRow : OpenClaim := { program := "ytlkibgccgkhdmaa", sum := "2895e1213f1eefd6b56e028d0e319919371609c5697bcb6bf189c99777cb6c4c", func := "loop.example/orthologics/laws.FnExactSubOk", spec := "fnExactSubOk", unfollowed := true, recurses := true, apart := false, narrowed := true }
def FnExactSubOkUptoSaid : Prop := fnExactSubOkUptoRow.holds Try.pinned (OpenSpec.upto fnExactSubOkSpec)

/-- 'laws.FnExactMadeBy', WHERE WHAT IT READS IS OF BULK AT MOST 1048576: true; the input reads as it did. -/
def fnExactMadeByUptoRow : OpenClaim := { program := "ytlkibgccgkhdmaa", sum := "2895e1213f1eefd6b56e028d0e319919371609c5697bcb6bf189c99777cb6c4c", func := "loop.example/orthologics/laws.FnExactMadeBy", spec := "fnExactMadeBy", unfollowed := true, recurses := true, apart := false, narrowed := true }
def FnExactMadeByUptoSaid : Prop := fnExactMadeByUptoRow.holds Try.pinned (OpenSpec.upto fnExactMadeBySpec)

/-- 'laws.FnExactPartOf', WHERE WHAT IT READS IS OF BULK AT MOST 1048576: true; the input reads as it did. -/
def fnExactPartOfUptoRow : OpenClaim := { program := "ytlkibgccgkhdmaa", sum := "2895e1213f1eefd6b56e028d0e319919371609c5697bcb6bf189c99777cb6c4c", func := "loop.example/orthologics/laws.FnExactPartOf", spec := "fnExactPartOf", unfollowed := true, recurses := true, apart := false, narrowed := true }
def FnExactPartOfUptoSaid : Prop := fnExactPartOfUptoRow.holds Try.pinned (OpenSpec.upto fnExactPartOfSpec)

/-- 'laws.FnExactTimesOf', WHERE WHAT IT READS IS OF BULK AT MOST 1048576: true; the input reads as it did. -/
def fnExactTimesOfUptoRow : OpenClaim := { program := "ytlkibgccgkhdmaa", sum := "2895e1213f1eefd6b56e028d0e319919371609c5697bcb6bf189c99777cb6c4c", func := "loop.example/orthologics/laws.FnExactTimesOf", spec := "fnExactTimesOf", unfollowed := true, recurses := true, apart := false, narrowed := true }
def FnExactTimesOfUptoSaid : Prop := fnExactTimesOfUptoRow.holds Try.pinned (OpenSpec.upto fnExactTimesOfSpec)

/-- 'laws.FnExactRenamed', WHERE WHAT IT READS IS OF BULK AT MOST 1048576: true; the input reads as it did. -/
def fnExactRenamedUptoRow : OpenClaim := { program := "ytlkibgccgkhdmaa", sum := "2895e1213f1eefd6b56e028d0e319919371609c5697bcb6bf189c99777cb6c4c", func := "loop.example/orthologics/laws.FnExactRenamed", spec := "fnExactRenamed", unfollowed := true, recurses := true, apart := false, narrowed := true }
def FnExactRenamedUptoSaid : Prop := fnExactRenamedUptoRow.holds Try.pinned (OpenSpec.upto fnExactRenamedSpec)

/-- 'laws.FnExactRingOf', WHERE WHAT IT READS IS OF BULK AT MOST 1048576: true; the input reads as it did. -/
def fnExactRingOfUptoRow : OpenClaim := { program := "ytlkibgccgkhdmaa", sum := "2895e1213f1eefd6b56e028d0e319919371609c5697bcb6bf189c99777cb6c4c", func := "loop.example/orthologics/laws.FnExactRingOf", spec := "fnExactRingOf", unfollowed := true, recurses := true, apart := false, narrowed := true }
def FnExactRingOfUptoSaid : Prop := fnExactRingOfUptoRow.holds Try.pinned (OpenSpec.upto fnExactRingOfSpec)

/-- 'laws.FnExactSetsOf', WHERE WHAT IT READS IS OF BULK AT MOST 1048576: true; the input reads as it did. -/
def fnExactSetsOfUptoRow : OpenClaim := { program := "ytlkibgccgkhdmaa", sum := "2895e1213f1eefd6b56e028d0e319919371609c5697bcb6bf189c99777cb6c4c", func := "loop.example/orthologics/laws.FnExactSetsOf", spec := "fnExactSetsOf", unfollowed := true, recurses := true, apart := false, narrowed := true }
def FnExactSetsOfUptoSaid : Prop := fnExactSetsOfUptoRow.holds Try.pinned (OpenSpec.upto fnExactSetsOfSpec)

/-- 'laws.FnExactGluedOf', WHERE WHAT IT READS IS OF BULK AT MOST 1048576: true; the input reads as it did. -/
def fnExactGluedOfUptoRow : OpenClaim := { program := "ytlkibgccgkhdmaa", sum := "2895e1213f1eefd6b56e028d0e319919371609c5697bcb6bf189c99777cb6c4c", func := "loop.example/orthologics/laws.FnExactGluedOf", spec := "fnExactGluedOf", unfollowed := true, recurses := true, apart := false, narrowed := true }
def FnExactGluedOfUptoSaid : Prop := fnExactGluedOfUptoRow.holds Try.pinned (OpenSpec.upto fnExactGluedOfSpec)

end Rows
end Go.Proofs.Ytlkibgccgkhdmaa
