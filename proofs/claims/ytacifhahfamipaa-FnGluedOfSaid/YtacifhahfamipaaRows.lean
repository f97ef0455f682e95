/-
  No cell of these rows narrows 'for every input' (looked for: loops, veiled, ifaces, maps, wideKeys, modest, calm, conditions, laid).
  DERIVED. THE GIVEN ROWS OF THIS SEAT. 11 by the template 'for every input the law returns true; each argument reads behind the call as it read before'; 0 by the template 'total and deterministic' (their statements: YtacifhahfamipaaTotals.lean).
  GIVEN WITH THE SEED: the statements are not yours to turn. If you find one false, say at which input.
  Laid BY PROGRAM, IN A SANDBOX (cutbox-rows.mjs): the forced cells as the released guide's own fill.sh prints them over the translation 5f75888608111d68… (all of the seat's roots in one cut). By AI agents, Wed Nov 11 2026. No macro, syntax, notation, axiom, sorry.
-/
import Derived.Test.YtacifhahfamipaaChecked
import GoSem.Claim
import GoSem.ClaimJoined
import GoSem.ClaimMapViews
import Derived.JoinedTies
import Derived.KernelRfl
namespace Go.Proofs.Ytacifhahfamipaa
/- THE CELL 'sum', in the pinned program and in every row, IS THE sha256 OF THE DUMP (.gsa) THAT YtacifhahfamipaaProg.lean LOADS. Nothing in Lean hashes anything: it is a label: what it is worth is what the hold of that sum in a sandbox is worth. -/
noncomputable def Try.pinned : Pinned := { name := "ytacifhahfamipaa", sum := "5f75888608111d680a4bfd7f3a4b8cae36b5c55a976e2c837f0fd5350b47104c", checked := Try.checked }
namespace Rows
def none {H : Type} : Left H := { results := [], args := [] }

/-- 'laws.FnRingOf': WHATEVER THE INPUT: true; the input reads as it did. -/
def fnRingOfSpec : ChangeSpec := { name := "fnRingOf", fn := fun _ => fun
  | [d] => { results := [.lit (.bool true)], args := [d] }
  | _ => none }
def fnRingOfRow : OpenClaim := { program := "ytacifhahfamipaa", sum := "5f75888608111d680a4bfd7f3a4b8cae36b5c55a976e2c837f0fd5350b47104c", func := "loop.example/orthologics/laws.FnRingOf", spec := "fnRingOf", unfollowed := true, recurses := true, apart := false }
def FnRingOfSaid : Prop := fnRingOfRow.holds Try.pinned (OpenSpec.ofChange fnRingOfSpec)

/-- ITS FALSE NEIGHBOUR: 'it returns false'. Refute it at one input. -/
def fnRingOfWrong : ChangeSpec := { name := "fnRingOf", fn := fun _ => fun
  | [d] => { results := [.lit (.bool false)], args := [d] }
  | _ => none }
def FnRingOfWrongFalsely : Prop := fnRingOfRow.holds Try.pinned (OpenSpec.ofChange fnRingOfWrong)

/-- 'laws.FnSetsOf': WHATEVER THE INPUT: true; the input reads as it did. -/
def fnSetsOfSpec : ChangeSpec := { name := "fnSetsOf", fn := fun _ => fun
  | [d] => { results := [.lit (.bool true)], args := [d] }
  | _ => none }
def fnSetsOfRow : OpenClaim := { program := "ytacifhahfamipaa", sum := "5f75888608111d680a4bfd7f3a4b8cae36b5c55a976e2c837f0fd5350b47104c", func := "loop.example/orthologics/laws.FnSetsOf", spec := "fnSetsOf", unfollowed := true, recurses := true, apart := false }
def FnSetsOfSaid : Prop := fnSetsOfRow.holds Try.pinned (OpenSpec.ofChange fnSetsOfSpec)

/-- ITS FALSE NEIGHBOUR: 'it returns false'. Refute it at one input. -/
def fnSetsOfWrong : ChangeSpec := { name := "fnSetsOf", fn := fun _ => fun
  | [d] => { results := [.lit (.bool false)], args := [d] }
  | _ => none }
def FnSetsOfWrongFalsely : Prop := fnSetsOfRow.holds Try.pinned (OpenSpec.ofChange fnSetsOfWrong)

/-- 'laws.FnKeepsOk': WHATEVER THE INPUT: true; the input reads as it did. -/
def fnKeepsOkSpec : ChangeSpec := { name := "fnKeepsOk", fn := fun _ => fun
  | [d] => { results := [.lit (.bool true)], args := [d] }
  | _ => none }
def fnKeepsOkRow : OpenClaim := { program := "ytacifhahfamipaa", sum := "5f75888608111d680a4bfd7f3a4b8cae36b5c55a976e2c837f0fd5350b47104c", func := "loop.example/orthologics/laws.FnKeepsOk", spec := "fnKeepsOk", unfollowed := true, recurses := true, apart := false }
def FnKeepsOkSaid : Prop := fnKeepsOkRow.holds Try.pinned (OpenSpec.ofChange fnKeepsOkSpec)

/-- ITS FALSE NEIGHBOUR: 'it returns false'. Refute it at one input. -/
def fnKeepsOkWrong : ChangeSpec := { name := "fnKeepsOk", fn := fun _ => fun
  | [d] => { results := [.lit (.bool false)], args := [d] }
  | _ => none }
def FnKeepsOkWrongFalsely : Prop := fnKeepsOkRow.holds Try.pinned (OpenSpec.ofChange fnKeepsOkWrong)

/-- 'laws.FnMadeBy': WHATEVER THE INPUT: true; the input reads as it did. -/
def fnMadeBySpec : ChangeSpec := { name := "fnMadeBy", fn := fun _ => fun
  | [d] => { results := [.lit (.bool true)], args := [d] }
  | _ => none }
def fnMadeByRow : OpenClaim := { program := "ytacifhahfamipaa", sum := "5f75888608111d680a4bfd7f3a4b8cae36b5c55a976e2c837f0fd5350b47104c", func := "loop.example/orthologics/laws.FnMadeBy", spec := "fnMadeBy", unfollowed := true, recurses := true, apart := false }
def FnMadeBySaid : Prop := fnMadeByRow.holds Try.pinned (OpenSpec.ofChange fnMadeBySpec)

/-- ITS FALSE NEIGHBOUR: 'it returns false'. Refute it at one input. -/
def fnMadeByWrong : ChangeSpec := { name := "fnMadeBy", fn := fun _ => fun
  | [d] => { results := [.lit (.bool false)], args := [d] }
  | _ => none }
def FnMadeByWrongFalsely : Prop := fnMadeByRow.holds Try.pinned (OpenSpec.ofChange fnMadeByWrong)

/-- 'laws.FnSubOk': WHATEVER THE INPUT: true; the input reads as it did. -/
def fnSubOkSpec : ChangeSpec := { name := "fnSubOk", fn := fun _ => fun
  | [d] => { results := [.lit (.bool true)], args := [d] }
  | _ => none }
def fnSubOkRow : OpenClaim := { program := "ytacifhahfamipaa", sum := "5f75888608111d680a4bfd7f3a4b8cae36b5c55a976e2c837f0fd5350b47104c", func := "loop.example/orthologics/laws.FnSubOk", spec := "fnSubOk", unfollowed := true, recurses := true, apart := false }
def FnSubOkSaid : Prop := fnSubOkRow.holds Try.pinned (OpenSpec.ofChange fnSubOkSpec)

/-- ITS FALSE NEIGHBOUR: 'it returns false'. Refute it at one input. -/
def fnSubOkWrong : ChangeSpec := { name := "fnSubOk", fn := fun _ => fun
  | [d] => { results := [.lit (.bool false)], args := [d] }
  | _ => none }
def FnSubOkWrongFalsely : Prop := fnSubOkRow.holds Try.pinned (OpenSpec.ofChange fnSubOkWrong)

/-- 'laws.FnBreakOf': WHATEVER THE INPUT: true; the input reads as it did. -/
def fnBreakOfSpec : ChangeSpec := { name := "fnBreakOf", fn := fun _ => fun
  | [d] => { results := [.lit (.bool true)], args := [d] }
  | _ => none }
def fnBreakOfRow : OpenClaim := { program := "ytacifhahfamipaa", sum := "5f75888608111d680a4bfd7f3a4b8cae36b5c55a976e2c837f0fd5350b47104c", func := "loop.example/orthologics/laws.FnBreakOf", spec := "fnBreakOf", unfollowed := true, recurses := true, apart := false }
def FnBreakOfSaid : Prop := fnBreakOfRow.holds Try.pinned (OpenSpec.ofChange fnBreakOfSpec)

/-- ITS FALSE NEIGHBOUR: 'it returns false'. Refute it at one input. -/
def fnBreakOfWrong : ChangeSpec := { name := "fnBreakOf", fn := fun _ => fun
  | [d] => { results := [.lit (.bool false)], args := [d] }
  | _ => none }
def FnBreakOfWrongFalsely : Prop := fnBreakOfRow.holds Try.pinned (OpenSpec.ofChange fnBreakOfWrong)

/-- 'laws.FnPartOf': WHATEVER THE INPUT: true; the input reads as it did. -/
def fnPartOfSpec : ChangeSpec := { name := "fnPartOf", fn := fun _ => fun
  | [d] => { results := [.lit (.bool true)], args := [d] }
  | _ => none }
def fnPartOfRow : OpenClaim := { program := "ytacifhahfamipaa", sum := "5f75888608111d680a4bfd7f3a4b8cae36b5c55a976e2c837f0fd5350b47104c", func := "loop.example/orthologics/laws.FnPartOf", spec := "fnPartOf", unfollowed := true, recurses := true, apart := false }
def FnPartOfSaid : Prop := fnPartOfRow.holds Try.pinned (OpenSpec.ofChange fnPartOfSpec)

/-- ITS FALSE NEIGHBOUR: 'it returns false'. Refute it at one input. -/
def fnPartOfWrong : ChangeSpec := { name := "fnPartOf", fn := fun _ => fun
  | [d] => { results := [.lit (.bool false)], args := [d] }
  | _ => none }
def FnPartOfWrongFalsely : Prop := fnPartOfRow.holds Try.pinned (OpenSpec.ofChange fnPartOfWrong)

/-- 'laws.FnTimesOf': WHATEVER THE INPUT: true; the input reads as it did. -/
def fnTimesOfSpec : ChangeSpec := { name := "fnTimesOf", fn := fun _ => fun
  | [d] => { results := [.lit (.bool true)], args := [d] }
  | _ => none }
def fnTimesOfRow : OpenClaim := { program := "ytacifhahfamipaa", sum := "5f75888608111d680a4bfd7f3a4b8cae36b5c55a976e2c837f0fd5350b47104c", func := "loop.example/orthologics/laws.FnTimesOf", spec := "fnTimesOf", unfollowed := true, recurses := true, apart := false }
def FnTimesOfSaid : Prop := fnTimesOfRow.holds Try.pinned (OpenSpec.ofChange fnTimesOfSpec)

/-- ITS FALSE NEIGHBOUR: 'it returns false'. Refute it at one input. -/
def fnTimesOfWrong : ChangeSpec := { name := "fnTimesOf", fn := fun _ => fun
  | [d] => { results := [.lit (.bool false)], args := [d] }
  | _ => none }
def FnTimesOfWrongFalsely : Prop := fnTimesOfRow.holds Try.pinned (OpenSpec.ofChange fnTimesOfWrong)

/-- 'laws.FnRenamed': WHATEVER THE INPUT: true; the input reads as it did. -/
def fnRenamedSpec : ChangeSpec := { name := "fnRenamed", fn := fun _ => fun
  | [d] => { results := [.lit (.bool true)], args := [d] }
  | _ => none }
def fnRenamedRow : OpenClaim := { program := "ytacifhahfamipaa", sum := "5f75888608111d680a4bfd7f3a4b8cae36b5c55a976e2c837f0fd5350b47104c", func := "loop.example/orthologics/laws.FnRenamed", spec := "fnRenamed", unfollowed := true, recurses := true, apart := false }
def FnRenamedSaid : Prop := fnRenamedRow.holds Try.pinned (OpenSpec.ofChange fnRenamedSpec)

/-- ITS FALSE NEIGHBOUR: 'it returns false'. Refute it at one input. -/
def fnRenamedWrong : ChangeSpec := { name := "fnRenamed", fn := fun _ => fun
  | [d] => { results := [.lit (.bool false)], args := [d] }
  | _ => none }
def FnRenamedWrongFalsely : Prop := fnRenamedRow.holds Try.pinned (OpenSpec.ofChange fnRenamedWrong)

/-- 'laws.FnGluedOf': WHATEVER THE INPUT: true; the input reads as it did. -/
def fnGluedOfSpec : ChangeSpec := { name := "fnGluedOf", fn := fun _ => fun
  | [d] => { results := [.lit (.bool true)], args := [d] }
  | _ => none }
def fnGluedOfRow : OpenClaim := { program := "ytacifhahfamipaa", sum := "5f75888608111d680a4bfd7f3a4b8cae36b5c55a976e2c837f0fd5350b47104c", func := "loop.example/orthologics/laws.FnGluedOf", spec := "fnGluedOf", unfollowed := true, recurses := true, apart := false }
def FnGluedOfSaid : Prop := fnGluedOfRow.holds Try.pinned (OpenSpec.ofChange fnGluedOfSpec)

/-- ITS FALSE NEIGHBOUR: 'it returns false'. Refute it at one input. -/
def fnGluedOfWrong : ChangeSpec := { name := "fnGluedOf", fn := fun _ => fun
  | [d] => { results := [.lit (.bool false)], args := [d] }
  | _ => none }
def FnGluedOfWrongFalsely : Prop := fnGluedOfRow.holds Try.pinned (OpenSpec.ofChange fnGluedOfWrong)

/-- 'laws.FnCentreOf': WHATEVER THE INPUT: true; the input reads as it did. -/
def fnCentreOfSpec : ChangeSpec := { name := "fnCentreOf", fn := fun _ => fun
  | [d] => { results := [.lit (.bool true)], args := [d] }
  | _ => none }
def fnCentreOfRow : OpenClaim := { program := "ytacifhahfamipaa", sum := "5f75888608111d680a4bfd7f3a4b8cae36b5c55a976e2c837f0fd5350b47104c", func := "loop.example/orthologics/laws.FnCentreOf", spec := "fnCentreOf", unfollowed := true, recurses := true, apart := false }
def FnCentreOfSaid : Prop := fnCentreOfRow.holds Try.pinned (OpenSpec.ofChange fnCentreOfSpec)

/-- ITS FALSE NEIGHBOUR: 'it returns false'. Refute it at one input. -/
def fnCentreOfWrong : ChangeSpec := { name := "fnCentreOf", fn := fun _ => fun
  | [d] => { results := [.lit (.bool false)], args := [d] }
  | _ => none }
def FnCentreOfWrongFalsely : Prop := fnCentreOfRow.holds Try.pinned (OpenSpec.ofChange fnCentreOfWrong)

/- THE SECOND FORM. 'bulk': how many values and letters a reading holds, each counted each time it is reached (what is shared counts as often as it is met; a slice's spare places count too). A statement '..UptoSaid' is the law's where the arguments, and the package variables that the reading takes, are together of bulk at most 1048576: NARROWER than '..Said'. Prove '..Said' where nothing that the law and all that it calls make is longer than what came in: it says more and counts as full. Else prove '..UptoSaid'. A law counts once. -/
mutual
def uptoBulk {H : Type} : DataW H → Nat
  | .lit (.string bytes) => bytes.length + 1
  | .lit _ => 1
  | .nil => 1
  | .ptr d => uptoBulk d + 1
  | .slice elems spare => uptoBulkAll elems + uptoBulkAll spare + 1
  | .agg parts => uptoBulkAll parts + 1
  | .iface _ d => uptoBulk d + 1
  | .map entries => uptoBulkEntries entries + 1
  | .held _ => 1
def uptoBulkAll {H : Type} : List (DataW H) → Nat
  | [] => 0
  | d :: r => uptoBulk d + uptoBulkAll r
def uptoBulkEntries {H : Type} : List (Lit × DataW H) → Nat
  | [] => 0
  | x :: r => uptoBulkEntry x + uptoBulkEntries r
def uptoBulkEntry {H : Type} : Lit × DataW H → Nat
  | (.string bytes, d) => bytes.length + uptoBulk d + 1
  | (_, d) => uptoBulk d + 1
 end
def uptoSmall : (H : Type) → List (DataW H) → Bool := fun _ ds => decide (uptoBulkAll ds ≤ 1048576)
def OpenSpec.upto (s : _root_.Go.ChangeSpec) : _root_.Go.OpenSpec := { _root_.Go.OpenSpec.ofChange s with cond := some uptoSmall }

/-- 'laws.FnRingOf', WHERE WHAT IT READS IS OF BULK AT MOST 1048576: true; the input reads as it did. -/
def fnRingOfUptoRow : OpenClaim := { program := "ytacifhahfamipaa", sum := "5f75888608111d680a4bfd7f3a4b8cae36b5c55a976e2c837f0fd5350b47104c", func := "loop.example/orthologics/laws.FnRingOf", spec := "fnRingOf", unfollowed := true, recurses := true, apart := false, narrowed := true }
def FnRingOfUptoSaid : Prop := fnRingOfUptoRow.holds Try.pinned (OpenSpec.upto fnRingOfSpec)

/-- 'laws.FnSetsOf', WHERE WHAT IT READS IS OF BULK AT MOST 1048576: true; the input reads as it did. -/
def fnSetsOfUptoRow : OpenClaim := { program := "ytacifhahfamipaa", sum := "5f75888608111d680a4bfd7f3a4b8cae36b5c55a976e2c837f0fd5350b47104c", func := "loop.example/orthologics/laws.FnSetsOf", spec := "fnSetsOf", unfollowed := true, recurses := true, apart := false, narrowed := true }
def FnSetsOfUptoSaid : Prop := fnSetsOfUptoRow.holds Try.pinned (OpenSpec.upto fnSetsOfSpec)

/-- 'laws.FnKeepsOk', WHERE WHAT IT READS IS OF BULK AT MOST 1048576: true; the input reads as it did. -/
def fnKeepsOkUptoRow : OpenClaim := { program := "ytacifhahfamipaa", sum := "5f75888608111d680a4bfd7f3a4b8cae36b5c55a976e2c837f0fd5350b47104c", func := "loop.example/orthologics/laws.FnKeepsOk", spec := "fnKeepsOk", unfollowed := true, recurses := true, apart := false, narrowed := true }
def FnKeepsOkUptoSaid : Prop := fnKeepsOkUptoRow.holds Try.pinned (OpenSpec.upto fnKeepsOkSpec)

/-- 'laws.FnMadeBy', WHERE WHAT IT READS IS OF BULK AT MOST 1048576: true; the input reads as it did. -/
def fnMadeByUptoRow : OpenClaim := { program := "ytacifhahfamipaa", sum := "5f75888608111d680a4bfd7f3a4b8cae36b5c55a976e2c837f0fd5350b47104c", func := "loop.example/orthologics/laws.FnMadeBy", spec := "fnMadeBy", unfollowed := true, recurses := true, apart := false, narrowed := true }
def FnMadeByUptoSaid : Prop := fnMadeByUptoRow.holds Try.pinned (OpenSpec.upto fnMadeBySpec)

/-- 'laws.FnSubOk', WHERE WHAT IT READS IS OF BULK AT MOST 1048576: true; the input reads as it did. -/
def fnSubOkUptoRow : OpenClaim := { program := "ytacifhahfamipaa", sum := "5f75888608111d680a4bfd7f3a4b8cae36b5c55a976e2c837f0fd5350b47104c", func := "loop.example/orthologics/laws.FnSubOk", spec := "fnSubOk", unfollowed := true, recurses := true, apart := false, narrowed := true }
def FnSubOkUptoSaid : Prop := fnSubOkUptoRow.holds Try.pinned (OpenSpec.upto fnSubOkSpec)

/-- 'laws.FnBreakOf', WHERE WHAT IT READS IS OF BULK AT MOST 1048576: true; the input reads as it did. -/
def fnBreakOfUptoRow : OpenClaim := { program := "ytacifhahfamipaa", sum := "5f75888608111d680a4bfd7f3a4b8cae36b5c55a976e2c837f0fd5350b47104c", func := "loop.example/orthologics/laws.FnBreakOf", spec := "fnBreakOf", unfollowed := true, recurses := true, apart := false, narrowed := true }
def FnBreakOfUptoSaid : Prop := fnBreakOfUptoRow.holds Try.pinned (OpenSpec.upto fnBreakOfSpec)

/-- 'laws.FnPartOf', WHERE WHAT IT READS IS OF BULK AT MOST 1048576: true; the input reads as it did. -/
def fnPartOfUptoRow : OpenClaim := { program := "ytacifhahfamipaa", sum := "5f75888608111d680a4bfd7f3a4b8cae36b5c55a976e2c837f0fd5350b47104c", func := "loop.example/orthologics/laws.FnPartOf", spec := "fnPartOf", unfollowed := true, recurses := true, apart := false, narrowed := true }
def FnPartOfUptoSaid : Prop := fnPartOfUptoRow.holds Try.pinned (OpenSpec.upto fnPartOfSpec)

/-- 'laws.FnTimesOf', WHERE WHAT IT READS IS OF BULK AT MOST 1048576: true; the input reads as it did. -/
def fnTimesOfUptoRow : OpenClaim := { program := "ytacifhahfamipaa", sum := "5f75888608111d680a4bfd7f3a4b8cae36b5c55a976e2c837f0fd5350b47104c", func := "loop.example/orthologics/laws.FnTimesOf", spec := "fnTimesOf", unfollowed := true, recurses := true, apart := false, narrowed := true }
def FnTimesOfUptoSaid : Prop := fnTimesOfUptoRow.holds Try.pinned (OpenSpec.upto fnTimesOfSpec)

/-- 'laws.FnRenamed', WHERE WHAT IT READS IS OF BULK AT MOST 1048576: true; the input reads as it did. -/
def fnRenamedUptoRow : OpenClaim := { program := "ytacifhahfamipaa", sum := "5f75888608111d680a4bfd7f3a4b8cae36b5c55a976e2c837f0fd5350b47104c", func := "loop.example/orthologics/laws.FnRenamed", spec := "fnRenamed", unfollowed := true, recurses := true, apart := false, narrowed := true }
def FnRenamedUptoSaid : Prop := fnRenamedUptoRow.holds Try.pinned (OpenSpec.upto fnRenamedSpec)

/-- 'laws.FnGluedOf', WHERE WHAT IT READS IS OF BULK AT MOST 1048576: true; the input reads as it did. -/
def fnGluedOfUptoRow : OpenClaim := { program := "ytacifhahfamipaa", sum := "5f75888608111d680a4bfd7f3a4b8cae36b5c55a976e2c837f0fd5350b47104c", func := "loop.example/orthologics/laws.FnGluedOf", spec := "fnGluedOf", unfollowed := true, recurses := true, apart := false, narrowed := true }
def FnGluedOfUptoSaid : Prop := fnGluedOfUptoRow.holds Try.pinned (OpenSpec.upto fnGluedOfSpec)

/-- 'laws.FnCentreOf', WHERE WHAT IT READS IS OF BULK AT MOST 1048576: true; the input reads as it did. -/
def fnCentreOfUptoRow : OpenClaim := { program := "ytacifhahfamipaa", sum := "5f75888608111d680a4bfd7f3a4b8cae36b5c55a976e2c837f0fd5350b47104c", func := "loop.example/orthologics/laws.FnCentreOf", spec := "fnCentreOf", unfollowed := true, recurses := true, apart := false, narrowed := true }
def FnCentreOfUptoSaid : Prop := fnCentreOfUptoRow.holds Try.pinned (OpenSpec.upto fnCentreOfSpec)

end Rows
end Go.Proofs.Ytacifhahfamipaa
