/-
  No cell of these rows narrows 'for every input' (looked for: loops, veiled, ifaces, maps, wideKeys, modest, calm, conditions, laid).
  DERIVED. THE GIVEN ROWS OF THIS SEAT. 12 by the template 'for every input the law returns true; each argument reads behind the call as it read before'; 0 by the template 'total and deterministic' (their statements: YtffgmjnpgpmifaaTotals.lean).
  GIVEN WITH THE SEED: the statements are not yours to turn. If you find one false, say at which input.
  Laid BY PROGRAM, IN A SANDBOX (cutbox-rows.mjs): the forced cells as the released guide's own fill.sh prints them over the translation 0b86e7612da9c0e6… (all of the seat's roots in one cut). By AI agents, Wed Nov 11 2026. No macro, syntax, notation, axiom, sorry.
-/
import Derived.Test.YtffgmjnpgpmifaaChecked
import GoSem.Claim
import GoSem.ClaimJoined
import GoSem.ClaimMapViews
import Derived.JoinedTies
import Derived.KernelRfl
namespace Go.Proofs.Ytffgmjnpgpmifaa
/- THE CELL 'sum', in the pinned program and in every row, IS THE sha256 OF THE DUMP (.gsa) THAT YtffgmjnpgpmifaaProg.lean LOADS. Nothing in Lean hashes anything: it is a label: what it is worth is what the hold of that sum in a sandbox is worth. -/
noncomputable def Try.pinned : Pinned := { name := "ytffgmjnpgpmifaa", sum := "0b86e7612da9c0e66d4fd27dc83957a8b0a8d3de4521efb52c9f231d89563d01", checked := Try.checked }
namespace Rows
def none {H : Type} : Left H := { results := [], args := [] }

/-- 'laws.FnExactLogicOk': WHATEVER THE INPUT: true; the input reads as it did. -/
def fnExactLogicOkSpec : ChangeSpec := { name := "fnExactLogicOk", fn := fun _ => fun
  | [d] => { results := [.lit (.bool true)], args := [d] }
  | _ => none }
def fnExactLogicOkRow : OpenClaim := { program := "ytffgmjnpgpmifaa", sum := "0b86e7612da9c0e66d4fd27dc83957a8b0a8d3de4521efb52c9f231d89563d01", func := "loop.example/orthologics/laws.FnExactLogicOk", spec := "fnExactLogicOk", apart := false }
def FnExactLogicOkSaid : Prop := fnExactLogicOkRow.holds Try.pinned (OpenSpec.ofChange fnExactLogicOkSpec)

/-- ITS FALSE NEIGHBOUR: 'it returns false'. Refute it at one input. -/
def fnExactLogicOkWrong : ChangeSpec := { name := "fnExactLogicOk", fn := fun _ => fun
  | [d] => { results := [.lit (.bool false)], args := [d] }
  | _ => none }
def FnExactLogicOkWrongFalsely : Prop := fnExactLogicOkRow.holds Try.pinned (OpenSpec.ofChange fnExactLogicOkWrong)

/-- 'laws.FnExactNoOf': WHATEVER THE INPUT: true; the input reads as it did. -/
def fnExactNoOfSpec : ChangeSpec := { name := "fnExactNoOf", fn := fun _ => fun
  | [d] => { results := [.lit (.bool true)], args := [d] }
  | _ => none }
def fnExactNoOfRow : OpenClaim := { program := "ytffgmjnpgpmifaa", sum := "0b86e7612da9c0e66d4fd27dc83957a8b0a8d3de4521efb52c9f231d89563d01", func := "loop.example/orthologics/laws.FnExactNoOf", spec := "fnExactNoOf", apart := false }
def FnExactNoOfSaid : Prop := fnExactNoOfRow.holds Try.pinned (OpenSpec.ofChange fnExactNoOfSpec)

/-- ITS FALSE NEIGHBOUR: 'it returns false'. Refute it at one input. -/
def fnExactNoOfWrong : ChangeSpec := { name := "fnExactNoOf", fn := fun _ => fun
  | [d] => { results := [.lit (.bool false)], args := [d] }
  | _ => none }
def FnExactNoOfWrongFalsely : Prop := fnExactNoOfRow.holds Try.pinned (OpenSpec.ofChange fnExactNoOfWrong)

/-- 'laws.FnExactYesOf': WHATEVER THE INPUT: true; the input reads as it did. -/
def fnExactYesOfSpec : ChangeSpec := { name := "fnExactYesOf", fn := fun _ => fun
  | [d] => { results := [.lit (.bool true)], args := [d] }
  | _ => none }
def fnExactYesOfRow : OpenClaim := { program := "ytffgmjnpgpmifaa", sum := "0b86e7612da9c0e66d4fd27dc83957a8b0a8d3de4521efb52c9f231d89563d01", func := "loop.example/orthologics/laws.FnExactYesOf", spec := "fnExactYesOf", apart := false }
def FnExactYesOfSaid : Prop := fnExactYesOfRow.holds Try.pinned (OpenSpec.ofChange fnExactYesOfSpec)

/-- ITS FALSE NEIGHBOUR: 'it returns false'. Refute it at one input. -/
def fnExactYesOfWrong : ChangeSpec := { name := "fnExactYesOf", fn := fun _ => fun
  | [d] => { results := [.lit (.bool false)], args := [d] }
  | _ => none }
def FnExactYesOfWrongFalsely : Prop := fnExactYesOfRow.holds Try.pinned (OpenSpec.ofChange fnExactYesOfWrong)

/-- 'laws.FnExactAndOf': WHATEVER THE INPUT: true; the input reads as it did. -/
def fnExactAndOfSpec : ChangeSpec := { name := "fnExactAndOf", fn := fun _ => fun
  | [d1, d2, d3] => { results := [.lit (.bool true)], args := [d1, d2, d3] }
  | _ => none }
def fnExactAndOfRow : OpenClaim := { program := "ytffgmjnpgpmifaa", sum := "0b86e7612da9c0e66d4fd27dc83957a8b0a8d3de4521efb52c9f231d89563d01", func := "loop.example/orthologics/laws.FnExactAndOf", spec := "fnExactAndOf", apart := false }
def FnExactAndOfSaid : Prop := fnExactAndOfRow.holds Try.pinned (OpenSpec.ofChange fnExactAndOfSpec)

/-- ITS FALSE NEIGHBOUR: 'it returns false'. Refute it at one input. -/
def fnExactAndOfWrong : ChangeSpec := { name := "fnExactAndOf", fn := fun _ => fun
  | [d1, d2, d3] => { results := [.lit (.bool false)], args := [d1, d2, d3] }
  | _ => none }
def FnExactAndOfWrongFalsely : Prop := fnExactAndOfRow.holds Try.pinned (OpenSpec.ofChange fnExactAndOfWrong)

/-- 'laws.FnExactOrOf': WHATEVER THE INPUT: true; the input reads as it did. -/
def fnExactOrOfSpec : ChangeSpec := { name := "fnExactOrOf", fn := fun _ => fun
  | [d1, d2, d3] => { results := [.lit (.bool true)], args := [d1, d2, d3] }
  | _ => none }
def fnExactOrOfRow : OpenClaim := { program := "ytffgmjnpgpmifaa", sum := "0b86e7612da9c0e66d4fd27dc83957a8b0a8d3de4521efb52c9f231d89563d01", func := "loop.example/orthologics/laws.FnExactOrOf", spec := "fnExactOrOf", apart := false }
def FnExactOrOfSaid : Prop := fnExactOrOfRow.holds Try.pinned (OpenSpec.ofChange fnExactOrOfSpec)

/-- ITS FALSE NEIGHBOUR: 'it returns false'. Refute it at one input. -/
def fnExactOrOfWrong : ChangeSpec := { name := "fnExactOrOf", fn := fun _ => fun
  | [d1, d2, d3] => { results := [.lit (.bool false)], args := [d1, d2, d3] }
  | _ => none }
def FnExactOrOfWrongFalsely : Prop := fnExactOrOfRow.holds Try.pinned (OpenSpec.ofChange fnExactOrOfWrong)

/-- 'laws.FnExactNotOf': WHATEVER THE INPUT: true; the input reads as it did. -/
def fnExactNotOfSpec : ChangeSpec := { name := "fnExactNotOf", fn := fun _ => fun
  | [d1, d2] => { results := [.lit (.bool true)], args := [d1, d2] }
  | _ => none }
def fnExactNotOfRow : OpenClaim := { program := "ytffgmjnpgpmifaa", sum := "0b86e7612da9c0e66d4fd27dc83957a8b0a8d3de4521efb52c9f231d89563d01", func := "loop.example/orthologics/laws.FnExactNotOf", spec := "fnExactNotOf", apart := false }
def FnExactNotOfSaid : Prop := fnExactNotOfRow.holds Try.pinned (OpenSpec.ofChange fnExactNotOfSpec)

/-- ITS FALSE NEIGHBOUR: 'it returns false'. Refute it at one input. -/
def fnExactNotOfWrong : ChangeSpec := { name := "fnExactNotOf", fn := fun _ => fun
  | [d1, d2] => { results := [.lit (.bool false)], args := [d1, d2] }
  | _ => none }
def FnExactNotOfWrongFalsely : Prop := fnExactNotOfRow.holds Try.pinned (OpenSpec.ofChange fnExactNotOfWrong)

/-- 'laws.FnExactApartOk': WHATEVER THE INPUT: true; the input reads as it did. -/
def fnExactApartOkSpec : ChangeSpec := { name := "fnExactApartOk", fn := fun _ => fun
  | [d1, d2, d3] => { results := [.lit (.bool true)], args := [d1, d2, d3] }
  | _ => none }
def fnExactApartOkRow : OpenClaim := { program := "ytffgmjnpgpmifaa", sum := "0b86e7612da9c0e66d4fd27dc83957a8b0a8d3de4521efb52c9f231d89563d01", func := "loop.example/orthologics/laws.FnExactApartOk", spec := "fnExactApartOk", apart := false }
def FnExactApartOkSaid : Prop := fnExactApartOkRow.holds Try.pinned (OpenSpec.ofChange fnExactApartOkSpec)

/-- ITS FALSE NEIGHBOUR: 'it returns false'. Refute it at one input. -/
def fnExactApartOkWrong : ChangeSpec := { name := "fnExactApartOk", fn := fun _ => fun
  | [d1, d2, d3] => { results := [.lit (.bool false)], args := [d1, d2, d3] }
  | _ => none }
def FnExactApartOkWrongFalsely : Prop := fnExactApartOkRow.holds Try.pinned (OpenSpec.ofChange fnExactApartOkWrong)

/-- 'laws.FnExactWithOk': WHATEVER THE INPUT: true; the input reads as it did. -/
def fnExactWithOkSpec : ChangeSpec := { name := "fnExactWithOk", fn := fun _ => fun
  | [d1, d2, d3] => { results := [.lit (.bool true)], args := [d1, d2, d3] }
  | _ => none }
def fnExactWithOkRow : OpenClaim := { program := "ytffgmjnpgpmifaa", sum := "0b86e7612da9c0e66d4fd27dc83957a8b0a8d3de4521efb52c9f231d89563d01", func := "loop.example/orthologics/laws.FnExactWithOk", spec := "fnExactWithOk", apart := false }
def FnExactWithOkSaid : Prop := fnExactWithOkRow.holds Try.pinned (OpenSpec.ofChange fnExactWithOkSpec)

/-- ITS FALSE NEIGHBOUR: 'it returns false'. Refute it at one input. -/
def fnExactWithOkWrong : ChangeSpec := { name := "fnExactWithOk", fn := fun _ => fun
  | [d1, d2, d3] => { results := [.lit (.bool false)], args := [d1, d2, d3] }
  | _ => none }
def FnExactWithOkWrongFalsely : Prop := fnExactWithOkRow.holds Try.pinned (OpenSpec.ofChange fnExactWithOkWrong)

/-- 'laws.FnExactSplitOk': WHATEVER THE INPUT: true; the input reads as it did. -/
def fnExactSplitOkSpec : ChangeSpec := { name := "fnExactSplitOk", fn := fun _ => fun
  | [d1, d2, d3, d4] => { results := [.lit (.bool true)], args := [d1, d2, d3, d4] }
  | _ => none }
def fnExactSplitOkRow : OpenClaim := { program := "ytffgmjnpgpmifaa", sum := "0b86e7612da9c0e66d4fd27dc83957a8b0a8d3de4521efb52c9f231d89563d01", func := "loop.example/orthologics/laws.FnExactSplitOk", spec := "fnExactSplitOk", apart := false }
def FnExactSplitOkSaid : Prop := fnExactSplitOkRow.holds Try.pinned (OpenSpec.ofChange fnExactSplitOkSpec)

/-- ITS FALSE NEIGHBOUR: 'it returns false'. Refute it at one input. -/
def fnExactSplitOkWrong : ChangeSpec := { name := "fnExactSplitOk", fn := fun _ => fun
  | [d1, d2, d3, d4] => { results := [.lit (.bool false)], args := [d1, d2, d3, d4] }
  | _ => none }
def FnExactSplitOkWrongFalsely : Prop := fnExactSplitOkRow.holds Try.pinned (OpenSpec.ofChange fnExactSplitOkWrong)

/-- 'laws.FnExactApartFrom': WHATEVER THE INPUT: true; the input reads as it did. -/
def fnExactApartFromSpec : ChangeSpec := { name := "fnExactApartFrom", fn := fun _ => fun
  | [d1, d2, d3] => { results := [.lit (.bool true)], args := [d1, d2, d3] }
  | _ => none }
def fnExactApartFromRow : OpenClaim := { program := "ytffgmjnpgpmifaa", sum := "0b86e7612da9c0e66d4fd27dc83957a8b0a8d3de4521efb52c9f231d89563d01", func := "loop.example/orthologics/laws.FnExactApartFrom", spec := "fnExactApartFrom", apart := false }
def FnExactApartFromSaid : Prop := fnExactApartFromRow.holds Try.pinned (OpenSpec.ofChange fnExactApartFromSpec)

/-- ITS FALSE NEIGHBOUR: 'it returns false'. Refute it at one input. -/
def fnExactApartFromWrong : ChangeSpec := { name := "fnExactApartFrom", fn := fun _ => fun
  | [d1, d2, d3] => { results := [.lit (.bool false)], args := [d1, d2, d3] }
  | _ => none }
def FnExactApartFromWrongFalsely : Prop := fnExactApartFromRow.holds Try.pinned (OpenSpec.ofChange fnExactApartFromWrong)

/-- 'laws.FnExactBothWaysOk': WHATEVER THE INPUT: true; the input reads as it did. -/
def fnExactBothWaysOkSpec : ChangeSpec := { name := "fnExactBothWaysOk", fn := fun _ => fun
  | [d] => { results := [.lit (.bool true)], args := [d] }
  | _ => none }
def fnExactBothWaysOkRow : OpenClaim := { program := "ytffgmjnpgpmifaa", sum := "0b86e7612da9c0e66d4fd27dc83957a8b0a8d3de4521efb52c9f231d89563d01", func := "loop.example/orthologics/laws.FnExactBothWaysOk", spec := "fnExactBothWaysOk", unfollowed := true, recurses := true, apart := false }
def FnExactBothWaysOkSaid : Prop := fnExactBothWaysOkRow.holds Try.pinned (OpenSpec.ofChange fnExactBothWaysOkSpec)

/-- ITS FALSE NEIGHBOUR: 'it returns false'. Refute it at one input. -/
def fnExactBothWaysOkWrong : ChangeSpec := { name := "fnExactBothWaysOk", fn := fun _ => fun
  | [d] => { results := [.lit (.bool false)], args := [d] }
  | _ => none }
def FnExactBothWaysOkWrongFalsely : Prop := fnExactBothWaysOkRow.holds Try.pinned (OpenSpec.ofChange fnExactBothWaysOkWrong)

/-- 'laws.FnExactKeepsOk': WHATEVER THE INPUT: true; the input reads as it did. -/
def fnExactKeepsOkSpec : ChangeSpec := { name := "fnExactKeepsOk", fn := fun _ => fun
  | [d] => { results := [.lit (.bool true)], args := [d] }
  | _ => none }
def fnExactKeepsOkRow : OpenClaim := { program := "ytffgmjnpgpmifaa", sum := "0b86e7612da9c0e66d4fd27dc83957a8b0a8d3de4521efb52c9f231d89563d01", func := "loop.example/orthologics/laws.FnExactKeepsOk", spec := "fnExactKeepsOk", unfollowed := true, recurses := true, apart := false }
def FnExactKeepsOkSaid : Prop := fnExactKeepsOkRow.holds Try.pinned (OpenSpec.ofChange fnExactKeepsOkSpec)

/-- ITS FALSE NEIGHBOUR: 'it returns false'. Refute it at one input. -/
def fnExactKeepsOkWrong : ChangeSpec := { name := "fnExactKeepsOk", fn := fun _ => fun
  | [d] => { results := [.lit (.bool false)], args := [d] }
  | _ => none }
def FnExactKeepsOkWrongFalsely : Prop := fnExactKeepsOkRow.holds Try.pinned (OpenSpec.ofChange fnExactKeepsOkWrong)

/- THE SECOND FORM. 'bulk': how many values and letters a reading holds, each counted each time it is reached (what is shared counts as often as it is met; a slice's spare places count too). A statement '..UptoSaid' is the law's where the arguments, and the package variables that the reading takes, are together of bulk at most 1048576: NARROWER than '..Said'. Prove '..Said' where nothing that the law and all that it calls make is longer than what came in: it says more and counts as full. Else prove '..UptoSaid'. A law counts once. -/
mutual
def uptoBulk {H : Type} : DataW H → Nat
  | .lit (.string bytes) => bytes.length + 1
  | .lit _ => 1
  | .nil => 1
  | .ptr d => uptoBulk d + 1
  | .slice elems spare => uptoBulkAll elems + uptoBulkAll spare + 1
  | .agg parts => uptoBulkAll parts + 1
  | .iface _ d => uptoBulk d + 1
  | .map entries => uptoBulkEntries entries + 1
  | .held _ => 1
def uptoBulkAll {H : Type} : List (DataW H) → Nat
  | [] => 0
  | d :: r => uptoBulk d + uptoBulkAll r
def uptoBulkEntries {H : Type} : List (Lit × DataW H) → Nat
  | [] => 0
  | x :: r => uptoBulkEntry x + uptoBulkEntries r
def uptoBulkEntry {H : Type} : Lit × DataW H → Nat
  | (.string bytes, d) => bytes.length + uptoBulk d + 1
  | (_, d) => uptoBulk d + 1
 end
def uptoSmall : (H : Type) → List (DataW H) → Bool := fun _ ds => decide (uptoBulkAll ds ≤ 1048576)
def OpenSpec.upto (s : _root_.Go.ChangeSpec) : _root_.Go.OpenSpec := { _root_.Go.OpenSpec.ofChange s with cond := some uptoSmall }

/-- 'laws.FnExactLogicOk', WHERE WHAT IT READS IS OF BULK AT MOST 1048576: true; the input reads as it did. -/
def fnExactLogicOkUptoRow : OpenClaim := { program := "ytffgmjnpgpmifaa", sum := "0b86e7612da9c0e66d4fd27dc83957a8b0a8d3de4521efb52c9f231d89563d01", func := "loop.example/orthologics/laws.FnExactLogicOk", spec := "fnExactLogicOk", apart := false, narrowed := true }
def FnExactLogicOkUptoSaid : Prop := fnExactLogicOkUptoRow.holds Try.pinned (OpenSpec.upto fnExactLogicOkSpec)

/-- 'laws.FnExactNoOf', WHERE WHAT IT READS IS OF BULK AT MOST 1048576: true; the input reads as it did. -/
def fnExactNoOfUptoRow : OpenClaim := { program := "ytffgmjnpgpmifaa", sum := "0b86e7612da9c0e66d4fd27dc83957a8b0a8d3de4521efb52c9f231d89563d01", func := "loop.example/orthologics/laws.FnExactNoOf", spec := "fnExactNoOf", apart := false, narrowed := true }
def FnExactNoOfUptoSaid : Prop := fnExactNoOfUptoRow.holds Try.pinned (OpenSpec.upto fnExactNoOfSpec)

/-- 'laws.FnExactYesOf', WHERE WHAT IT READS IS OF BULK AT MOST 1048576: true; the input reads as it did. -/
def fnExactYesOfUptoRow : OpenClaim := { program := "ytffgmjnpgpmifaa", sum := "0b86e7612da9c0e66d4fd27dc83957a8b0a8d3de4521efb52c9f231d89563d01", func := "loop.example/orthologics/laws.FnExactYesOf", spec := "fnExactYesOf", apart := false, narrowed := true }
def FnExactYesOfUptoSaid : Prop := fnExactYesOfUptoRow.holds Try.pinned (OpenSpec.upto fnExactYesOfSpec)

/-- 'laws.FnExactAndOf', WHERE WHAT IT READS IS OF BULK AT MOST 1048576: true; the input reads as it did. -/
def fnExactAndOfUptoRow : OpenClaim := { program := "ytffgmjnpgpmifaa", sum := "0b86e7612da9c0e66d4fd27dc83957a8b0a8d3de4521efb52c9f231d89563d01", func := "loop.example/orthologics/laws.FnExactAndOf", spec := "fnExactAndOf", apart := false, narrowed := true }
def FnExactAndOfUptoSaid : Prop := fnExactAndOfUptoRow.holds Try.pinned (OpenSpec.upto fnExactAndOfSpec)

/-- 'laws.FnExactOrOf', WHERE WHAT IT READS IS OF BULK AT MOST 1048576: true; the input reads as it did. -/
def fnExactOrOfUptoRow : OpenClaim := { program := "ytffgmjnpgpmifaa", sum := "0b86e7612da9c0e66d4fd27dc83957a8b0a8d3de4521efb52c9f231d89563d01", func := "loop.example/orthologics/laws.FnExactOrOf", spec := "fnExactOrOf", apart := false, narrowed := true }
def FnExactOrOfUptoSaid : Prop := fnExactOrOfUptoRow.holds Try.pinned (OpenSpec.upto fnExactOrOfSpec)

/-- 'laws.FnExactNotOf', WHERE WHAT IT READS IS OF BULK AT MOST 1048576: true; the input reads as it did. -/
def fnExactNotOfUptoRow : OpenClaim := { program := "ytffgmjnpgpmifaa", sum := "0b86e7612da9c0e66d4fd27dc83957a8b0a8d3de4521efb52c9f231d89563d01", func := "loop.example/orthologics/laws.FnExactNotOf", spec := "fnExactNotOf", apart := false, narrowed := true }
def FnExactNotOfUptoSaid : Prop := fnExactNotOfUptoRow.holds Try.pinned (OpenSpec.upto fnExactNotOfSpec)

/-- 'laws.FnExactApartOk', WHERE WHAT IT READS IS OF BULK AT MOST 1048576: true; the input reads as it did. -/
def fnExactApartOkUptoRow : OpenClaim := { program := "ytffgmjnpgpmifaa", sum := "0b86e7612da9c0e66d4fd27dc83957a8b0a8d3de4521efb52c9f231d89563d01", func := "loop.example/orthologics/laws.FnExactApartOk", spec := "fnExactApartOk", apart := false, narrowed := true }
def FnExactApartOkUptoSaid : Prop := fnExactApartOkUptoRow.holds Try.pinned (OpenSpec.upto fnExactApartOkSpec)

/-- 'laws.FnExactWithOk', WHERE WHAT IT READS IS OF BULK AT MOST 1048576: true; the input reads as it did. -/
def fnExactWithOkUptoRow : OpenClaim := { program := "ytffgmjnpgpmifaa", sum := "0b86e7612da9c0e66d4fd27dc83957a8b0a8d3de4521efb52c9f231d89563d01", func := "loop.example/orthologics/laws.FnExactWithOk", spec := "fnExactWithOk", apart := false, narrowed := true }
def FnExactWithOkUptoSaid : Prop := fnExactWithOkUptoRow.holds Try.pinned (OpenSpec.upto fnExactWithOkSpec)

/-- 'laws.FnExactSplitOk', WHERE WHAT IT READS IS OF BULK AT MOST 1048576: true; the input reads as it did. -/
def fnExactSplitOkUptoRow : OpenClaim := { program := "ytffgmjnpgpmifaa", sum := "0b86e7612da9c0e66d4fd27dc83957a8b0a8d3de4521efb52c9f231d89563d01", func := "loop.example/orthologics/laws.FnExactSplitOk", spec := "fnExactSplitOk", apart := false, narrowed := true }
def FnExactSplitOkUptoSaid : Prop := fnExactSplitOkUptoRow.holds Try.pinned (OpenSpec.upto fnExactSplitOkSpec)

/-- 'laws.FnExactApartFrom', WHERE WHAT IT READS IS OF BULK AT MOST 1048576: true; the input reads as it did. -/
def fnExactApartFromUptoRow : OpenClaim := { program := "ytffgmjnpgpmifaa", sum := "0b86e7612da9c0e66d4fd27dc83957a8b0a8d3de4521efb52c9f231d89563d01", func := "loop.example/orthologics/laws.FnExactApartFrom", spec := "fnExactApartFrom", apart := false, narrowed := true }
def FnExactApartFromUptoSaid : Prop := fnExactApartFromUptoRow.holds Try.pinned (OpenSpec.upto fnExactApartFromSpec)

/-- 'laws.FnExactBothWaysOk', WHERE WHAT IT READS IS OF BULK AT MOST 1048576: true; the input reads as it did. -/
def fnExactBothWaysOkUptoRow : OpenClaim := { program := "ytffgmjnpgpmifaa", sum := "0b86e7612da9c0e66d4fd27dc83957a8b0a8d3de4521efb52c9f231d89563d01", func := "loop.example/orthologics/laws.FnExactBothWaysOk", spec := "fnExactBothWaysOk", unfollowed := true, recurses := true, apart := false, narrowed := true }
def FnExactBothWaysOkUptoSaid : Prop := fnExactBothWaysOkUptoRow.holds Try.pinned (OpenSpec.upto fnExactBothWaysOkSpec)

/-- 'laws.FnExactKeepsOk', WHERE WHAT IT READS IS OF BULK AT MOST 1048576: true; the input reads as it did. -/
def fnExactKeepsOkUptoRow : OpenClaim := { program := "ytffgmjnpgpmifaa", sum := "0b86e7612da9c0e66d4fd27dc83957a8b0a8d3de4521efb52c9f231d89563d01", func := "loop.example/orthologics/laws.FnExactKeepsOk", spec := "fnExactKeepsOk", unfollowed := true, recurses := true, apart := false, narrowed := true }
def FnExactKeepsOkUptoSaid : Prop := fnExactKeepsOkUptoRow.holds Try.pinned (OpenSpec.upto fnExactKeepsOkSpec)

end Rows
end Go.Proofs.Ytffgmjnpgpmifaa
