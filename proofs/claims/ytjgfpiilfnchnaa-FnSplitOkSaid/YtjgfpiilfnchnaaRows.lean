/-
  No cell of these rows narrows 'for every input' (looked for: loops, veiled, ifaces, maps, wideKeys, modest, calm, conditions, laid).
  DERIVED. THE GIVEN ROWS OF THIS SEAT. 11 by the template 'for every input the law returns true; each argument reads behind the call as it read before'; 0 by the template 'total and deterministic' (their statements: YtjgfpiilfnchnaaTotals.lean).
  GIVEN WITH THE SEED: the statements are not yours to turn. If you find one false, say at which input.
  Laid BY PROGRAM, IN A SANDBOX (cutbox-rows.mjs): the forced cells as the released guide's own fill.sh prints them over the translation da492f5e8ee83b5a… (all of the seat's roots in one cut). By AI agents, Wed Nov 11 2026. No macro, syntax, notation, axiom, sorry.
-/
import Derived.Test.YtjgfpiilfnchnaaChecked
import GoSem.Claim
import GoSem.ClaimJoined
import GoSem.ClaimMapViews
import Derived.JoinedTies
import Derived.KernelRfl
namespace Go.Proofs.Ytjgfpiilfnchnaa
/- THE CELL 'sum', in the pinned program and in every row, IS THE sha256 OF THE DUMP (.gsa) THAT YtjgfpiilfnchnaaProg.lean LOADS. Nothing in Lean hashes anything: it is a label: what it is worth is what the hold of that sum in a sandbox is worth. -/
noncomputable def Try.pinned : Pinned := { name := "ytjgfpiilfnchnaa", sum := "da492f5e8ee83b5a5f377494b591ce849ef209bf5f204ba1d5ae80fffa1f64c0", checked := Try.checked }
namespace Rows
def none {H : Type} : Left H := { results := [], args := [] }

/-- 'laws.FnLogicOk': WHATEVER THE INPUT: true; the input reads as it did. -/
def fnLogicOkSpec : ChangeSpec := { name := "fnLogicOk", fn := fun _ => fun
  | [d] => { results := [.lit (.bool true)], args := [d] }
  | _ => none }
def fnLogicOkRow : OpenClaim := { program := "ytjgfpiilfnchnaa", sum := "da492f5e8ee83b5a5f377494b591ce849ef209bf5f204ba1d5ae80fffa1f64c0", func := "loop.example/orthologics/laws.FnLogicOk", spec := "fnLogicOk", apart := false }
def FnLogicOkSaid : Prop := fnLogicOkRow.holds Try.pinned (OpenSpec.ofChange fnLogicOkSpec)

/-- ITS FALSE NEIGHBOUR: 'it returns false'. Refute it at one input. -/
def fnLogicOkWrong : ChangeSpec := { name := "fnLogicOk", fn := fun _ => fun
  | [d] => { results := [.lit (.bool false)], args := [d] }
  | _ => none }
def FnLogicOkWrongFalsely : Prop := fnLogicOkRow.holds Try.pinned (OpenSpec.ofChange fnLogicOkWrong)

/-- 'laws.FnNoOf': WHATEVER THE INPUT: true; the input reads as it did. -/
def fnNoOfSpec : ChangeSpec := { name := "fnNoOf", fn := fun _ => fun
  | [d] => { results := [.lit (.bool true)], args := [d] }
  | _ => none }
def fnNoOfRow : OpenClaim := { program := "ytjgfpiilfnchnaa", sum := "da492f5e8ee83b5a5f377494b591ce849ef209bf5f204ba1d5ae80fffa1f64c0", func := "loop.example/orthologics/laws.FnNoOf", spec := "fnNoOf", apart := false }
def FnNoOfSaid : Prop := fnNoOfRow.holds Try.pinned (OpenSpec.ofChange fnNoOfSpec)

/-- ITS FALSE NEIGHBOUR: 'it returns false'. Refute it at one input. -/
def fnNoOfWrong : ChangeSpec := { name := "fnNoOf", fn := fun _ => fun
  | [d] => { results := [.lit (.bool false)], args := [d] }
  | _ => none }
def FnNoOfWrongFalsely : Prop := fnNoOfRow.holds Try.pinned (OpenSpec.ofChange fnNoOfWrong)

/-- 'laws.FnYesOf': WHATEVER THE INPUT: true; the input reads as it did. -/
def fnYesOfSpec : ChangeSpec := { name := "fnYesOf", fn := fun _ => fun
  | [d] => { results := [.lit (.bool true)], args := [d] }
  | _ => none }
def fnYesOfRow : OpenClaim := { program := "ytjgfpiilfnchnaa", sum := "da492f5e8ee83b5a5f377494b591ce849ef209bf5f204ba1d5ae80fffa1f64c0", func := "loop.example/orthologics/laws.FnYesOf", spec := "fnYesOf", apart := false }
def FnYesOfSaid : Prop := fnYesOfRow.holds Try.pinned (OpenSpec.ofChange fnYesOfSpec)

/-- ITS FALSE NEIGHBOUR: 'it returns false'. Refute it at one input. -/
def fnYesOfWrong : ChangeSpec := { name := "fnYesOf", fn := fun _ => fun
  | [d] => { results := [.lit (.bool false)], args := [d] }
  | _ => none }
def FnYesOfWrongFalsely : Prop := fnYesOfRow.holds Try.pinned (OpenSpec.ofChange fnYesOfWrong)

/-- 'laws.FnAndOf': WHATEVER THE INPUT: true; the input reads as it did. -/
def fnAndOfSpec : ChangeSpec := { name := "fnAndOf", fn := fun _ => fun
  | [d] => { results := [.lit (.bool true)], args := [d] }
  | _ => none }
def fnAndOfRow : OpenClaim := { program := "ytjgfpiilfnchnaa", sum := "da492f5e8ee83b5a5f377494b591ce849ef209bf5f204ba1d5ae80fffa1f64c0", func := "loop.example/orthologics/laws.FnAndOf", spec := "fnAndOf", apart := false }
def FnAndOfSaid : Prop := fnAndOfRow.holds Try.pinned (OpenSpec.ofChange fnAndOfSpec)

/-- ITS FALSE NEIGHBOUR: 'it returns false'. Refute it at one input. -/
def fnAndOfWrong : ChangeSpec := { name := "fnAndOf", fn := fun _ => fun
  | [d] => { results := [.lit (.bool false)], args := [d] }
  | _ => none }
def FnAndOfWrongFalsely : Prop := fnAndOfRow.holds Try.pinned (OpenSpec.ofChange fnAndOfWrong)

/-- 'laws.FnNotOf': WHATEVER THE INPUT: true; the input reads as it did. -/
def fnNotOfSpec : ChangeSpec := { name := "fnNotOf", fn := fun _ => fun
  | [d] => { results := [.lit (.bool true)], args := [d] }
  | _ => none }
def fnNotOfRow : OpenClaim := { program := "ytjgfpiilfnchnaa", sum := "da492f5e8ee83b5a5f377494b591ce849ef209bf5f204ba1d5ae80fffa1f64c0", func := "loop.example/orthologics/laws.FnNotOf", spec := "fnNotOf", apart := false }
def FnNotOfSaid : Prop := fnNotOfRow.holds Try.pinned (OpenSpec.ofChange fnNotOfSpec)

/-- ITS FALSE NEIGHBOUR: 'it returns false'. Refute it at one input. -/
def fnNotOfWrong : ChangeSpec := { name := "fnNotOf", fn := fun _ => fun
  | [d] => { results := [.lit (.bool false)], args := [d] }
  | _ => none }
def FnNotOfWrongFalsely : Prop := fnNotOfRow.holds Try.pinned (OpenSpec.ofChange fnNotOfWrong)

/-- 'laws.FnOrOf': WHATEVER THE INPUT: true; the input reads as it did. -/
def fnOrOfSpec : ChangeSpec := { name := "fnOrOf", fn := fun _ => fun
  | [d] => { results := [.lit (.bool true)], args := [d] }
  | _ => none }
def fnOrOfRow : OpenClaim := { program := "ytjgfpiilfnchnaa", sum := "da492f5e8ee83b5a5f377494b591ce849ef209bf5f204ba1d5ae80fffa1f64c0", func := "loop.example/orthologics/laws.FnOrOf", spec := "fnOrOf", apart := false }
def FnOrOfSaid : Prop := fnOrOfRow.holds Try.pinned (OpenSpec.ofChange fnOrOfSpec)

/-- ITS FALSE NEIGHBOUR: 'it returns false'. Refute it at one input. -/
def fnOrOfWrong : ChangeSpec := { name := "fnOrOf", fn := fun _ => fun
  | [d] => { results := [.lit (.bool false)], args := [d] }
  | _ => none }
def FnOrOfWrongFalsely : Prop := fnOrOfRow.holds Try.pinned (OpenSpec.ofChange fnOrOfWrong)

/-- 'laws.FnApartOk': WHATEVER THE INPUT: true; the input reads as it did. -/
def fnApartOkSpec : ChangeSpec := { name := "fnApartOk", fn := fun _ => fun
  | [d] => { results := [.lit (.bool true)], args := [d] }
  | _ => none }
def fnApartOkRow : OpenClaim := { program := "ytjgfpiilfnchnaa", sum := "da492f5e8ee83b5a5f377494b591ce849ef209bf5f204ba1d5ae80fffa1f64c0", func := "loop.example/orthologics/laws.FnApartOk", spec := "fnApartOk", apart := false }
def FnApartOkSaid : Prop := fnApartOkRow.holds Try.pinned (OpenSpec.ofChange fnApartOkSpec)

/-- ITS FALSE NEIGHBOUR: 'it returns false'. Refute it at one input. -/
def fnApartOkWrong : ChangeSpec := { name := "fnApartOk", fn := fun _ => fun
  | [d] => { results := [.lit (.bool false)], args := [d] }
  | _ => none }
def FnApartOkWrongFalsely : Prop := fnApartOkRow.holds Try.pinned (OpenSpec.ofChange fnApartOkWrong)

/-- 'laws.FnBothWaysOk': WHATEVER THE INPUT: true; the input reads as it did. -/
def fnBothWaysOkSpec : ChangeSpec := { name := "fnBothWaysOk", fn := fun _ => fun
  | [d] => { results := [.lit (.bool true)], args := [d] }
  | _ => none }
def fnBothWaysOkRow : OpenClaim := { program := "ytjgfpiilfnchnaa", sum := "da492f5e8ee83b5a5f377494b591ce849ef209bf5f204ba1d5ae80fffa1f64c0", func := "loop.example/orthologics/laws.FnBothWaysOk", spec := "fnBothWaysOk", unfollowed := true, recurses := true, apart := false }
def FnBothWaysOkSaid : Prop := fnBothWaysOkRow.holds Try.pinned (OpenSpec.ofChange fnBothWaysOkSpec)

/-- ITS FALSE NEIGHBOUR: 'it returns false'. Refute it at one input. -/
def fnBothWaysOkWrong : ChangeSpec := { name := "fnBothWaysOk", fn := fun _ => fun
  | [d] => { results := [.lit (.bool false)], args := [d] }
  | _ => none }
def FnBothWaysOkWrongFalsely : Prop := fnBothWaysOkRow.holds Try.pinned (OpenSpec.ofChange fnBothWaysOkWrong)

/-- 'laws.FnWithOk': WHATEVER THE INPUT: true; the input reads as it did. -/
def fnWithOkSpec : ChangeSpec := { name := "fnWithOk", fn := fun _ => fun
  | [d] => { results := [.lit (.bool true)], args := [d] }
  | _ => none }
def fnWithOkRow : OpenClaim := { program := "ytjgfpiilfnchnaa", sum := "da492f5e8ee83b5a5f377494b591ce849ef209bf5f204ba1d5ae80fffa1f64c0", func := "loop.example/orthologics/laws.FnWithOk", spec := "fnWithOk", apart := false }
def FnWithOkSaid : Prop := fnWithOkRow.holds Try.pinned (OpenSpec.ofChange fnWithOkSpec)

/-- ITS FALSE NEIGHBOUR: 'it returns false'. Refute it at one input. -/
def fnWithOkWrong : ChangeSpec := { name := "fnWithOk", fn := fun _ => fun
  | [d] => { results := [.lit (.bool false)], args := [d] }
  | _ => none }
def FnWithOkWrongFalsely : Prop := fnWithOkRow.holds Try.pinned (OpenSpec.ofChange fnWithOkWrong)

/-- 'laws.FnSplitOk': WHATEVER THE INPUT: true; the input reads as it did. -/
def fnSplitOkSpec : ChangeSpec := { name := "fnSplitOk", fn := fun _ => fun
  | [d] => { results := [.lit (.bool true)], args := [d] }
  | _ => none }
def fnSplitOkRow : OpenClaim := { program := "ytjgfpiilfnchnaa", sum := "da492f5e8ee83b5a5f377494b591ce849ef209bf5f204ba1d5ae80fffa1f64c0", func := "loop.example/orthologics/laws.FnSplitOk", spec := "fnSplitOk", apart := false }
def FnSplitOkSaid : Prop := fnSplitOkRow.holds Try.pinned (OpenSpec.ofChange fnSplitOkSpec)

/-- ITS FALSE NEIGHBOUR: 'it returns false'. Refute it at one input. -/
def fnSplitOkWrong : ChangeSpec := { name := "fnSplitOk", fn := fun _ => fun
  | [d] => { results := [.lit (.bool false)], args := [d] }
  | _ => none }
def FnSplitOkWrongFalsely : Prop := fnSplitOkRow.holds Try.pinned (OpenSpec.ofChange fnSplitOkWrong)

/-- 'laws.FnApartFrom': WHATEVER THE INPUT: true; the input reads as it did. -/
def fnApartFromSpec : ChangeSpec := { name := "fnApartFrom", fn := fun _ => fun
  | [d] => { results := [.lit (.bool true)], args := [d] }
  | _ => none }
def fnApartFromRow : OpenClaim := { program := "ytjgfpiilfnchnaa", sum := "da492f5e8ee83b5a5f377494b591ce849ef209bf5f204ba1d5ae80fffa1f64c0", func := "loop.example/orthologics/laws.FnApartFrom", spec := "fnApartFrom", unfollowed := true, recurses := true, apart := false }
def FnApartFromSaid : Prop := fnApartFromRow.holds Try.pinned (OpenSpec.ofChange fnApartFromSpec)

/-- ITS FALSE NEIGHBOUR: 'it returns false'. Refute it at one input. -/
def fnApartFromWrong : ChangeSpec := { name := "fnApartFrom", fn := fun _ => fun
  | [d] => { results := [.lit (.bool false)], args := [d] }
  | _ => none }
def FnApartFromWrongFalsely : Prop := fnApartFromRow.holds Try.pinned (OpenSpec.ofChange fnApartFromWrong)

/- THE SECOND FORM. 'bulk': how many values and letters a reading holds, each counted each time it is reached (what is shared counts as often as it is met; a slice's spare places count too). A statement '..UptoSaid' is the law's where the arguments, and the package variables that the reading takes, are together of bulk at most 1048576: NARROWER than '..Said'. Prove '..Said' where nothing that the law and all that it calls make is longer than what came in: it says more and counts as full. Else prove '..UptoSaid'. A law counts once. -/
mutual
def uptoBulk {H : Type} : DataW H → Nat
  | .lit (.string bytes) => bytes.length + 1
  | .lit _ => 1
  | .nil => 1
  | .ptr d => uptoBulk d + 1
  | .slice elems spare => uptoBulkAll elems + uptoBulkAll spare + 1
  | .agg parts => uptoBulkAll parts + 1
  | .iface _ d => uptoBulk d + 1
  | .map entries => uptoBulkEntries entries + 1
  | .held _ => 1
def uptoBulkAll {H : Type} : List (DataW H) → Nat
  | [] => 0
  | d :: r => uptoBulk d + uptoBulkAll r
def uptoBulkEntries {H : Type} : List (Lit × DataW H) → Nat
  | [] => 0
  | x :: r => uptoBulkEntry x + uptoBulkEntries r
def uptoBulkEntry {H : Type} : Lit × DataW H → Nat
  | (.string bytes, d) => bytes.length + uptoBulk d + 1
  | (_, d) => uptoBulk d + 1
 end
def uptoSmall : (H : Type) → List (DataW H) → Bool := fun _ ds => decide (uptoBulkAll ds ≤ 1048576)
def OpenSpec.upto (s : _root_.Go.ChangeSpec) : _root_.Go.OpenSpec := { _root_.Go.OpenSpec.ofChange s with cond := some uptoSmall }

/-- 'laws.FnLogicOk', WHERE WHAT IT READS IS OF BULK AT MOST 1048576: true; the input reads as it did. -/
def fnLogicOkUptoRow : OpenClaim := { program := "ytjgfpiilfnchnaa", sum := "da492f5e8ee83b5a5f377494b591ce849ef209bf5f204ba1d5ae80fffa1f64c0", func := "loop.example/orthologics/laws.FnLogicOk", spec := "fnLogicOk", apart := false, narrowed := true }
def FnLogicOkUptoSaid : Prop := fnLogicOkUptoRow.holds Try.pinned (OpenSpec.upto fnLogicOkSpec)

/-- 'laws.FnNoOf', WHERE WHAT IT READS IS OF BULK AT MOST 1048576: true; the input reads as it did. -/
def fnNoOfUptoRow : OpenClaim := { program := "ytjgfpiilfnchnaa", sum := "da492f5e8ee83b5a5f377494b591ce849ef209bf5f204ba1d5ae80fffa1f64c0", func := "loop.example/orthologics/laws.FnNoOf", spec := "fnNoOf", apart := false, narrowed := true }
def FnNoOfUptoSaid : Prop := fnNoOfUptoRow.holds Try.pinned (OpenSpec.upto fnNoOfSpec)

/-- 'laws.FnYesOf', WHERE WHAT IT READS IS OF BULK AT MOST 1048576: true; the input reads as it did. -/
def fnYesOfUptoRow : OpenClaim := { program := "ytjgfpiilfnchnaa", sum := "da492f5e8ee83b5a5f377494b591ce849ef209bf5f204ba1d5ae80fffa1f64c0", func := "loop.example/orthologics/laws.FnYesOf", spec := "fnYesOf", apart := false, narrowed := true }
def FnYesOfUptoSaid : Prop := fnYesOfUptoRow.holds Try.pinned (OpenSpec.upto fnYesOfSpec)

/-- 'laws.FnAndOf', WHERE WHAT IT READS IS OF BULK AT MOST 1048576: true; the input reads as it did. -/
def fnAndOfUptoRow : OpenClaim := { program := "ytjgfpiilfnchnaa", sum := "da492f5e8ee83b5a5f377494b591ce849ef209bf5f204ba1d5ae80fffa1f64c0", func := "loop.example/orthologics/laws.FnAndOf", spec := "fnAndOf", apart := false, narrowed := true }
def FnAndOfUptoSaid : Prop := fnAndOfUptoRow.holds Try.pinned (OpenSpec.upto fnAndOfSpec)

/-- 'laws.FnNotOf', WHERE WHAT IT READS IS OF BULK AT MOST 1048576: true; the input reads as it did. -/
def fnNotOfUptoRow : OpenClaim := { program := "ytjgfpiilfnchnaa", sum := "da492f5e8ee83b5a5f377494b591ce849ef209bf5f204ba1d5ae80fffa1f64c0", func := "loop.example/orthologics/laws.FnNotOf", spec := "fnNotOf", apart := false, narrowed := true }
def FnNotOfUptoSaid : Prop := fnNotOfUptoRow.holds Try.pinned (OpenSpec.upto fnNotOfSpec)

/-- 'laws.FnOrOf', WHERE WHAT IT READS IS OF BULK AT MOST 1048576: true; the input reads as it did. -/
def fnOrOfUptoRow : OpenClaim := { program := "ytjgfpiilfnchnaa", sum := "da492f5e8ee83b5a5f377494b591ce849ef209bf5f204ba1d5ae80fffa1f64c0", func := "loop.example/orthologics/laws.FnOrOf", spec := "fnOrOf", apart := false, narrowed := true }
def FnOrOfUptoSaid : Prop := fnOrOfUptoRow.holds Try.pinned (OpenSpec.upto fnOrOfSpec)

/-- 'laws.FnApartOk', WHERE WHAT IT READS IS OF BULK AT MOST 1048576: true; the input reads as it did. -/
def fnApartOkUptoRow : OpenClaim := { program := "ytjgfpiilfnchnaa", sum := "da492f5e8ee83b5a5f377494b591ce849ef209bf5f204ba1d5ae80fffa1f64c0", func := "loop.example/orthologics/laws.FnApartOk", spec := "fnApartOk", apart := false, narrowed := true }
def FnApartOkUptoSaid : Prop := fnApartOkUptoRow.holds Try.pinned (OpenSpec.upto fnApartOkSpec)

/-- 'laws.FnBothWaysOk', WHERE WHAT IT READS IS OF BULK AT MOST 1048576: true; the input reads as it did. -/
def fnBothWaysOkUptoRow : OpenClaim := { program := "ytjgfpiilfnchnaa", sum := "da492f5e8ee83b5a5f377494b591ce849ef209bf5f204ba1d5ae80fffa1f64c0", func := "loop.example/orthologics/laws.FnBothWaysOk", spec := "fnBothWaysOk", unfollowed := true, recurses := true, apart := false, narrowed := true }
def FnBothWaysOkUptoSaid : Prop := fnBothWaysOkUptoRow.holds Try.pinned (OpenSpec.upto fnBothWaysOkSpec)

/-- 'laws.FnWithOk', WHERE WHAT IT READS IS OF BULK AT MOST 1048576: true; the input reads as it did. -/
def fnWithOkUptoRow : OpenClaim := { program := "ytjgfpiilfnchnaa", sum := "da492f5e8ee83b5a5f377494b591ce849ef209bf5f204ba1d5ae80fffa1f64c0", func := "loop.example/orthologics/laws.FnWithOk", spec := "fnWithOk", apart := false, narrowed := true }
def FnWithOkUptoSaid : Prop := fnWithOkUptoRow.holds Try.pinned (OpenSpec.upto fnWithOkSpec)

/-- 'laws.FnSplitOk', WHERE WHAT IT READS IS OF BULK AT MOST 1048576: true; the input reads as it did. -/
def fnSplitOkUptoRow : OpenClaim := { program := "ytjgfpiilfnchnaa", sum := "da492f5e8ee83b5a5f377494b591ce849ef209bf5f204ba1d5ae80fffa1f64c0", func := "loop.example/orthologics/laws.FnSplitOk", spec := "fnSplitOk", apart := false, narrowed := true }
def FnSplitOkUptoSaid : Prop := fnSplitOkUptoRow.holds Try.pinned (OpenSpec.upto fnSplitOkSpec)

/-- 'laws.FnApartFrom', WHERE WHAT IT READS IS OF BULK AT MOST 1048576: true; the input reads as it did. -/
def fnApartFromUptoRow : OpenClaim := { program := "ytjgfpiilfnchnaa", sum := "da492f5e8ee83b5a5f377494b591ce849ef209bf5f204ba1d5ae80fffa1f64c0", func := "loop.example/orthologics/laws.FnApartFrom", spec := "fnApartFrom", unfollowed := true, recurses := true, apart := false, narrowed := true }
def FnApartFromUptoSaid : Prop := fnApartFromUptoRow.holds Try.pinned (OpenSpec.upto fnApartFromSpec)

end Rows
end Go.Proofs.Ytjgfpiilfnchnaa
