/-
  No cell of these rows narrows 'for every input' (looked for: loops, veiled, ifaces, maps, wideKeys, modest, calm, conditions, laid).
  DERIVED. THE GIVEN ROWS OF THIS SEAT. 15 by the template 'for every input the law returns true; each argument reads behind the call as it read before'; 0 by the template 'total and deterministic' (their statements: YtilgbnbeonlbnaaTotals.lean).
  GIVEN WITH THE SEED: the statements are not yours to turn. If you find one false, say at which input.
  Laid BY PROGRAM, IN A SANDBOX (cutbox-rows.mjs): the forced cells as the released guide's own fill.sh prints them over the translation a241974fef84f644… (all of the seat's roots in one cut). By AI agents, Wed Nov 11 2026. No macro, syntax, notation, axiom, sorry.
-/
import Derived.Test.YtilgbnbeonlbnaaChecked
import GoSem.Claim
import GoSem.ClaimJoined
import GoSem.ClaimMapViews
import Derived.JoinedTies
import Derived.KernelRfl
namespace Go.Proofs.Ytilgbnbeonlbnaa
/- THE CELL 'sum', in the pinned program and in every row, IS THE sha256 OF THE DUMP (.gsa) THAT YtilgbnbeonlbnaaProg.lean LOADS. Nothing in Lean hashes anything: it is a label: what it is worth is what the hold of that sum in a sandbox is worth. -/
noncomputable def Try.pinned : Pinned := { name := "ytilgbnbeonlbnaa", sum := "a241974fef84f644a0b7036cc026cdd24fccf3dda2769729eeb33ae3c6f43e86", checked := Try.checked }
namespace Rows
def none {H : Type} : Left H := { results := [], args := [] }

/-- 'laws.FnExactConstants': WHATEVER THE INPUT: true; the input reads as it did. -/
def fnExactConstantsSpec : ChangeSpec := { name := "fnExactConstants", fn := fun _ => fun
  | [] => { results := [.lit (.bool true)], args := [] }
  | _ => none }
def fnExactConstantsRow : OpenClaim := { program := "ytilgbnbeonlbnaa", sum := "a241974fef84f644a0b7036cc026cdd24fccf3dda2769729eeb33ae3c6f43e86", func := "loop.example/orthologics/laws.FnExactConstants", spec := "fnExactConstants", apart := false }
def FnExactConstantsSaid : Prop := fnExactConstantsRow.holds Try.pinned (OpenSpec.ofChange fnExactConstantsSpec)

/-- ITS FALSE NEIGHBOUR: 'it returns false'. Refute it at one input. -/
def fnExactConstantsWrong : ChangeSpec := { name := "fnExactConstants", fn := fun _ => fun
  | [] => { results := [.lit (.bool false)], args := [] }
  | _ => none }
def FnExactConstantsWrongFalsely : Prop := fnExactConstantsRow.holds Try.pinned (OpenSpec.ofChange fnExactConstantsWrong)

/-- 'laws.FnExactOrderOk': WHATEVER THE INPUT: true; the input reads as it did. -/
def fnExactOrderOkSpec : ChangeSpec := { name := "fnExactOrderOk", fn := fun _ => fun
  | [d] => { results := [.lit (.bool true)], args := [d] }
  | _ => none }
def fnExactOrderOkRow : OpenClaim := { program := "ytilgbnbeonlbnaa", sum := "a241974fef84f644a0b7036cc026cdd24fccf3dda2769729eeb33ae3c6f43e86", func := "loop.example/orthologics/laws.FnExactOrderOk", spec := "fnExactOrderOk", apart := false }
def FnExactOrderOkSaid : Prop := fnExactOrderOkRow.holds Try.pinned (OpenSpec.ofChange fnExactOrderOkSpec)

/-- ITS FALSE NEIGHBOUR: 'it returns false'. Refute it at one input. -/
def fnExactOrderOkWrong : ChangeSpec := { name := "fnExactOrderOk", fn := fun _ => fun
  | [d] => { results := [.lit (.bool false)], args := [d] }
  | _ => none }
def FnExactOrderOkWrongFalsely : Prop := fnExactOrderOkRow.holds Try.pinned (OpenSpec.ofChange fnExactOrderOkWrong)

/-- 'laws.FnExactLeastOf': WHATEVER THE INPUT: true; the input reads as it did. -/
def fnExactLeastOfSpec : ChangeSpec := { name := "fnExactLeastOf", fn := fun _ => fun
  | [d] => { results := [.lit (.bool true)], args := [d] }
  | _ => none }
def fnExactLeastOfRow : OpenClaim := { program := "ytilgbnbeonlbnaa", sum := "a241974fef84f644a0b7036cc026cdd24fccf3dda2769729eeb33ae3c6f43e86", func := "loop.example/orthologics/laws.FnExactLeastOf", spec := "fnExactLeastOf", apart := false }
def FnExactLeastOfSaid : Prop := fnExactLeastOfRow.holds Try.pinned (OpenSpec.ofChange fnExactLeastOfSpec)

/-- ITS FALSE NEIGHBOUR: 'it returns false'. Refute it at one input. -/
def fnExactLeastOfWrong : ChangeSpec := { name := "fnExactLeastOf", fn := fun _ => fun
  | [d] => { results := [.lit (.bool false)], args := [d] }
  | _ => none }
def FnExactLeastOfWrongFalsely : Prop := fnExactLeastOfRow.holds Try.pinned (OpenSpec.ofChange fnExactLeastOfWrong)

/-- 'laws.FnOrderOk': WHATEVER THE INPUT: true; the input reads as it did. -/
def fnOrderOkSpec : ChangeSpec := { name := "fnOrderOk", fn := fun _ => fun
  | [d] => { results := [.lit (.bool true)], args := [d] }
  | _ => none }
def fnOrderOkRow : OpenClaim := { program := "ytilgbnbeonlbnaa", sum := "a241974fef84f644a0b7036cc026cdd24fccf3dda2769729eeb33ae3c6f43e86", func := "loop.example/orthologics/laws.FnOrderOk", spec := "fnOrderOk", apart := false }
def FnOrderOkSaid : Prop := fnOrderOkRow.holds Try.pinned (OpenSpec.ofChange fnOrderOkSpec)

/-- ITS FALSE NEIGHBOUR: 'it returns false'. Refute it at one input. -/
def fnOrderOkWrong : ChangeSpec := { name := "fnOrderOk", fn := fun _ => fun
  | [d] => { results := [.lit (.bool false)], args := [d] }
  | _ => none }
def FnOrderOkWrongFalsely : Prop := fnOrderOkRow.holds Try.pinned (OpenSpec.ofChange fnOrderOkWrong)

/-- 'laws.FnExactMeetOf': WHATEVER THE INPUT: true; the input reads as it did. -/
def fnExactMeetOfSpec : ChangeSpec := { name := "fnExactMeetOf", fn := fun _ => fun
  | [d1, d2, d3] => { results := [.lit (.bool true)], args := [d1, d2, d3] }
  | _ => none }
def fnExactMeetOfRow : OpenClaim := { program := "ytilgbnbeonlbnaa", sum := "a241974fef84f644a0b7036cc026cdd24fccf3dda2769729eeb33ae3c6f43e86", func := "loop.example/orthologics/laws.FnExactMeetOf", spec := "fnExactMeetOf", apart := false }
def FnExactMeetOfSaid : Prop := fnExactMeetOfRow.holds Try.pinned (OpenSpec.ofChange fnExactMeetOfSpec)

/-- ITS FALSE NEIGHBOUR: 'it returns false'. Refute it at one input. -/
def fnExactMeetOfWrong : ChangeSpec := { name := "fnExactMeetOf", fn := fun _ => fun
  | [d1, d2, d3] => { results := [.lit (.bool false)], args := [d1, d2, d3] }
  | _ => none }
def FnExactMeetOfWrongFalsely : Prop := fnExactMeetOfRow.holds Try.pinned (OpenSpec.ofChange fnExactMeetOfWrong)

/-- 'laws.FnExactTurnedOf': WHATEVER THE INPUT: true; the input reads as it did. -/
def fnExactTurnedOfSpec : ChangeSpec := { name := "fnExactTurnedOf", fn := fun _ => fun
  | [d] => { results := [.lit (.bool true)], args := [d] }
  | _ => none }
def fnExactTurnedOfRow : OpenClaim := { program := "ytilgbnbeonlbnaa", sum := "a241974fef84f644a0b7036cc026cdd24fccf3dda2769729eeb33ae3c6f43e86", func := "loop.example/orthologics/laws.FnExactTurnedOf", spec := "fnExactTurnedOf", apart := false }
def FnExactTurnedOfSaid : Prop := fnExactTurnedOfRow.holds Try.pinned (OpenSpec.ofChange fnExactTurnedOfSpec)

/-- ITS FALSE NEIGHBOUR: 'it returns false'. Refute it at one input. -/
def fnExactTurnedOfWrong : ChangeSpec := { name := "fnExactTurnedOf", fn := fun _ => fun
  | [d] => { results := [.lit (.bool false)], args := [d] }
  | _ => none }
def FnExactTurnedOfWrongFalsely : Prop := fnExactTurnedOfRow.holds Try.pinned (OpenSpec.ofChange fnExactTurnedOfWrong)

/-- 'laws.FnExactJoinOf': WHATEVER THE INPUT: true; the input reads as it did. -/
def fnExactJoinOfSpec : ChangeSpec := { name := "fnExactJoinOf", fn := fun _ => fun
  | [d1, d2, d3] => { results := [.lit (.bool true)], args := [d1, d2, d3] }
  | _ => none }
def fnExactJoinOfRow : OpenClaim := { program := "ytilgbnbeonlbnaa", sum := "a241974fef84f644a0b7036cc026cdd24fccf3dda2769729eeb33ae3c6f43e86", func := "loop.example/orthologics/laws.FnExactJoinOf", spec := "fnExactJoinOf", apart := false }
def FnExactJoinOfSaid : Prop := fnExactJoinOfRow.holds Try.pinned (OpenSpec.ofChange fnExactJoinOfSpec)

/-- ITS FALSE NEIGHBOUR: 'it returns false'. Refute it at one input. -/
def fnExactJoinOfWrong : ChangeSpec := { name := "fnExactJoinOf", fn := fun _ => fun
  | [d1, d2, d3] => { results := [.lit (.bool false)], args := [d1, d2, d3] }
  | _ => none }
def FnExactJoinOfWrongFalsely : Prop := fnExactJoinOfRow.holds Try.pinned (OpenSpec.ofChange fnExactJoinOfWrong)

/-- 'laws.FnTurnedOf': WHATEVER THE INPUT: true; the input reads as it did. -/
def fnTurnedOfSpec : ChangeSpec := { name := "fnTurnedOf", fn := fun _ => fun
  | [d] => { results := [.lit (.bool true)], args := [d] }
  | _ => none }
def fnTurnedOfRow : OpenClaim := { program := "ytilgbnbeonlbnaa", sum := "a241974fef84f644a0b7036cc026cdd24fccf3dda2769729eeb33ae3c6f43e86", func := "loop.example/orthologics/laws.FnTurnedOf", spec := "fnTurnedOf", apart := false }
def FnTurnedOfSaid : Prop := fnTurnedOfRow.holds Try.pinned (OpenSpec.ofChange fnTurnedOfSpec)

/-- ITS FALSE NEIGHBOUR: 'it returns false'. Refute it at one input. -/
def fnTurnedOfWrong : ChangeSpec := { name := "fnTurnedOf", fn := fun _ => fun
  | [d] => { results := [.lit (.bool false)], args := [d] }
  | _ => none }
def FnTurnedOfWrongFalsely : Prop := fnTurnedOfRow.holds Try.pinned (OpenSpec.ofChange fnTurnedOfWrong)

/-- 'laws.FnMeetOf': WHATEVER THE INPUT: true; the input reads as it did. -/
def fnMeetOfSpec : ChangeSpec := { name := "fnMeetOf", fn := fun _ => fun
  | [d] => { results := [.lit (.bool true)], args := [d] }
  | _ => none }
def fnMeetOfRow : OpenClaim := { program := "ytilgbnbeonlbnaa", sum := "a241974fef84f644a0b7036cc026cdd24fccf3dda2769729eeb33ae3c6f43e86", func := "loop.example/orthologics/laws.FnMeetOf", spec := "fnMeetOf", apart := false }
def FnMeetOfSaid : Prop := fnMeetOfRow.holds Try.pinned (OpenSpec.ofChange fnMeetOfSpec)

/-- ITS FALSE NEIGHBOUR: 'it returns false'. Refute it at one input. -/
def fnMeetOfWrong : ChangeSpec := { name := "fnMeetOf", fn := fun _ => fun
  | [d] => { results := [.lit (.bool false)], args := [d] }
  | _ => none }
def FnMeetOfWrongFalsely : Prop := fnMeetOfRow.holds Try.pinned (OpenSpec.ofChange fnMeetOfWrong)

/-- 'laws.FnLeastOf': WHATEVER THE INPUT: true; the input reads as it did. -/
def fnLeastOfSpec : ChangeSpec := { name := "fnLeastOf", fn := fun _ => fun
  | [d] => { results := [.lit (.bool true)], args := [d] }
  | _ => none }
def fnLeastOfRow : OpenClaim := { program := "ytilgbnbeonlbnaa", sum := "a241974fef84f644a0b7036cc026cdd24fccf3dda2769729eeb33ae3c6f43e86", func := "loop.example/orthologics/laws.FnLeastOf", spec := "fnLeastOf", apart := false }
def FnLeastOfSaid : Prop := fnLeastOfRow.holds Try.pinned (OpenSpec.ofChange fnLeastOfSpec)

/-- ITS FALSE NEIGHBOUR: 'it returns false'. Refute it at one input. -/
def fnLeastOfWrong : ChangeSpec := { name := "fnLeastOf", fn := fun _ => fun
  | [d] => { results := [.lit (.bool false)], args := [d] }
  | _ => none }
def FnLeastOfWrongFalsely : Prop := fnLeastOfRow.holds Try.pinned (OpenSpec.ofChange fnLeastOfWrong)

/-- 'laws.FnExactLatticeOk': WHATEVER THE INPUT: true; the input reads as it did. -/
def fnExactLatticeOkSpec : ChangeSpec := { name := "fnExactLatticeOk", fn := fun _ => fun
  | [d] => { results := [.lit (.bool true)], args := [d] }
  | _ => none }
def fnExactLatticeOkRow : OpenClaim := { program := "ytilgbnbeonlbnaa", sum := "a241974fef84f644a0b7036cc026cdd24fccf3dda2769729eeb33ae3c6f43e86", func := "loop.example/orthologics/laws.FnExactLatticeOk", spec := "fnExactLatticeOk", apart := false }
def FnExactLatticeOkSaid : Prop := fnExactLatticeOkRow.holds Try.pinned (OpenSpec.ofChange fnExactLatticeOkSpec)

/-- ITS FALSE NEIGHBOUR: 'it returns false'. Refute it at one input. -/
def fnExactLatticeOkWrong : ChangeSpec := { name := "fnExactLatticeOk", fn := fun _ => fun
  | [d] => { results := [.lit (.bool false)], args := [d] }
  | _ => none }
def FnExactLatticeOkWrongFalsely : Prop := fnExactLatticeOkRow.holds Try.pinned (OpenSpec.ofChange fnExactLatticeOkWrong)

/-- 'laws.FnExactAtomsOf': WHATEVER THE INPUT: true; the input reads as it did. -/
def fnExactAtomsOfSpec : ChangeSpec := { name := "fnExactAtomsOf", fn := fun _ => fun
  | [d] => { results := [.lit (.bool true)], args := [d] }
  | _ => none }
def fnExactAtomsOfRow : OpenClaim := { program := "ytilgbnbeonlbnaa", sum := "a241974fef84f644a0b7036cc026cdd24fccf3dda2769729eeb33ae3c6f43e86", func := "loop.example/orthologics/laws.FnExactAtomsOf", spec := "fnExactAtomsOf", apart := false }
def FnExactAtomsOfSaid : Prop := fnExactAtomsOfRow.holds Try.pinned (OpenSpec.ofChange fnExactAtomsOfSpec)

/-- ITS FALSE NEIGHBOUR: 'it returns false'. Refute it at one input. -/
def fnExactAtomsOfWrong : ChangeSpec := { name := "fnExactAtomsOf", fn := fun _ => fun
  | [d] => { results := [.lit (.bool false)], args := [d] }
  | _ => none }
def FnExactAtomsOfWrongFalsely : Prop := fnExactAtomsOfRow.holds Try.pinned (OpenSpec.ofChange fnExactAtomsOfWrong)

/-- 'laws.FnJoinOf': WHATEVER THE INPUT: true; the input reads as it did. -/
def fnJoinOfSpec : ChangeSpec := { name := "fnJoinOf", fn := fun _ => fun
  | [d] => { results := [.lit (.bool true)], args := [d] }
  | _ => none }
def fnJoinOfRow : OpenClaim := { program := "ytilgbnbeonlbnaa", sum := "a241974fef84f644a0b7036cc026cdd24fccf3dda2769729eeb33ae3c6f43e86", func := "loop.example/orthologics/laws.FnJoinOf", spec := "fnJoinOf", apart := false }
def FnJoinOfSaid : Prop := fnJoinOfRow.holds Try.pinned (OpenSpec.ofChange fnJoinOfSpec)

/-- ITS FALSE NEIGHBOUR: 'it returns false'. Refute it at one input. -/
def fnJoinOfWrong : ChangeSpec := { name := "fnJoinOf", fn := fun _ => fun
  | [d] => { results := [.lit (.bool false)], args := [d] }
  | _ => none }
def FnJoinOfWrongFalsely : Prop := fnJoinOfRow.holds Try.pinned (OpenSpec.ofChange fnJoinOfWrong)

/-- 'laws.FnAtomsOf': WHATEVER THE INPUT: true; the input reads as it did. -/
def fnAtomsOfSpec : ChangeSpec := { name := "fnAtomsOf", fn := fun _ => fun
  | [d] => { results := [.lit (.bool true)], args := [d] }
  | _ => none }
def fnAtomsOfRow : OpenClaim := { program := "ytilgbnbeonlbnaa", sum := "a241974fef84f644a0b7036cc026cdd24fccf3dda2769729eeb33ae3c6f43e86", func := "loop.example/orthologics/laws.FnAtomsOf", spec := "fnAtomsOf", apart := false }
def FnAtomsOfSaid : Prop := fnAtomsOfRow.holds Try.pinned (OpenSpec.ofChange fnAtomsOfSpec)

/-- ITS FALSE NEIGHBOUR: 'it returns false'. Refute it at one input. -/
def fnAtomsOfWrong : ChangeSpec := { name := "fnAtomsOf", fn := fun _ => fun
  | [d] => { results := [.lit (.bool false)], args := [d] }
  | _ => none }
def FnAtomsOfWrongFalsely : Prop := fnAtomsOfRow.holds Try.pinned (OpenSpec.ofChange fnAtomsOfWrong)

/-- 'laws.FnLatticeOk': WHATEVER THE INPUT: true; the input reads as it did. -/
def fnLatticeOkSpec : ChangeSpec := { name := "fnLatticeOk", fn := fun _ => fun
  | [d] => { results := [.lit (.bool true)], args := [d] }
  | _ => none }
def fnLatticeOkRow : OpenClaim := { program := "ytilgbnbeonlbnaa", sum := "a241974fef84f644a0b7036cc026cdd24fccf3dda2769729eeb33ae3c6f43e86", func := "loop.example/orthologics/laws.FnLatticeOk", spec := "fnLatticeOk", apart := false }
def FnLatticeOkSaid : Prop := fnLatticeOkRow.holds Try.pinned (OpenSpec.ofChange fnLatticeOkSpec)

/-- ITS FALSE NEIGHBOUR: 'it returns false'. Refute it at one input. -/
def fnLatticeOkWrong : ChangeSpec := { name := "fnLatticeOk", fn := fun _ => fun
  | [d] => { results := [.lit (.bool false)], args := [d] }
  | _ => none }
def FnLatticeOkWrongFalsely : Prop := fnLatticeOkRow.holds Try.pinned (OpenSpec.ofChange fnLatticeOkWrong)

/- THE SECOND FORM. 'bulk': how many values and letters a reading holds, each counted each time it is reached (what is shared counts as often as it is met; a slice's spare places count too). A statement '..UptoSaid' is the law's where the arguments, and the package variables that the reading takes, are together of bulk at most 1048576: NARROWER than '..Said'. Prove '..Said' where nothing that the law and all that it calls make is longer than what came in: it says more and counts as full. Else prove '..UptoSaid'. A law counts once. -/
mutual
def uptoBulk {H : Type} : DataW H → Nat
  | .lit (.string bytes) => bytes.length + 1
  | .lit _ => 1
  | .nil => 1
  | .ptr d => uptoBulk d + 1
  | .slice elems spare => uptoBulkAll elems + uptoBulkAll spare + 1
  | .agg parts => uptoBulkAll parts + 1
  | .iface _ d => uptoBulk d + 1
  | .map entries => uptoBulkEntries entries + 1
  | .held _ => 1
def uptoBulkAll {H : Type} : List (DataW H) → Nat
  | [] => 0
  | d :: r => uptoBulk d + uptoBulkAll r
def uptoBulkEntries {H : Type} : List (Lit × DataW H) → Nat
  | [] => 0
  | x :: r => uptoBulkEntry x + uptoBulkEntries r
def uptoBulkEntry {H : Type} : Lit × DataW H → Nat
  | (.string bytes, d) => bytes.length + uptoBulk d + 1
  | (_, d) => uptoBulk d + 1
 end
def uptoSmall : (H : Type) → List (DataW H) → Bool := fun _ ds => decide (uptoBulkAll ds ≤ 1048576)
def OpenSpec.upto (s : _root_.Go.ChangeSpec) : _root_.Go.OpenSpec := { _root_.Go.OpenSpec.ofChange s with cond := some uptoSmall }

/-- 'laws.FnExactConstants', WHERE WHAT IT READS IS OF BULK AT MOST 1048576: true; the input reads as it did. -/
def fnExactConstantsUptoRow : OpenClaim := { program := "ytilgbnbeonlbnaa", sum := "a241974fef84f644a0b7036cc026cdd24fccf3dda2769729eeb33ae3c6f43e86", func := "loop.example/orthologics/laws.FnExactConstants", spec := "fnExactConstants", apart := false, narrowed := true }
def FnExactConstantsUptoSaid : Prop := fnExactConstantsUptoRow.holds Try.pinned (OpenSpec.upto fnExactConstantsSpec)

/-- 'laws.FnExactOrderOk', WHERE WHAT IT READS IS OF BULK AT MOST 1048576: true; the input reads as it did. -/
def fnExactOrderOkUptoRow : OpenClaim := { program := "ytilgbnbeonlbnaa", sum := "a241974fef84f644a0b7036cc026cdd24fccf3dda2769729eeb33ae3c6f43e86", func := "loop.example/orthologics/laws.FnExactOrderOk", spec := "fnExactOrderOk", apart := false, narrowed := true }
def FnExactOrderOkUptoSaid : Prop := fnExactOrderOkUptoRow.holds Try.pinned (OpenSpec.upto fnExactOrderOkSpec)

/-- 'laws.FnExactLeastOf', WHERE WHAT IT READS IS OF BULK AT MOST 1048576: true; the input reads as it did. -/
def fnExactLeastOfUptoRow : OpenClaim := { program := "ytilgbnbeonlbnaa", sum := "a241974fef84f644a0b7036cc026cdd24fccf3dda2769729eeb33ae3c6f43e86", func := "loop.example/orthologics/laws.FnExactLeastOf", spec := "fnExactLeastOf", apart := false, narrowed := true }
def FnExactLeastOfUptoSaid : Prop := fnExactLeastOfUptoRow.holds Try.pinned (OpenSpec.upto fnExactLeastOfSpec)

/-- 'laws.FnOrderOk', WHERE WHAT IT READS IS OF BULK AT MOST 1048576: true; the input reads as it did. -/
def fnOrderOkUptoRow : OpenClaim := { program := "ytilgbnbeonlbnaa", sum := "a241974fef84f644a0b7036cc026cdd24fccf3dda2769729eeb33ae3c6f43e86", func := "loop.example/orthologics/laws.FnOrderOk", spec := "fnOrderOk", apart := false, narrowed := true }
def FnOrderOkUptoSaid : Prop := fnOrderOkUptoRow.holds Try.pinned (OpenSpec.upto fnOrderOkSpec)

/-- 'laws.FnExactMeetOf', WHERE WHAT IT READS IS OF BULK AT MOST 1048576: true; the input reads as it did. -/
def fnExactMeetOfUptoRow : OpenClaim := { program := "ytilgbnbeonlbnaa", sum := "a241974fef84f644a0b7036cc026cdd24fccf3dda2769729eeb33ae3c6f43e86", func := "loop.example/orthologics/laws.FnExactMeetOf", spec := "fnExactMeetOf", apart := false, narrowed := true }
def FnExactMeetOfUptoSaid : Prop := fnExactMeetOfUptoRow.holds Try.pinned (OpenSpec.upto fnExactMeetOfSpec)

/-- 'laws.FnExactTurnedOf', WHERE WHAT IT READS IS OF BULK AT MOST 1048576: true; the input reads as it did. -/
def fnExactTurnedOfUptoRow : OpenClaim := { program := "ytilgbnbeonlbnaa", sum := "a241974fef84f644a0b7036cc026cdd24fccf3dda2769729eeb33ae3c6f43e86", func := "loop.example/orthologics/laws.FnExactTurnedOf", spec := "fnExactTurnedOf", apart := false, narrowed := true }
def FnExactTurnedOfUptoSaid : Prop := fnExactTurnedOfUptoRow.holds Try.pinned (OpenSpec.upto fnExactTurnedOfSpec)

/-- 'laws.FnExactJoinOf', WHERE WHAT IT READS IS OF BULK AT MOST 1048576: true; the input reads as it did. -/
def fnExactJoinOfUptoRow : OpenClaim := { program := "ytilgbnbeonlbnaa", sum := "a241974fef84f644a0b7036cc026cdd24fccf3dda2769729eeb33ae3c6f43e86", func := "loop.example/orthologics/laws.FnExactJoinOf", spec := "fnExactJoinOf", apart := false, narrowed := true }
def FnExactJoinOfUptoSaid : Prop := fnExactJoinOfUptoRow.holds Try.pinned (OpenSpec.upto fnExactJoinOfSpec)

/-- 'laws.FnTurnedOf', WHERE WHAT IT READS IS OF BULK AT MOST 1048576: true; the input reads as it did. -/
def fnTurnedOfUptoRow : OpenClaim := { program := "ytilgbnbeonlbnaa", sum := "a241974fef84f644a0b7036cc026cdd24fccf3dda2769729eeb33ae3c6f43e86", func := "loop.example/orthologics/laws.FnTurnedOf", spec := "fnTurnedOf", apart := false, narrowed := true }
def FnTurnedOfUptoSaid : Prop := fnTurnedOfUptoRow.holds Try.pinned (OpenSpec.upto fnTurnedOfSpec)

/-- 'laws.FnMeetOf', WHERE WHAT IT READS IS OF BULK AT MOST 1048576: true; the input reads as it did. -/
def fnMeetOfUptoRow : OpenClaim := { program := "ytilgbnbeonlbnaa", sum := "a241974fef84f644a0b7036cc026cdd24fccf3dda2769729eeb33ae3c6f43e86", func := "loop.example/orthologics/laws.FnMeetOf", spec := "fnMeetOf", apart := false, narrowed := true }
def FnMeetOfUptoSaid : Prop := fnMeetOfUptoRow.holds Try.pinned (OpenSpec.upto fnMeetOfSpec)

/-- 'laws.FnLeastOf', WHERE WHAT IT READS IS OF BULK AT MOST 1048576: true; the input reads as it did. -/
def fnLeastOfUptoRow : OpenClaim := { program := "ytilgbnbeonlbnaa", sum := "a241974fef84f644a0b7036cc026cdd24fccf3dda2769729eeb33ae3c6f43e86", func := "loop.example/orthologics/laws.FnLeastOf", spec := "fnLeastOf", apart := false, narrowed := true }
def FnLeastOfUptoSaid : Prop := fnLeastOfUptoRow.holds Try.pinned (OpenSpec.upto fnLeastOfSpec)

/-- 'laws.FnExactLatticeOk', WHERE WHAT IT READS IS OF BULK AT MOST 1048576: true; the input reads as it did. -/
def fnExactLatticeOkUptoRow : OpenClaim := { program := "ytilgbnbeonlbnaa", sum := "a241974fef84f644a0b7036cc026cdd24fccf3dda2769729eeb33ae3c6f43e86", func := "loop.example/orthologics/laws.FnExactLatticeOk", spec := "fnExactLatticeOk", apart := false, narrowed := true }
def FnExactLatticeOkUptoSaid : Prop := fnExactLatticeOkUptoRow.holds Try.pinned (OpenSpec.upto fnExactLatticeOkSpec)

/-- 'laws.FnExactAtomsOf', WHERE WHAT IT READS IS OF BULK AT MOST 1048576: true; the input reads as it did. -/
def fnExactAtomsOfUptoRow : OpenClaim := { program := "ytilgbnbeonlbnaa", sum := "a241974fef84f644a0b7036cc026cdd24fccf3dda2769729eeb33ae3c6f43e86", func := "loop.example/orthologics/laws.FnExactAtomsOf", spec := "fnExactAtomsOf", apart := false, narrowed := true }
def FnExactAtomsOfUptoSaid : Prop := fnExactAtomsOfUptoRow.holds Try.pinned (OpenSpec.upto fnExactAtomsOfSpec)

/-- 'laws.FnJoinOf', WHERE WHAT IT READS IS OF BULK AT MOST 1048576: true; the input reads as it did. -/
def fnJoinOfUptoRow : OpenClaim := { program := "ytilgbnbeonlbnaa", sum := "a241974fef84f644a0b7036cc026cdd24fccf3dda2769729eeb33ae3c6f43e86", func := "loop.example/orthologics/laws.FnJoinOf", spec := "fnJoinOf", apart := false, narrowed := true }
def FnJoinOfUptoSaid : Prop := fnJoinOfUptoRow.holds Try.pinned (OpenSpec.upto fnJoinOfSpec)

/-- 'laws.FnAtomsOf', WHERE WHAT IT READS IS OF BULK AT MOST 1048576: true; the input reads as it did. -/
def fnAtomsOfUptoRow : OpenClaim := { program := "ytilgbnbeonlbnaa", sum := "a241974fef84f644a0b7036cc026cdd24fccf3dda2769729eeb33ae3c6f43e86", func := "loop.example/orthologics/laws.FnAtomsOf", spec := "fnAtomsOf", apart := false, narrowed := true }
def FnAtomsOfUptoSaid : Prop := fnAtomsOfUptoRow.holds Try.pinned (OpenSpec.upto fnAtomsOfSpec)

/-- 'laws.FnLatticeOk', WHERE WHAT IT READS IS OF BULK AT MOST 1048576: true; the input reads as it did. -/
def fnLatticeOkUptoRow : OpenClaim := { program := "ytilgbnbeonlbnaa", sum := "a241974fef84f644a0b7036cc026cdd24fccf3dda2769729eeb33ae3c6f43e86", func := "loop.example/orthologics/laws.FnLatticeOk", spec := "fnLatticeOk", apart := false, narrowed := true }
def FnLatticeOkUptoSaid : Prop := fnLatticeOkUptoRow.holds Try.pinned (OpenSpec.upto fnLatticeOkSpec)

end Rows
end Go.Proofs.Ytilgbnbeonlbnaa
