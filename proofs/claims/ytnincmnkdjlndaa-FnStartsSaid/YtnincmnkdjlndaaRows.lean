/-
  No cell of these rows narrows 'for every input' (looked for: loops, veiled, ifaces, maps, wideKeys, modest, calm, conditions, laid).
  DERIVED. THE GIVEN ROWS OF THIS SEAT. 11 by the template 'for every input the law returns true; each argument reads behind the call as it read before'; 0 by the template 'total and deterministic' (their statements: YtnincmnkdjlndaaTotals.lean).
  GIVEN WITH THE SEED: the statements are not yours to turn. If you find one false, say at which input.
  Laid BY PROGRAM, IN A SANDBOX (cutbox-rows.mjs): the forced cells as the released guide's own fill.sh prints them over the translation e72c660058a3d2ae… (all of the seat's roots in one cut). By AI agents, Wed Nov 11 2026. No macro, syntax, notation, axiom, sorry.
-/
import Derived.Test.YtnincmnkdjlndaaChecked
import GoSem.Claim
import GoSem.ClaimJoined
import GoSem.ClaimMapViews
import Derived.JoinedTies
import Derived.KernelRfl
namespace Go.Proofs.Ytnincmnkdjlndaa
/- THE CELL 'sum', in the pinned program and in every row, IS THE sha256 OF THE DUMP (.gsa) THAT YtnincmnkdjlndaaProg.lean LOADS. Nothing in Lean hashes anything: it is a label: what it is worth is what the hold of that sum in a sandbox is worth. -/
noncomputable def Try.pinned : Pinned := { name := "ytnincmnkdjlndaa", sum := "e72c660058a3d2ae1403104b7d6014905349d721096f985f4f2d674a312cdae9", checked := Try.checked }
namespace Rows
def none {H : Type} : Left H := { results := [], args := [] }

/-- 'laws.FnPaths': WHATEVER THE INPUT: true; the input reads as it did. -/
def fnPathsSpec : ChangeSpec := { name := "fnPaths", fn := fun _ => fun
  | [d1, d2] => { results := [.lit (.bool true)], args := [d1, d2] }
  | _ => none }
def fnPathsRow : OpenClaim := { program := "ytnincmnkdjlndaa", sum := "e72c660058a3d2ae1403104b7d6014905349d721096f985f4f2d674a312cdae9", func := "loop.example/g00894/laws.FnPaths", spec := "fnPaths", recurses := true, plainKeys := false, apart := false }
def FnPathsSaid : Prop := fnPathsRow.holds Try.pinned (OpenSpec.ofChange fnPathsSpec)

/-- ITS FALSE NEIGHBOUR: 'it returns false'. Refute it at one input. -/
def fnPathsWrong : ChangeSpec := { name := "fnPaths", fn := fun _ => fun
  | [d1, d2] => { results := [.lit (.bool false)], args := [d1, d2] }
  | _ => none }
def FnPathsWrongFalsely : Prop := fnPathsRow.holds Try.pinned (OpenSpec.ofChange fnPathsWrong)

/-- 'laws.FnHalves': WHATEVER THE INPUT: true; the input reads as it did. -/
def fnHalvesSpec : ChangeSpec := { name := "fnHalves", fn := fun _ => fun
  | [d1, d2] => { results := [.lit (.bool true)], args := [d1, d2] }
  | _ => none }
def fnHalvesRow : OpenClaim := { program := "ytnincmnkdjlndaa", sum := "e72c660058a3d2ae1403104b7d6014905349d721096f985f4f2d674a312cdae9", func := "loop.example/g00894/laws.FnHalves", spec := "fnHalves", recurses := true, plainKeys := false, apart := false }
def FnHalvesSaid : Prop := fnHalvesRow.holds Try.pinned (OpenSpec.ofChange fnHalvesSpec)

/-- ITS FALSE NEIGHBOUR: 'it returns false'. Refute it at one input. -/
def fnHalvesWrong : ChangeSpec := { name := "fnHalves", fn := fun _ => fun
  | [d1, d2] => { results := [.lit (.bool false)], args := [d1, d2] }
  | _ => none }
def FnHalvesWrongFalsely : Prop := fnHalvesRow.holds Try.pinned (OpenSpec.ofChange fnHalvesWrong)

/-- 'laws.FnTrueLists': WHATEVER THE INPUT: true; the input reads as it did. -/
def fnTrueListsSpec : ChangeSpec := { name := "fnTrueLists", fn := fun _ => fun
  | [d1, d2] => { results := [.lit (.bool true)], args := [d1, d2] }
  | _ => none }
def fnTrueListsRow : OpenClaim := { program := "ytnincmnkdjlndaa", sum := "e72c660058a3d2ae1403104b7d6014905349d721096f985f4f2d674a312cdae9", func := "loop.example/g00894/laws.FnTrueLists", spec := "fnTrueLists", recurses := true, plainKeys := false, apart := false }
def FnTrueListsSaid : Prop := fnTrueListsRow.holds Try.pinned (OpenSpec.ofChange fnTrueListsSpec)

/-- ITS FALSE NEIGHBOUR: 'it returns false'. Refute it at one input. -/
def fnTrueListsWrong : ChangeSpec := { name := "fnTrueLists", fn := fun _ => fun
  | [d1, d2] => { results := [.lit (.bool false)], args := [d1, d2] }
  | _ => none }
def FnTrueListsWrongFalsely : Prop := fnTrueListsRow.holds Try.pinned (OpenSpec.ofChange fnTrueListsWrong)

/-- 'laws.FnStarts': WHATEVER THE INPUT: true; the input reads as it did. -/
def fnStartsSpec : ChangeSpec := { name := "fnStarts", fn := fun _ => fun
  | [d1, d2] => { results := [.lit (.bool true)], args := [d1, d2] }
  | _ => none }
def fnStartsRow : OpenClaim := { program := "ytnincmnkdjlndaa", sum := "e72c660058a3d2ae1403104b7d6014905349d721096f985f4f2d674a312cdae9", func := "loop.example/g00894/laws.FnStarts", spec := "fnStarts", recurses := true, plainKeys := false, apart := false }
def FnStartsSaid : Prop := fnStartsRow.holds Try.pinned (OpenSpec.ofChange fnStartsSpec)

/-- ITS FALSE NEIGHBOUR: 'it returns false'. Refute it at one input. -/
def fnStartsWrong : ChangeSpec := { name := "fnStarts", fn := fun _ => fun
  | [d1, d2] => { results := [.lit (.bool false)], args := [d1, d2] }
  | _ => none }
def FnStartsWrongFalsely : Prop := fnStartsRow.holds Try.pinned (OpenSpec.ofChange fnStartsWrong)

/-- 'laws.FnLevel': WHATEVER THE INPUT: true; the input reads as it did. -/
def fnLevelSpec : ChangeSpec := { name := "fnLevel", fn := fun _ => fun
  | [d1, d2] => { results := [.lit (.bool true)], args := [d1, d2] }
  | _ => none }
def fnLevelRow : OpenClaim := { program := "ytnincmnkdjlndaa", sum := "e72c660058a3d2ae1403104b7d6014905349d721096f985f4f2d674a312cdae9", func := "loop.example/g00894/laws.FnLevel", spec := "fnLevel", recurses := true, plainKeys := false, apart := false }
def FnLevelSaid : Prop := fnLevelRow.holds Try.pinned (OpenSpec.ofChange fnLevelSpec)

/-- ITS FALSE NEIGHBOUR: 'it returns false'. Refute it at one input. -/
def fnLevelWrong : ChangeSpec := { name := "fnLevel", fn := fun _ => fun
  | [d1, d2] => { results := [.lit (.bool false)], args := [d1, d2] }
  | _ => none }
def FnLevelWrongFalsely : Prop := fnLevelRow.holds Try.pinned (OpenSpec.ofChange fnLevelWrong)

/-- 'laws.FnAllChanges': WHATEVER THE INPUT: true; the input reads as it did. -/
def fnAllChangesSpec : ChangeSpec := { name := "fnAllChanges", fn := fun _ => fun
  | [d1, d2] => { results := [.lit (.bool true)], args := [d1, d2] }
  | _ => none }
def fnAllChangesRow : OpenClaim := { program := "ytnincmnkdjlndaa", sum := "e72c660058a3d2ae1403104b7d6014905349d721096f985f4f2d674a312cdae9", func := "loop.example/g00894/laws.FnAllChanges", spec := "fnAllChanges", recurses := true, plainKeys := false, apart := false }
def FnAllChangesSaid : Prop := fnAllChangesRow.holds Try.pinned (OpenSpec.ofChange fnAllChangesSpec)

/-- ITS FALSE NEIGHBOUR: 'it returns false'. Refute it at one input. -/
def fnAllChangesWrong : ChangeSpec := { name := "fnAllChanges", fn := fun _ => fun
  | [d1, d2] => { results := [.lit (.bool false)], args := [d1, d2] }
  | _ => none }
def FnAllChangesWrongFalsely : Prop := fnAllChangesRow.holds Try.pinned (OpenSpec.ofChange fnAllChangesWrong)

/-- 'laws.FnPartSets': WHATEVER THE INPUT: true; the input reads as it did. -/
def fnPartSetsSpec : ChangeSpec := { name := "fnPartSets", fn := fun _ => fun
  | [d1, d2] => { results := [.lit (.bool true)], args := [d1, d2] }
  | _ => none }
def fnPartSetsRow : OpenClaim := { program := "ytnincmnkdjlndaa", sum := "e72c660058a3d2ae1403104b7d6014905349d721096f985f4f2d674a312cdae9", func := "loop.example/g00894/laws.FnPartSets", spec := "fnPartSets", inPlace := ["internal/abi.NoEscape", "internal/bytealg.MakeNoZero"], recurses := true, plainKeys := false, apart := false }
def FnPartSetsSaid : Prop := fnPartSetsRow.holds Try.pinned (OpenSpec.ofChange fnPartSetsSpec)

/-- ITS FALSE NEIGHBOUR: 'it returns false'. Refute it at one input. -/
def fnPartSetsWrong : ChangeSpec := { name := "fnPartSets", fn := fun _ => fun
  | [d1, d2] => { results := [.lit (.bool false)], args := [d1, d2] }
  | _ => none }
def FnPartSetsWrongFalsely : Prop := fnPartSetsRow.holds Try.pinned (OpenSpec.ofChange fnPartSetsWrong)

/-- 'laws.FnCosets': WHATEVER THE INPUT: true; the input reads as it did. -/
def fnCosetsSpec : ChangeSpec := { name := "fnCosets", fn := fun _ => fun
  | [d1, d2] => { results := [.lit (.bool true)], args := [d1, d2] }
  | _ => none }
def fnCosetsRow : OpenClaim := { program := "ytnincmnkdjlndaa", sum := "e72c660058a3d2ae1403104b7d6014905349d721096f985f4f2d674a312cdae9", func := "loop.example/g00894/laws.FnCosets", spec := "fnCosets", recurses := true, plainKeys := false, apart := false }
def FnCosetsSaid : Prop := fnCosetsRow.holds Try.pinned (OpenSpec.ofChange fnCosetsSpec)

/-- ITS FALSE NEIGHBOUR: 'it returns false'. Refute it at one input. -/
def fnCosetsWrong : ChangeSpec := { name := "fnCosets", fn := fun _ => fun
  | [d1, d2] => { results := [.lit (.bool false)], args := [d1, d2] }
  | _ => none }
def FnCosetsWrongFalsely : Prop := fnCosetsRow.holds Try.pinned (OpenSpec.ofChange fnCosetsWrong)

/-- 'laws.FnClosed': WHATEVER THE INPUT: true; the input reads as it did. -/
def fnClosedSpec : ChangeSpec := { name := "fnClosed", fn := fun _ => fun
  | [d1, d2] => { results := [.lit (.bool true)], args := [d1, d2] }
  | _ => none }
def fnClosedRow : OpenClaim := { program := "ytnincmnkdjlndaa", sum := "e72c660058a3d2ae1403104b7d6014905349d721096f985f4f2d674a312cdae9", func := "loop.example/g00894/laws.FnClosed", spec := "fnClosed", recurses := true, plainKeys := false, apart := false }
def FnClosedSaid : Prop := fnClosedRow.holds Try.pinned (OpenSpec.ofChange fnClosedSpec)

/-- ITS FALSE NEIGHBOUR: 'it returns false'. Refute it at one input. -/
def fnClosedWrong : ChangeSpec := { name := "fnClosed", fn := fun _ => fun
  | [d1, d2] => { results := [.lit (.bool false)], args := [d1, d2] }
  | _ => none }
def FnClosedWrongFalsely : Prop := fnClosedRow.holds Try.pinned (OpenSpec.ofChange fnClosedWrong)

/-- 'laws.FnExactTrueSplice': WHATEVER THE INPUT: true; the input reads as it did. -/
def fnExactTrueSpliceSpec : ChangeSpec := { name := "fnExactTrueSplice", fn := fun _ => fun
  | [d1, d2, d3] => { results := [.lit (.bool true)], args := [d1, d2, d3] }
  | _ => none }
def fnExactTrueSpliceRow : OpenClaim := { program := "ytnincmnkdjlndaa", sum := "e72c660058a3d2ae1403104b7d6014905349d721096f985f4f2d674a312cdae9", func := "loop.example/g00894/laws.FnExactTrueSplice", spec := "fnExactTrueSplice", recurses := true, plainKeys := false, apart := false }
def FnExactTrueSpliceSaid : Prop := fnExactTrueSpliceRow.holds Try.pinned (OpenSpec.ofChange fnExactTrueSpliceSpec)

/-- ITS FALSE NEIGHBOUR: 'it returns false'. Refute it at one input. -/
def fnExactTrueSpliceWrong : ChangeSpec := { name := "fnExactTrueSplice", fn := fun _ => fun
  | [d1, d2, d3] => { results := [.lit (.bool false)], args := [d1, d2, d3] }
  | _ => none }
def FnExactTrueSpliceWrongFalsely : Prop := fnExactTrueSpliceRow.holds Try.pinned (OpenSpec.ofChange fnExactTrueSpliceWrong)

/-- 'laws.FnOrbits': WHATEVER THE INPUT: true; the input reads as it did. -/
def fnOrbitsSpec : ChangeSpec := { name := "fnOrbits", fn := fun _ => fun
  | [d1, d2] => { results := [.lit (.bool true)], args := [d1, d2] }
  | _ => none }
def fnOrbitsRow : OpenClaim := { program := "ytnincmnkdjlndaa", sum := "e72c660058a3d2ae1403104b7d6014905349d721096f985f4f2d674a312cdae9", func := "loop.example/g00894/laws.FnOrbits", spec := "fnOrbits", recurses := true, plainKeys := false, apart := false }
def FnOrbitsSaid : Prop := fnOrbitsRow.holds Try.pinned (OpenSpec.ofChange fnOrbitsSpec)

/-- ITS FALSE NEIGHBOUR: 'it returns false'. Refute it at one input. -/
def fnOrbitsWrong : ChangeSpec := { name := "fnOrbits", fn := fun _ => fun
  | [d1, d2] => { results := [.lit (.bool false)], args := [d1, d2] }
  | _ => none }
def FnOrbitsWrongFalsely : Prop := fnOrbitsRow.holds Try.pinned (OpenSpec.ofChange fnOrbitsWrong)

/- THE SECOND FORM. 'bulk': how many values and letters a reading holds, each counted each time it is reached (what is shared counts as often as it is met; a slice's spare places count too). A statement '..UptoSaid' is the law's where the arguments, and the package variables that the reading takes, are together of bulk at most 1048576: NARROWER than '..Said'. Prove '..Said' where nothing that the law and all that it calls make is longer than what came in: it says more and counts as full. Else prove '..UptoSaid'. A law counts once. -/
mutual
def uptoBulk {H : Type} : DataW H → Nat
  | .lit (.string bytes) => bytes.length + 1
  | .lit _ => 1
  | .nil => 1
  | .ptr d => uptoBulk d + 1
  | .slice elems spare => uptoBulkAll elems + uptoBulkAll spare + 1
  | .agg parts => uptoBulkAll parts + 1
  | .iface _ d => uptoBulk d + 1
  | .map entries => uptoBulkEntries entries + 1
  | .held _ => 1
def uptoBulkAll {H : Type} : List (DataW H) → Nat
  | [] => 0
  | d :: r => uptoBulk d + uptoBulkAll r
def uptoBulkEntries {H : Type} : List (Lit × DataW H) → Nat
  | [] => 0
  | x :: r => uptoBulkEntry x + uptoBulkEntries r
def uptoBulkEntry {H : Type} : Lit × DataW H → Nat
  | (.string bytes, d) => bytes.length + uptoBulk d + 1
  | (_, d) => uptoBulk d + 1
 end
def uptoSmall : (H : Type) → List (DataW H) → Bool := fun _ ds => decide (uptoBulkAll ds ≤ 1048576)
def OpenSpec.upto (s : _root_.Go.ChangeSpec) : _root_.Go.OpenSpec := { _root_.Go.OpenSpec.ofChange s with cond := some uptoSmall }

/-- 'laws.FnPaths', WHERE WHAT IT READS IS OF BULK AT MOST 1048576: true; the input reads as it did. -/
def fnPathsUptoRow : OpenClaim := { program := "ytnincmnkdjlndaa", sum := "e72c660058a3d2ae1403104b7d6014905349d721096f985f4f2d674a312cdae9", func := "loop.example/g00894/laws.FnPaths", spec := "fnPaths", recurses := true, plainKeys := false, apart := false, narrowed := true }
def FnPathsUptoSaid : Prop := fnPathsUptoRow.holds Try.pinned (OpenSpec.upto fnPathsSpec)

/-- 'laws.FnHalves', WHERE WHAT IT READS IS OF BULK AT MOST 1048576: true; the input reads as it did. -/
def fnHalvesUptoRow : OpenClaim := { program := "ytnincmnkdjlndaa", sum := "e72c660058a3d2ae1403104b7d6014905349d721096f985f4f2d674a312cdae9", func := "loop.example/g00894/laws.FnHalves", spec := "fnHalves", recurses := true, plainKeys := false, apart := false, narrowed := true }
def FnHalvesUptoSaid : Prop := fnHalvesUptoRow.holds Try.pinned (OpenSpec.upto fnHalvesSpec)

/-- 'laws.FnTrueLists', WHERE WHAT IT READS IS OF BULK AT MOST 1048576: true; the input reads as it did. -/
def fnTrueListsUptoRow : OpenClaim := { program := "ytnincmnkdjlndaa", sum := "e72c660058a3d2ae1403104b7d6014905349d721096f985f4f2d674a312cdae9", func := "loop.example/g00894/laws.FnTrueLists", spec := "fnTrueLists", recurses := true, plainKeys := false, apart := false, narrowed := true }
def FnTrueListsUptoSaid : Prop := fnTrueListsUptoRow.holds Try.pinned (OpenSpec.upto fnTrueListsSpec)

/-- 'laws.FnStarts', WHERE WHAT IT READS IS OF BULK AT MOST 1048576: true; the input reads as it did. -/
def fnStartsUptoRow : OpenClaim := { program := "ytnincmnkdjlndaa", sum := "e72c660058a3d2ae1403104b7d6014905349d721096f985f4f2d674a312cdae9", func := "loop.example/g00894/laws.FnStarts", spec := "fnStarts", recurses := true, plainKeys := false, apart := false, narrowed := true }
def FnStartsUptoSaid : Prop := fnStartsUptoRow.holds Try.pinned (OpenSpec.upto fnStartsSpec)

/-- 'laws.FnLevel', WHERE WHAT IT READS IS OF BULK AT MOST 1048576: true; the input reads as it did. -/
def fnLevelUptoRow : OpenClaim := { program := "ytnincmnkdjlndaa", sum := "e72c660058a3d2ae1403104b7d6014905349d721096f985f4f2d674a312cdae9", func := "loop.example/g00894/laws.FnLevel", spec := "fnLevel", recurses := true, plainKeys := false, apart := false, narrowed := true }
def FnLevelUptoSaid : Prop := fnLevelUptoRow.holds Try.pinned (OpenSpec.upto fnLevelSpec)

/-- 'laws.FnAllChanges', WHERE WHAT IT READS IS OF BULK AT MOST 1048576: true; the input reads as it did. -/
def fnAllChangesUptoRow : OpenClaim := { program := "ytnincmnkdjlndaa", sum := "e72c660058a3d2ae1403104b7d6014905349d721096f985f4f2d674a312cdae9", func := "loop.example/g00894/laws.FnAllChanges", spec := "fnAllChanges", recurses := true, plainKeys := false, apart := false, narrowed := true }
def FnAllChangesUptoSaid : Prop := fnAllChangesUptoRow.holds Try.pinned (OpenSpec.upto fnAllChangesSpec)

/-- 'laws.FnPartSets', WHERE WHAT IT READS IS OF BULK AT MOST 1048576: true; the input reads as it did. -/
def fnPartSetsUptoRow : OpenClaim := { program := "ytnincmnkdjlndaa", sum := "e72c660058a3d2ae1403104b7d6014905349d721096f985f4f2d674a312cdae9", func := "loop.example/g00894/laws.FnPartSets", spec := "fnPartSets", inPlace := ["internal/abi.NoEscape", "internal/bytealg.MakeNoZero"], recurses := true, plainKeys := false, apart := false, narrowed := true }
def FnPartSetsUptoSaid : Prop := fnPartSetsUptoRow.holds Try.pinned (OpenSpec.upto fnPartSetsSpec)

/-- 'laws.FnCosets', WHERE WHAT IT READS IS OF BULK AT MOST 1048576: true; the input reads as it did. -/
def fnCosetsUptoRow : OpenClaim := { program := "ytnincmnkdjlndaa", sum := "e72c660058a3d2ae1403104b7d6014905349d721096f985f4f2d674a312cdae9", func := "loop.example/g00894/laws.FnCosets", spec := "fnCosets", recurses := true, plainKeys := false, apart := false, narrowed := true }
def FnCosetsUptoSaid : Prop := fnCosetsUptoRow.holds Try.pinned (OpenSpec.upto fnCosetsSpec)

/-- 'laws.FnClosed', WHERE WHAT IT READS IS OF BULK AT MOST 1048576: true; the input reads as it did. -/
def fnClosedUptoRow : OpenClaim := { program := "ytnincmnkdjlndaa", sum := "e72c660058a3d2ae1403104b7d6014905349d721096f985f4f2d674a312cdae9", func := "loop.example/g00894/laws.FnClosed", spec := "fnClosed", recurses := true, plainKeys := false, apart := false, narrowed := true }
def FnClosedUptoSaid : Prop := fnClosedUptoRow.holds Try.pinned (OpenSpec.upto fnClosedSpec)

/-- 'laws.FnExactTrueSplice', WHERE WHAT IT READS IS OF BULK AT MOST 1048576: true; the input reads as it did. -/
def fnExactTrueSpliceUptoRow : OpenClaim := { program := "ytnincmnkdjlndaa", sum := "e72c660058a3d2ae1403104b7d6014905349d721096f985f4f2d674a312cdae9", func := "loop.example/g00894/laws.FnExactTrueSplice", spec := "fnExactTrueSplice", recurses := true, plainKeys := false, apart := false, narrowed := true }
def FnExactTrueSpliceUptoSaid : Prop := fnExactTrueSpliceUptoRow.holds Try.pinned (OpenSpec.upto fnExactTrueSpliceSpec)

/-- 'laws.FnOrbits', WHERE WHAT IT READS IS OF BULK AT MOST 1048576: true; the input reads as it did. -/
def fnOrbitsUptoRow : OpenClaim := { program := "ytnincmnkdjlndaa", sum := "e72c660058a3d2ae1403104b7d6014905349d721096f985f4f2d674a312cdae9", func := "loop.example/g00894/laws.FnOrbits", spec := "fnOrbits", recurses := true, plainKeys := false, apart := false, narrowed := true }
def FnOrbitsUptoSaid : Prop := fnOrbitsUptoRow.holds Try.pinned (OpenSpec.upto fnOrbitsSpec)

end Rows
end Go.Proofs.Ytnincmnkdjlndaa
