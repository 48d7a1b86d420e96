/-
  No cell of these rows narrows 'for every input' (looked for: loops, veiled, ifaces, maps, wideKeys, modest, calm, conditions, laid).
  DERIVED. THE GIVEN ROWS OF THIS SEAT. 9 by the template 'for every input the law returns true; each argument reads behind the call as it read before'; 0 by the template 'total and deterministic' (their statements: YtnhealghpfjdcaaTotals.lean).
  GIVEN WITH THE SEED: the statements are not yours to turn. If you find one false, say at which input.
  Laid BY PROGRAM, IN A SANDBOX (cutbox-rows.mjs): the forced cells as the released guide's own fill.sh prints them over the translation a23ee8801779a7d4… (all of the seat's roots in one cut). By AI agents, Wed Nov 11 2026. No macro, syntax, notation, axiom, sorry.
-/
import Derived.Test.YtnhealghpfjdcaaChecked
import GoSem.Claim
import GoSem.ClaimJoined
import GoSem.ClaimMapViews
import Derived.JoinedTies
import Derived.KernelRfl
namespace Go.Proofs.Ytnhealghpfjdcaa
/- THE CELL 'sum', in the pinned program and in every row, IS THE sha256 OF THE DUMP (.gsa) THAT YtnhealghpfjdcaaProg.lean LOADS. Nothing in Lean hashes anything: it is a label: what it is worth is what the hold of that sum in a sandbox is worth. -/
noncomputable def Try.pinned : Pinned := { name := "ytnhealghpfjdcaa", sum := "a23ee8801779a7d4a004cc71af7dc7b6ffae26b58701bd0ccaa08fde3acdf81f", checked := Try.checked }
namespace Rows
def none {H : Type} : Left H := { results := [], args := [] }

/-- 'laws.FnExactSetRow': WHATEVER THE INPUT: true; the input reads as it did. -/
def fnExactSetRowSpec : ChangeSpec := { name := "fnExactSetRow", fn := fun _ => fun
  | [d1, d2] => { results := [.lit (.bool true)], args := [d1, d2] }
  | _ => none }
def fnExactSetRowRow : OpenClaim := { program := "ytnhealghpfjdcaa", sum := "a23ee8801779a7d4a004cc71af7dc7b6ffae26b58701bd0ccaa08fde3acdf81f", func := "loop.example/g00894/laws.FnExactSetRow", spec := "fnExactSetRow", recurses := true, plainKeys := false, apart := false }
def FnExactSetRowSaid : Prop := fnExactSetRowRow.holds Try.pinned (OpenSpec.ofChange fnExactSetRowSpec)

/-- ITS FALSE NEIGHBOUR: 'it returns false'. Refute it at one input. -/
def fnExactSetRowWrong : ChangeSpec := { name := "fnExactSetRow", fn := fun _ => fun
  | [d1, d2] => { results := [.lit (.bool false)], args := [d1, d2] }
  | _ => none }
def FnExactSetRowWrongFalsely : Prop := fnExactSetRowRow.holds Try.pinned (OpenSpec.ofChange fnExactSetRowWrong)

/-- 'laws.FnExactLeadGroup': WHATEVER THE INPUT: true; the input reads as it did. -/
def fnExactLeadGroupSpec : ChangeSpec := { name := "fnExactLeadGroup", fn := fun _ => fun
  | [d1, d2] => { results := [.lit (.bool true)], args := [d1, d2] }
  | _ => none }
def fnExactLeadGroupRow : OpenClaim := { program := "ytnhealghpfjdcaa", sum := "a23ee8801779a7d4a004cc71af7dc7b6ffae26b58701bd0ccaa08fde3acdf81f", func := "loop.example/g00894/laws.FnExactLeadGroup", spec := "fnExactLeadGroup", recurses := true, plainKeys := false, apart := false }
def FnExactLeadGroupSaid : Prop := fnExactLeadGroupRow.holds Try.pinned (OpenSpec.ofChange fnExactLeadGroupSpec)

/-- ITS FALSE NEIGHBOUR: 'it returns false'. Refute it at one input. -/
def fnExactLeadGroupWrong : ChangeSpec := { name := "fnExactLeadGroup", fn := fun _ => fun
  | [d1, d2] => { results := [.lit (.bool false)], args := [d1, d2] }
  | _ => none }
def FnExactLeadGroupWrongFalsely : Prop := fnExactLeadGroupRow.holds Try.pinned (OpenSpec.ofChange fnExactLeadGroupWrong)

/-- 'laws.FnExactRepairTouch': WHATEVER THE INPUT: true; the input reads as it did. -/
def fnExactRepairTouchSpec : ChangeSpec := { name := "fnExactRepairTouch", fn := fun _ => fun
  | [d1, d2, d3, d4] => { results := [.lit (.bool true)], args := [d1, d2, d3, d4] }
  | _ => none }
def fnExactRepairTouchRow : OpenClaim := { program := "ytnhealghpfjdcaa", sum := "a23ee8801779a7d4a004cc71af7dc7b6ffae26b58701bd0ccaa08fde3acdf81f", func := "loop.example/g00894/laws.FnExactRepairTouch", spec := "fnExactRepairTouch", recurses := true, plainKeys := false, apart := false }
def FnExactRepairTouchSaid : Prop := fnExactRepairTouchRow.holds Try.pinned (OpenSpec.ofChange fnExactRepairTouchSpec)

/-- ITS FALSE NEIGHBOUR: 'it returns false'. Refute it at one input. -/
def fnExactRepairTouchWrong : ChangeSpec := { name := "fnExactRepairTouch", fn := fun _ => fun
  | [d1, d2, d3, d4] => { results := [.lit (.bool false)], args := [d1, d2, d3, d4] }
  | _ => none }
def FnExactRepairTouchWrongFalsely : Prop := fnExactRepairTouchRow.holds Try.pinned (OpenSpec.ofChange fnExactRepairTouchWrong)

/-- 'laws.FnExactRepairLayers': WHATEVER THE INPUT: true; the input reads as it did. -/
def fnExactRepairLayersSpec : ChangeSpec := { name := "fnExactRepairLayers", fn := fun _ => fun
  | [d1, d2, d3, d4] => { results := [.lit (.bool true)], args := [d1, d2, d3, d4] }
  | _ => none }
def fnExactRepairLayersRow : OpenClaim := { program := "ytnhealghpfjdcaa", sum := "a23ee8801779a7d4a004cc71af7dc7b6ffae26b58701bd0ccaa08fde3acdf81f", func := "loop.example/g00894/laws.FnExactRepairLayers", spec := "fnExactRepairLayers", recurses := true, plainKeys := false, apart := false }
def FnExactRepairLayersSaid : Prop := fnExactRepairLayersRow.holds Try.pinned (OpenSpec.ofChange fnExactRepairLayersSpec)

/-- ITS FALSE NEIGHBOUR: 'it returns false'. Refute it at one input. -/
def fnExactRepairLayersWrong : ChangeSpec := { name := "fnExactRepairLayers", fn := fun _ => fun
  | [d1, d2, d3, d4] => { results := [.lit (.bool false)], args := [d1, d2, d3, d4] }
  | _ => none }
def FnExactRepairLayersWrongFalsely : Prop := fnExactRepairLayersRow.holds Try.pinned (OpenSpec.ofChange fnExactRepairLayersWrong)

/-- 'laws.FnExactGoodBobs': WHATEVER THE INPUT: true; the input reads as it did. -/
def fnExactGoodBobsSpec : ChangeSpec := { name := "fnExactGoodBobs", fn := fun _ => fun
  | [d1, d2, d3] => { results := [.lit (.bool true)], args := [d1, d2, d3] }
  | _ => none }
def fnExactGoodBobsRow : OpenClaim := { program := "ytnhealghpfjdcaa", sum := "a23ee8801779a7d4a004cc71af7dc7b6ffae26b58701bd0ccaa08fde3acdf81f", func := "loop.example/g00894/laws.FnExactGoodBobs", spec := "fnExactGoodBobs", recurses := true, plainKeys := false, apart := false }
def FnExactGoodBobsSaid : Prop := fnExactGoodBobsRow.holds Try.pinned (OpenSpec.ofChange fnExactGoodBobsSpec)

/-- ITS FALSE NEIGHBOUR: 'it returns false'. Refute it at one input. -/
def fnExactGoodBobsWrong : ChangeSpec := { name := "fnExactGoodBobs", fn := fun _ => fun
  | [d1, d2, d3] => { results := [.lit (.bool false)], args := [d1, d2, d3] }
  | _ => none }
def FnExactGoodBobsWrongFalsely : Prop := fnExactGoodBobsRow.holds Try.pinned (OpenSpec.ofChange fnExactGoodBobsWrong)

/-- 'laws.FnExactCheckRepair': WHATEVER THE INPUT: true; the input reads as it did. -/
def fnExactCheckRepairSpec : ChangeSpec := { name := "fnExactCheckRepair", fn := fun _ => fun
  | [d1, d2, d3, d4, d5, d6] => { results := [.lit (.bool true)], args := [d1, d2, d3, d4, d5, d6] }
  | _ => none }
def fnExactCheckRepairRow : OpenClaim := { program := "ytnhealghpfjdcaa", sum := "a23ee8801779a7d4a004cc71af7dc7b6ffae26b58701bd0ccaa08fde3acdf81f", func := "loop.example/g00894/laws.FnExactCheckRepair", spec := "fnExactCheckRepair", recurses := true, plainKeys := false, apart := false }
def FnExactCheckRepairSaid : Prop := fnExactCheckRepairRow.holds Try.pinned (OpenSpec.ofChange fnExactCheckRepairSpec)

/-- ITS FALSE NEIGHBOUR: 'it returns false'. Refute it at one input. -/
def fnExactCheckRepairWrong : ChangeSpec := { name := "fnExactCheckRepair", fn := fun _ => fun
  | [d1, d2, d3, d4, d5, d6] => { results := [.lit (.bool false)], args := [d1, d2, d3, d4, d5, d6] }
  | _ => none }
def FnExactCheckRepairWrongFalsely : Prop := fnExactCheckRepairRow.holds Try.pinned (OpenSpec.ofChange fnExactCheckRepairWrong)

/-- 'laws.FnExactTrueSplice': WHATEVER THE INPUT: true; the input reads as it did. -/
def fnExactTrueSpliceSpec : ChangeSpec := { name := "fnExactTrueSplice", fn := fun _ => fun
  | [d1, d2, d3] => { results := [.lit (.bool true)], args := [d1, d2, d3] }
  | _ => none }
def fnExactTrueSpliceRow : OpenClaim := { program := "ytnhealghpfjdcaa", sum := "a23ee8801779a7d4a004cc71af7dc7b6ffae26b58701bd0ccaa08fde3acdf81f", func := "loop.example/g00894/laws.FnExactTrueSplice", spec := "fnExactTrueSplice", recurses := true, plainKeys := false, apart := false }
def FnExactTrueSpliceSaid : Prop := fnExactTrueSpliceRow.holds Try.pinned (OpenSpec.ofChange fnExactTrueSpliceSpec)

/-- ITS FALSE NEIGHBOUR: 'it returns false'. Refute it at one input. -/
def fnExactTrueSpliceWrong : ChangeSpec := { name := "fnExactTrueSplice", fn := fun _ => fun
  | [d1, d2, d3] => { results := [.lit (.bool false)], args := [d1, d2, d3] }
  | _ => none }
def FnExactTrueSpliceWrongFalsely : Prop := fnExactTrueSpliceRow.holds Try.pinned (OpenSpec.ofChange fnExactTrueSpliceWrong)

/-- 'laws.FnPaths': WHATEVER THE INPUT: true; the input reads as it did. -/
def fnPathsSpec : ChangeSpec := { name := "fnPaths", fn := fun _ => fun
  | [d1, d2] => { results := [.lit (.bool true)], args := [d1, d2] }
  | _ => none }
def fnPathsRow : OpenClaim := { program := "ytnhealghpfjdcaa", sum := "a23ee8801779a7d4a004cc71af7dc7b6ffae26b58701bd0ccaa08fde3acdf81f", func := "loop.example/g00894/laws.FnPaths", spec := "fnPaths", recurses := true, plainKeys := false, apart := false }
def FnPathsSaid : Prop := fnPathsRow.holds Try.pinned (OpenSpec.ofChange fnPathsSpec)

/-- ITS FALSE NEIGHBOUR: 'it returns false'. Refute it at one input. -/
def fnPathsWrong : ChangeSpec := { name := "fnPaths", fn := fun _ => fun
  | [d1, d2] => { results := [.lit (.bool false)], args := [d1, d2] }
  | _ => none }
def FnPathsWrongFalsely : Prop := fnPathsRow.holds Try.pinned (OpenSpec.ofChange fnPathsWrong)

/-- 'laws.FnExactSpliceRows': WHATEVER THE INPUT: true; the input reads as it did. -/
def fnExactSpliceRowsSpec : ChangeSpec := { name := "fnExactSpliceRows", fn := fun _ => fun
  | [d1, d2, d3] => { results := [.lit (.bool true)], args := [d1, d2, d3] }
  | _ => none }
def fnExactSpliceRowsRow : OpenClaim := { program := "ytnhealghpfjdcaa", sum := "a23ee8801779a7d4a004cc71af7dc7b6ffae26b58701bd0ccaa08fde3acdf81f", func := "loop.example/g00894/laws.FnExactSpliceRows", spec := "fnExactSpliceRows", plainKeys := false, apart := false }
def FnExactSpliceRowsSaid : Prop := fnExactSpliceRowsRow.holds Try.pinned (OpenSpec.ofChange fnExactSpliceRowsSpec)

/-- ITS FALSE NEIGHBOUR: 'it returns false'. Refute it at one input. -/
def fnExactSpliceRowsWrong : ChangeSpec := { name := "fnExactSpliceRows", fn := fun _ => fun
  | [d1, d2, d3] => { results := [.lit (.bool false)], args := [d1, d2, d3] }
  | _ => none }
def FnExactSpliceRowsWrongFalsely : Prop := fnExactSpliceRowsRow.holds Try.pinned (OpenSpec.ofChange fnExactSpliceRowsWrong)

/- THE SECOND FORM. 'bulk': how many values and letters a reading holds, each counted each time it is reached (what is shared counts as often as it is met; a slice's spare places count too). A statement '..UptoSaid' is the law's where the arguments, and the package variables that the reading takes, are together of bulk at most 1048576: NARROWER than '..Said'. Prove '..Said' where nothing that the law and all that it calls make is longer than what came in: it says more and counts as full. Else prove '..UptoSaid'. A law counts once. -/
mutual
def uptoBulk {H : Type} : DataW H → Nat
  | .lit (.string bytes) => bytes.length + 1
  | .lit _ => 1
  | .nil => 1
  | .ptr d => uptoBulk d + 1
  | .slice elems spare => uptoBulkAll elems + uptoBulkAll spare + 1
  | .agg parts => uptoBulkAll parts + 1
  | .iface _ d => uptoBulk d + 1
  | .map entries => uptoBulkEntries entries + 1
  | .held _ => 1
def uptoBulkAll {H : Type} : List (DataW H) → Nat
  | [] => 0
  | d :: r => uptoBulk d + uptoBulkAll r
def uptoBulkEntries {H : Type} : List (Lit × DataW H) → Nat
  | [] => 0
  | x :: r => uptoBulkEntry x + uptoBulkEntries r
def uptoBulkEntry {H : Type} : Lit × DataW H → Nat
  | (.string bytes, d) => bytes.length + uptoBulk d + 1
  | (_, d) => uptoBulk d + 1
 end
def uptoSmall : (H : Type) → List (DataW H) → Bool := fun _ ds => decide (uptoBulkAll ds ≤ 1048576)
def OpenSpec.upto (s : _root_.Go.ChangeSpec) : _root_.Go.OpenSpec := { _root_.Go.OpenSpec.ofChange s with cond := some uptoSmall }

/-- 'laws.FnExactSetRow', WHERE WHAT IT READS IS OF BULK AT MOST 1048576: true; the input reads as it did. -/
def fnExactSetRowUptoRow : OpenClaim := { program := "ytnhealghpfjdcaa", sum := "a23ee8801779a7d4a004cc71af7dc7b6ffae26b58701bd0ccaa08fde3acdf81f", func := "loop.example/g00894/laws.FnExactSetRow", spec := "fnExactSetRow", recurses := true, plainKeys := false, apart := false, narrowed := true }
def FnExactSetRowUptoSaid : Prop := fnExactSetRowUptoRow.holds Try.pinned (OpenSpec.upto fnExactSetRowSpec)

/-- 'laws.FnExactLeadGroup', WHERE WHAT IT READS IS OF BULK AT MOST 1048576: true; the input reads as it did. -/
def fnExactLeadGroupUptoRow : OpenClaim := { program := "ytnhealghpfjdcaa", sum := "a23ee8801779a7d4a004cc71af7dc7b6ffae26b58701bd0ccaa08fde3acdf81f", func := "loop.example/g00894/laws.FnExactLeadGroup", spec := "fnExactLeadGroup", recurses := true, plainKeys := false, apart := false, narrowed := true }
def FnExactLeadGroupUptoSaid : Prop := fnExactLeadGroupUptoRow.holds Try.pinned (OpenSpec.upto fnExactLeadGroupSpec)

/-- 'laws.FnExactRepairTouch', WHERE WHAT IT READS IS OF BULK AT MOST 1048576: true; the input reads as it did. -/
def fnExactRepairTouchUptoRow : OpenClaim := { program := "ytnhealghpfjdcaa", sum := "a23ee8801779a7d4a004cc71af7dc7b6ffae26b58701bd0ccaa08fde3acdf81f", func := "loop.example/g00894/laws.FnExactRepairTouch", spec := "fnExactRepairTouch", recurses := true, plainKeys := false, apart := false, narrowed := true }
def FnExactRepairTouchUptoSaid : Prop := fnExactRepairTouchUptoRow.holds Try.pinned (OpenSpec.upto fnExactRepairTouchSpec)

/-- 'laws.FnExactRepairLayers', WHERE WHAT IT READS IS OF BULK AT MOST 1048576: true; the input reads as it did. -/
def fnExactRepairLayersUptoRow : OpenClaim := { program := "ytnhealghpfjdcaa", sum := "a23ee8801779a7d4a004cc71af7dc7b6ffae26b58701bd0ccaa08fde3acdf81f", func := "loop.example/g00894/laws.FnExactRepairLayers", spec := "fnExactRepairLayers", recurses := true, plainKeys := false, apart := false, narrowed := true }
def FnExactRepairLayersUptoSaid : Prop := fnExactRepairLayersUptoRow.holds Try.pinned (OpenSpec.upto fnExactRepairLayersSpec)

/-- 'laws.FnExactGoodBobs', WHERE WHAT IT READS IS OF BULK AT MOST 1048576: true; the input reads as it did. -/
def fnExactGoodBobsUptoRow : OpenClaim := { program := "ytnhealghpfjdcaa", sum := "a23ee8801779a7d4a004cc71af7dc7b6ffae26b58701bd0ccaa08fde3acdf81f", func := "loop.example/g00894/laws.FnExactGoodBobs", spec := "fnExactGoodBobs", recurses := true, plainKeys := false, apart := false, narrowed := true }
def FnExactGoodBobsUptoSaid : Prop := fnExactGoodBobsUptoRow.holds Try.pinned (OpenSpec.upto fnExactGoodBobsSpec)

/-- 'laws.FnExactCheckRepair', WHERE WHAT IT READS IS OF BULK AT MOST 1048576: true; the input reads as it did. -/
def fnExactCheckRepairUptoRow : OpenClaim := { program := "ytnhealghpfjdcaa", sum := "a23ee8801779a7d4a004cc71af7dc7b6ffae26b58701bd0ccaa08fde3acdf81f", func := "loop.example/g00894/laws.FnExactCheckRepair", spec := "fnExactCheckRepair", recurses := true, plainKeys := false, apart := false, narrowed := true }
def FnExactCheckRepairUptoSaid : Prop := fnExactCheckRepairUptoRow.holds Try.pinned (OpenSpec.upto fnExactCheckRepairSpec)

/-- 'laws.FnExactTrueSplice', WHERE WHAT IT READS IS OF BULK AT MOST 1048576: true; the input reads as it did. -/
def fnExactTrueSpliceUptoRow : OpenClaim := { program := "ytnhealghpfjdcaa", sum := "a23ee8801779a7d4a004cc71af7dc7b6ffae26b58701bd0ccaa08fde3acdf81f", func := "loop.example/g00894/laws.FnExactTrueSplice", spec := "fnExactTrueSplice", recurses := true, plainKeys := false, apart := false, narrowed := true }
def FnExactTrueSpliceUptoSaid : Prop := fnExactTrueSpliceUptoRow.holds Try.pinned (OpenSpec.upto fnExactTrueSpliceSpec)

/-- 'laws.FnPaths', WHERE WHAT IT READS IS OF BULK AT MOST 1048576: true; the input reads as it did. -/
def fnPathsUptoRow : OpenClaim := { program := "ytnhealghpfjdcaa", sum := "a23ee8801779a7d4a004cc71af7dc7b6ffae26b58701bd0ccaa08fde3acdf81f", func := "loop.example/g00894/laws.FnPaths", spec := "fnPaths", recurses := true, plainKeys := false, apart := false, narrowed := true }
def FnPathsUptoSaid : Prop := fnPathsUptoRow.holds Try.pinned (OpenSpec.upto fnPathsSpec)

/-- 'laws.FnExactSpliceRows', WHERE WHAT IT READS IS OF BULK AT MOST 1048576: true; the input reads as it did. -/
def fnExactSpliceRowsUptoRow : OpenClaim := { program := "ytnhealghpfjdcaa", sum := "a23ee8801779a7d4a004cc71af7dc7b6ffae26b58701bd0ccaa08fde3acdf81f", func := "loop.example/g00894/laws.FnExactSpliceRows", spec := "fnExactSpliceRows", plainKeys := false, apart := false, narrowed := true }
def FnExactSpliceRowsUptoSaid : Prop := fnExactSpliceRowsUptoRow.holds Try.pinned (OpenSpec.upto fnExactSpliceRowsSpec)

end Rows
end Go.Proofs.Ytnhealghpfjdcaa
