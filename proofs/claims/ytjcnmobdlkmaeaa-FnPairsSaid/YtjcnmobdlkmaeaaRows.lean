/-
  No cell of these rows narrows 'for every input' (looked for: loops, veiled, ifaces, maps, wideKeys, modest, calm, conditions, laid).
  DERIVED. THE GIVEN ROWS OF THIS SEAT. 12 by the template 'for every input the law returns true; each argument reads behind the call as it read before'; 0 by the template 'total and deterministic' (their statements: YtjcnmobdlkmaeaaTotals.lean).
  GIVEN WITH THE SEED: the statements are not yours to turn. If you find one false, say at which input.
  Laid BY PROGRAM, IN A SANDBOX (cutbox-rows.mjs): the forced cells as the released guide's own fill.sh prints them over the translation 670b5a6b134f0f73… (all of the seat's roots in one cut). By AI agents, Wed Nov 11 2026. No macro, syntax, notation, axiom, sorry.
-/
import Derived.Test.YtjcnmobdlkmaeaaChecked
import GoSem.Claim
import GoSem.ClaimJoined
import GoSem.ClaimMapViews
import Derived.JoinedTies
import Derived.KernelRfl
namespace Go.Proofs.Ytjcnmobdlkmaeaa
/- THE CELL 'sum', in the pinned program and in every row, IS THE sha256 OF THE DUMP (.gsa) THAT YtjcnmobdlkmaeaaProg.lean LOADS. Nothing in Lean hashes anything: it is a label: what it is worth is what the hold of that sum in a sandbox is worth. -/
noncomputable def Try.pinned : Pinned := { name := "ytjcnmobdlkmaeaa", sum := "670b5a6b134f0f73f1dfc08afbcfe81e0e376f963b1265eb0fcd71a8a0838d3f", checked := Try.checked }
namespace Rows
def none {H : Type} : Left H := { results := [], args := [] }

/-- 'laws.FnPairs': WHATEVER THE INPUT: true; the input reads as it did. -/
def fnPairsSpec : ChangeSpec := { name := "fnPairs", fn := fun _ => fun
  | [d1, d2] => { results := [.lit (.bool true)], args := [d1, d2] }
  | _ => none }
def fnPairsRow : OpenClaim := { program := "ytjcnmobdlkmaeaa", sum := "670b5a6b134f0f73f1dfc08afbcfe81e0e376f963b1265eb0fcd71a8a0838d3f", func := "loop.example/g00894/laws.FnPairs", spec := "fnPairs", recurses := true, apart := false }
def FnPairsSaid : Prop := fnPairsRow.holds Try.pinned (OpenSpec.ofChange fnPairsSpec)

/-- ITS FALSE NEIGHBOUR: 'it returns false'. Refute it at one input. -/
def fnPairsWrong : ChangeSpec := { name := "fnPairs", fn := fun _ => fun
  | [d1, d2] => { results := [.lit (.bool false)], args := [d1, d2] }
  | _ => none }
def FnPairsWrongFalsely : Prop := fnPairsRow.holds Try.pinned (OpenSpec.ofChange fnPairsWrong)

/-- 'laws.FnExactSpliceRows': WHATEVER THE INPUT: true; the input reads as it did. -/
def fnExactSpliceRowsSpec : ChangeSpec := { name := "fnExactSpliceRows", fn := fun _ => fun
  | [d1, d2, d3] => { results := [.lit (.bool true)], args := [d1, d2, d3] }
  | _ => none }
def fnExactSpliceRowsRow : OpenClaim := { program := "ytjcnmobdlkmaeaa", sum := "670b5a6b134f0f73f1dfc08afbcfe81e0e376f963b1265eb0fcd71a8a0838d3f", func := "loop.example/g00894/laws.FnExactSpliceRows", spec := "fnExactSpliceRows", apart := false }
def FnExactSpliceRowsSaid : Prop := fnExactSpliceRowsRow.holds Try.pinned (OpenSpec.ofChange fnExactSpliceRowsSpec)

/-- ITS FALSE NEIGHBOUR: 'it returns false'. Refute it at one input. -/
def fnExactSpliceRowsWrong : ChangeSpec := { name := "fnExactSpliceRows", fn := fun _ => fun
  | [d1, d2, d3] => { results := [.lit (.bool false)], args := [d1, d2, d3] }
  | _ => none }
def FnExactSpliceRowsWrongFalsely : Prop := fnExactSpliceRowsRow.holds Try.pinned (OpenSpec.ofChange fnExactSpliceRowsWrong)

/-- 'laws.FnExactConductLine': WHATEVER THE INPUT: true; the input reads as it did. -/
def fnExactConductLineSpec : ChangeSpec := { name := "fnExactConductLine", fn := fun _ => fun
  | [d1, d2, d3] => { results := [.lit (.bool true)], args := [d1, d2, d3] }
  | _ => none }
def fnExactConductLineRow : OpenClaim := { program := "ytjcnmobdlkmaeaa", sum := "670b5a6b134f0f73f1dfc08afbcfe81e0e376f963b1265eb0fcd71a8a0838d3f", func := "loop.example/g00894/laws.FnExactConductLine", spec := "fnExactConductLine", apart := false }
def FnExactConductLineSaid : Prop := fnExactConductLineRow.holds Try.pinned (OpenSpec.ofChange fnExactConductLineSpec)

/-- ITS FALSE NEIGHBOUR: 'it returns false'. Refute it at one input. -/
def fnExactConductLineWrong : ChangeSpec := { name := "fnExactConductLine", fn := fun _ => fun
  | [d1, d2, d3] => { results := [.lit (.bool false)], args := [d1, d2, d3] }
  | _ => none }
def FnExactConductLineWrongFalsely : Prop := fnExactConductLineRow.holds Try.pinned (OpenSpec.ofChange fnExactConductLineWrong)

/-- 'laws.FnStill': WHATEVER THE INPUT: true; the input reads as it did. -/
def fnStillSpec : ChangeSpec := { name := "fnStill", fn := fun _ => fun
  | [d1, d2] => { results := [.lit (.bool true)], args := [d1, d2] }
  | _ => none }
def fnStillRow : OpenClaim := { program := "ytjcnmobdlkmaeaa", sum := "670b5a6b134f0f73f1dfc08afbcfe81e0e376f963b1265eb0fcd71a8a0838d3f", func := "loop.example/g00894/laws.FnStill", spec := "fnStill", unfollowed := true, recurses := true, apart := false }
def FnStillSaid : Prop := fnStillRow.holds Try.pinned (OpenSpec.ofChange fnStillSpec)

/-- ITS FALSE NEIGHBOUR: 'it returns false'. Refute it at one input. -/
def fnStillWrong : ChangeSpec := { name := "fnStill", fn := fun _ => fun
  | [d1, d2] => { results := [.lit (.bool false)], args := [d1, d2] }
  | _ => none }
def FnStillWrongFalsely : Prop := fnStillRow.holds Try.pinned (OpenSpec.ofChange fnStillWrong)

/-- 'laws.FnBackwards': WHATEVER THE INPUT: true; the input reads as it did. -/
def fnBackwardsSpec : ChangeSpec := { name := "fnBackwards", fn := fun _ => fun
  | [d1, d2] => { results := [.lit (.bool true)], args := [d1, d2] }
  | _ => none }
def fnBackwardsRow : OpenClaim := { program := "ytjcnmobdlkmaeaa", sum := "670b5a6b134f0f73f1dfc08afbcfe81e0e376f963b1265eb0fcd71a8a0838d3f", func := "loop.example/g00894/laws.FnBackwards", spec := "fnBackwards", recurses := true, apart := false }
def FnBackwardsSaid : Prop := fnBackwardsRow.holds Try.pinned (OpenSpec.ofChange fnBackwardsSpec)

/-- ITS FALSE NEIGHBOUR: 'it returns false'. Refute it at one input. -/
def fnBackwardsWrong : ChangeSpec := { name := "fnBackwards", fn := fun _ => fun
  | [d1, d2] => { results := [.lit (.bool false)], args := [d1, d2] }
  | _ => none }
def FnBackwardsWrongFalsely : Prop := fnBackwardsRow.holds Try.pinned (OpenSpec.ofChange fnBackwardsWrong)

/-- 'laws.FnStarts': WHATEVER THE INPUT: true; the input reads as it did. -/
def fnStartsSpec : ChangeSpec := { name := "fnStarts", fn := fun _ => fun
  | [d1, d2] => { results := [.lit (.bool true)], args := [d1, d2] }
  | _ => none }
def fnStartsRow : OpenClaim := { program := "ytjcnmobdlkmaeaa", sum := "670b5a6b134f0f73f1dfc08afbcfe81e0e376f963b1265eb0fcd71a8a0838d3f", func := "loop.example/g00894/laws.FnStarts", spec := "fnStarts", recurses := true, apart := false }
def FnStartsSaid : Prop := fnStartsRow.holds Try.pinned (OpenSpec.ofChange fnStartsSpec)

/-- ITS FALSE NEIGHBOUR: 'it returns false'. Refute it at one input. -/
def fnStartsWrong : ChangeSpec := { name := "fnStarts", fn := fun _ => fun
  | [d1, d2] => { results := [.lit (.bool false)], args := [d1, d2] }
  | _ => none }
def FnStartsWrongFalsely : Prop := fnStartsRow.holds Try.pinned (OpenSpec.ofChange fnStartsWrong)

/-- 'laws.FnExactScoreLeads': WHATEVER THE INPUT: true; the input reads as it did. -/
def fnExactScoreLeadsSpec : ChangeSpec := { name := "fnExactScoreLeads", fn := fun _ => fun
  | [d1, d2, d3, d4] => { results := [.lit (.bool true)], args := [d1, d2, d3, d4] }
  | _ => none }
def fnExactScoreLeadsRow : OpenClaim := { program := "ytjcnmobdlkmaeaa", sum := "670b5a6b134f0f73f1dfc08afbcfe81e0e376f963b1265eb0fcd71a8a0838d3f", func := "loop.example/g00894/laws.FnExactScoreLeads", spec := "fnExactScoreLeads", recurses := true, apart := false }
def FnExactScoreLeadsSaid : Prop := fnExactScoreLeadsRow.holds Try.pinned (OpenSpec.ofChange fnExactScoreLeadsSpec)

/-- ITS FALSE NEIGHBOUR: 'it returns false'. Refute it at one input. -/
def fnExactScoreLeadsWrong : ChangeSpec := { name := "fnExactScoreLeads", fn := fun _ => fun
  | [d1, d2, d3, d4] => { results := [.lit (.bool false)], args := [d1, d2, d3, d4] }
  | _ => none }
def FnExactScoreLeadsWrongFalsely : Prop := fnExactScoreLeadsRow.holds Try.pinned (OpenSpec.ofChange fnExactScoreLeadsWrong)

/-- 'laws.FnPlaceBells': WHATEVER THE INPUT: true; the input reads as it did. -/
def fnPlaceBellsSpec : ChangeSpec := { name := "fnPlaceBells", fn := fun _ => fun
  | [d1, d2] => { results := [.lit (.bool true)], args := [d1, d2] }
  | _ => none }
def fnPlaceBellsRow : OpenClaim := { program := "ytjcnmobdlkmaeaa", sum := "670b5a6b134f0f73f1dfc08afbcfe81e0e376f963b1265eb0fcd71a8a0838d3f", func := "loop.example/g00894/laws.FnPlaceBells", spec := "fnPlaceBells", recurses := true, apart := false }
def FnPlaceBellsSaid : Prop := fnPlaceBellsRow.holds Try.pinned (OpenSpec.ofChange fnPlaceBellsSpec)

/-- ITS FALSE NEIGHBOUR: 'it returns false'. Refute it at one input. -/
def fnPlaceBellsWrong : ChangeSpec := { name := "fnPlaceBells", fn := fun _ => fun
  | [d1, d2] => { results := [.lit (.bool false)], args := [d1, d2] }
  | _ => none }
def FnPlaceBellsWrongFalsely : Prop := fnPlaceBellsRow.holds Try.pinned (OpenSpec.ofChange fnPlaceBellsWrong)

/-- 'laws.FnTouch': WHATEVER THE INPUT: true; the input reads as it did. -/
def fnTouchSpec : ChangeSpec := { name := "fnTouch", fn := fun _ => fun
  | [d1, d2] => { results := [.lit (.bool true)], args := [d1, d2] }
  | _ => none }
def fnTouchRow : OpenClaim := { program := "ytjcnmobdlkmaeaa", sum := "670b5a6b134f0f73f1dfc08afbcfe81e0e376f963b1265eb0fcd71a8a0838d3f", func := "loop.example/g00894/laws.FnTouch", spec := "fnTouch", recurses := true, apart := false }
def FnTouchSaid : Prop := fnTouchRow.holds Try.pinned (OpenSpec.ofChange fnTouchSpec)

/-- ITS FALSE NEIGHBOUR: 'it returns false'. Refute it at one input. -/
def fnTouchWrong : ChangeSpec := { name := "fnTouch", fn := fun _ => fun
  | [d1, d2] => { results := [.lit (.bool false)], args := [d1, d2] }
  | _ => none }
def FnTouchWrongFalsely : Prop := fnTouchRow.holds Try.pinned (OpenSpec.ofChange fnTouchWrong)

/-- 'laws.FnCourse': WHATEVER THE INPUT: true; the input reads as it did. -/
def fnCourseSpec : ChangeSpec := { name := "fnCourse", fn := fun _ => fun
  | [d1, d2] => { results := [.lit (.bool true)], args := [d1, d2] }
  | _ => none }
def fnCourseRow : OpenClaim := { program := "ytjcnmobdlkmaeaa", sum := "670b5a6b134f0f73f1dfc08afbcfe81e0e376f963b1265eb0fcd71a8a0838d3f", func := "loop.example/g00894/laws.FnCourse", spec := "fnCourse", recurses := true, apart := false }
def FnCourseSaid : Prop := fnCourseRow.holds Try.pinned (OpenSpec.ofChange fnCourseSpec)

/-- ITS FALSE NEIGHBOUR: 'it returns false'. Refute it at one input. -/
def fnCourseWrong : ChangeSpec := { name := "fnCourse", fn := fun _ => fun
  | [d1, d2] => { results := [.lit (.bool false)], args := [d1, d2] }
  | _ => none }
def FnCourseWrongFalsely : Prop := fnCourseRow.holds Try.pinned (OpenSpec.ofChange fnCourseWrong)

/-- 'laws.FnPaths': WHATEVER THE INPUT: true; the input reads as it did. -/
def fnPathsSpec : ChangeSpec := { name := "fnPaths", fn := fun _ => fun
  | [d1, d2] => { results := [.lit (.bool true)], args := [d1, d2] }
  | _ => none }
def fnPathsRow : OpenClaim := { program := "ytjcnmobdlkmaeaa", sum := "670b5a6b134f0f73f1dfc08afbcfe81e0e376f963b1265eb0fcd71a8a0838d3f", func := "loop.example/g00894/laws.FnPaths", spec := "fnPaths", recurses := true, apart := false }
def FnPathsSaid : Prop := fnPathsRow.holds Try.pinned (OpenSpec.ofChange fnPathsSpec)

/-- ITS FALSE NEIGHBOUR: 'it returns false'. Refute it at one input. -/
def fnPathsWrong : ChangeSpec := { name := "fnPaths", fn := fun _ => fun
  | [d1, d2] => { results := [.lit (.bool false)], args := [d1, d2] }
  | _ => none }
def FnPathsWrongFalsely : Prop := fnPathsRow.holds Try.pinned (OpenSpec.ofChange fnPathsWrong)

/-- 'laws.FnTurned': WHATEVER THE INPUT: true; the input reads as it did. -/
def fnTurnedSpec : ChangeSpec := { name := "fnTurned", fn := fun _ => fun
  | [d1, d2] => { results := [.lit (.bool true)], args := [d1, d2] }
  | _ => none }
def fnTurnedRow : OpenClaim := { program := "ytjcnmobdlkmaeaa", sum := "670b5a6b134f0f73f1dfc08afbcfe81e0e376f963b1265eb0fcd71a8a0838d3f", func := "loop.example/g00894/laws.FnTurned", spec := "fnTurned", recurses := true, apart := false }
def FnTurnedSaid : Prop := fnTurnedRow.holds Try.pinned (OpenSpec.ofChange fnTurnedSpec)

/-- ITS FALSE NEIGHBOUR: 'it returns false'. Refute it at one input. -/
def fnTurnedWrong : ChangeSpec := { name := "fnTurned", fn := fun _ => fun
  | [d1, d2] => { results := [.lit (.bool false)], args := [d1, d2] }
  | _ => none }
def FnTurnedWrongFalsely : Prop := fnTurnedRow.holds Try.pinned (OpenSpec.ofChange fnTurnedWrong)

/- THE SECOND FORM. 'bulk': how many values and letters a reading holds, each counted each time it is reached (what is shared counts as often as it is met; a slice's spare places count too). A statement '..UptoSaid' is the law's where the arguments, and the package variables that the reading takes, are together of bulk at most 1048576: NARROWER than '..Said'. Prove '..Said' where nothing that the law and all that it calls make is longer than what came in: it says more and counts as full. Else prove '..UptoSaid'. A law counts once. -/
mutual
def uptoBulk {H : Type} : DataW H → Nat
  | .lit (.string bytes) => bytes.length + 1
  | .lit _ => 1
  | .nil => 1
  | .ptr d => uptoBulk d + 1
  | .slice elems spare => uptoBulkAll elems + uptoBulkAll spare + 1
  | .agg parts => uptoBulkAll parts + 1
  | .iface _ d => uptoBulk d + 1
  | .map entries => uptoBulkEntries entries + 1
  | .held _ => 1
def uptoBulkAll {H : Type} : List (DataW H) → Nat
  | [] => 0
  | d :: r => uptoBulk d + uptoBulkAll r
def uptoBulkEntries {H : Type} : List (Lit × DataW H) → Nat
  | [] => 0
  | x :: r => uptoBulkEntry x + uptoBulkEntries r
def uptoBulkEntry {H : Type} : Lit × DataW H → Nat
  | (.string bytes, d) => bytes.length + uptoBulk d + 1
  | (_, d) => uptoBulk d + 1
 end
def uptoSmall : (H : Type) → List (DataW H) → Bool := fun _ ds => decide (uptoBulkAll ds ≤ 1048576)
def OpenSpec.upto (s : _root_.Go.ChangeSpec) : _root_.Go.OpenSpec := { _root_.Go.OpenSpec.ofChange s with cond := some uptoSmall }

/-- 'laws.FnPairs', WHERE WHAT IT READS IS OF BULK AT MOST 1048576: true; the input reads as it did. -/
def fnPairsUptoRow : OpenClaim := { program := "ytjcnmobdlkmaeaa", sum := "670b5a6b134f0f73f1dfc08afbcfe81e0e376f963b1265eb0fcd71a8a0838d3f", func := "loop.example/g00894/laws.FnPairs", spec := "fnPairs", recurses := true, apart := false, narrowed := true }
def FnPairsUptoSaid : Prop := fnPairsUptoRow.holds Try.pinned (OpenSpec.upto fnPairsSpec)

/-- 'laws.FnExactSpliceRows', WHERE WHAT IT READS IS OF BULK AT MOST 1048576: true; the input reads as it did. -/
def fnExactSpliceRowsUptoRow : OpenClaim := { program := "ytjcnmobdlkmaeaa", sum := "670b5a6b134f0f73f1dfc08afbcfe81e0e376f963b1265eb0fcd71a8a0838d3f", func := "loop.example/g00894/laws.FnExactSpliceRows", spec := "fnExactSpliceRows", apart := false, narrowed := true }
def FnExactSpliceRowsUptoSaid : Prop := fnExactSpliceRowsUptoRow.holds Try.pinned (OpenSpec.upto fnExactSpliceRowsSpec)

/-- 'laws.FnExactConductLine', WHERE WHAT IT READS IS OF BULK AT MOST 1048576: true; the input reads as it did. -/
def fnExactConductLineUptoRow : OpenClaim := { program := "ytjcnmobdlkmaeaa", sum := "670b5a6b134f0f73f1dfc08afbcfe81e0e376f963b1265eb0fcd71a8a0838d3f", func := "loop.example/g00894/laws.FnExactConductLine", spec := "fnExactConductLine", apart := false, narrowed := true }
def FnExactConductLineUptoSaid : Prop := fnExactConductLineUptoRow.holds Try.pinned (OpenSpec.upto fnExactConductLineSpec)

/-- 'laws.FnStill', WHERE WHAT IT READS IS OF BULK AT MOST 1048576: true; the input reads as it did. -/
def fnStillUptoRow : OpenClaim := { program := "ytjcnmobdlkmaeaa", sum := "670b5a6b134f0f73f1dfc08afbcfe81e0e376f963b1265eb0fcd71a8a0838d3f", func := "loop.example/g00894/laws.FnStill", spec := "fnStill", unfollowed := true, recurses := true, apart := false, narrowed := true }
def FnStillUptoSaid : Prop := fnStillUptoRow.holds Try.pinned (OpenSpec.upto fnStillSpec)

/-- 'laws.FnBackwards', WHERE WHAT IT READS IS OF BULK AT MOST 1048576: true; the input reads as it did. -/
def fnBackwardsUptoRow : OpenClaim := { program := "ytjcnmobdlkmaeaa", sum := "670b5a6b134f0f73f1dfc08afbcfe81e0e376f963b1265eb0fcd71a8a0838d3f", func := "loop.example/g00894/laws.FnBackwards", spec := "fnBackwards", recurses := true, apart := false, narrowed := true }
def FnBackwardsUptoSaid : Prop := fnBackwardsUptoRow.holds Try.pinned (OpenSpec.upto fnBackwardsSpec)

/-- 'laws.FnStarts', WHERE WHAT IT READS IS OF BULK AT MOST 1048576: true; the input reads as it did. -/
def fnStartsUptoRow : OpenClaim := { program := "ytjcnmobdlkmaeaa", sum := "670b5a6b134f0f73f1dfc08afbcfe81e0e376f963b1265eb0fcd71a8a0838d3f", func := "loop.example/g00894/laws.FnStarts", spec := "fnStarts", recurses := true, apart := false, narrowed := true }
def FnStartsUptoSaid : Prop := fnStartsUptoRow.holds Try.pinned (OpenSpec.upto fnStartsSpec)

/-- 'laws.FnExactScoreLeads', WHERE WHAT IT READS IS OF BULK AT MOST 1048576: true; the input reads as it did. -/
def fnExactScoreLeadsUptoRow : OpenClaim := { program := "ytjcnmobdlkmaeaa", sum := "670b5a6b134f0f73f1dfc08afbcfe81e0e376f963b1265eb0fcd71a8a0838d3f", func := "loop.example/g00894/laws.FnExactScoreLeads", spec := "fnExactScoreLeads", recurses := true, apart := false, narrowed := true }
def FnExactScoreLeadsUptoSaid : Prop := fnExactScoreLeadsUptoRow.holds Try.pinned (OpenSpec.upto fnExactScoreLeadsSpec)

/-- 'laws.FnPlaceBells', WHERE WHAT IT READS IS OF BULK AT MOST 1048576: true; the input reads as it did. -/
def fnPlaceBellsUptoRow : OpenClaim := { program := "ytjcnmobdlkmaeaa", sum := "670b5a6b134f0f73f1dfc08afbcfe81e0e376f963b1265eb0fcd71a8a0838d3f", func := "loop.example/g00894/laws.FnPlaceBells", spec := "fnPlaceBells", recurses := true, apart := false, narrowed := true }
def FnPlaceBellsUptoSaid : Prop := fnPlaceBellsUptoRow.holds Try.pinned (OpenSpec.upto fnPlaceBellsSpec)

/-- 'laws.FnTouch', WHERE WHAT IT READS IS OF BULK AT MOST 1048576: true; the input reads as it did. -/
def fnTouchUptoRow : OpenClaim := { program := "ytjcnmobdlkmaeaa", sum := "670b5a6b134f0f73f1dfc08afbcfe81e0e376f963b1265eb0fcd71a8a0838d3f", func := "loop.example/g00894/laws.FnTouch", spec := "fnTouch", recurses := true, apart := false, narrowed := true }
def FnTouchUptoSaid : Prop := fnTouchUptoRow.holds Try.pinned (OpenSpec.upto fnTouchSpec)

/-- 'laws.FnCourse', WHERE WHAT IT READS IS OF BULK AT MOST 1048576: true; the input reads as it did. -/
def fnCourseUptoRow : OpenClaim := { program := "ytjcnmobdlkmaeaa", sum := "670b5a6b134f0f73f1dfc08afbcfe81e0e376f963b1265eb0fcd71a8a0838d3f", func := "loop.example/g00894/laws.FnCourse", spec := "fnCourse", recurses := true, apart := false, narrowed := true }
def FnCourseUptoSaid : Prop := fnCourseUptoRow.holds Try.pinned (OpenSpec.upto fnCourseSpec)

/-- 'laws.FnPaths', WHERE WHAT IT READS IS OF BULK AT MOST 1048576: true; the input reads as it did. -/
def fnPathsUptoRow : OpenClaim := { program := "ytjcnmobdlkmaeaa", sum := "670b5a6b134f0f73f1dfc08afbcfe81e0e376f963b1265eb0fcd71a8a0838d3f", func := "loop.example/g00894/laws.FnPaths", spec := "fnPaths", recurses := true, apart := false, narrowed := true }
def FnPathsUptoSaid : Prop := fnPathsUptoRow.holds Try.pinned (OpenSpec.upto fnPathsSpec)

/-- 'laws.FnTurned', WHERE WHAT IT READS IS OF BULK AT MOST 1048576: true; the input reads as it did. -/
def fnTurnedUptoRow : OpenClaim := { program := "ytjcnmobdlkmaeaa", sum := "670b5a6b134f0f73f1dfc08afbcfe81e0e376f963b1265eb0fcd71a8a0838d3f", func := "loop.example/g00894/laws.FnTurned", spec := "fnTurned", recurses := true, apart := false, narrowed := true }
def FnTurnedUptoSaid : Prop := fnTurnedUptoRow.holds Try.pinned (OpenSpec.upto fnTurnedSpec)

end Rows
end Go.Proofs.Ytjcnmobdlkmaeaa
