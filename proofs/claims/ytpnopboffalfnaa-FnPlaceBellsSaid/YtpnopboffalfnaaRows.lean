/-
  No cell of these rows narrows 'for every input' (looked for: loops, veiled, ifaces, maps, wideKeys, modest, calm, conditions, laid).
  DERIVED. THE GIVEN ROWS OF THIS SEAT. 12 by the template 'for every input the law returns true; each argument reads behind the call as it read before'; 0 by the template 'total and deterministic' (their statements: YtpnopboffalfnaaTotals.lean).
  GIVEN WITH THE SEED: the statements are not yours to turn. If you find one false, say at which input.
  Laid BY PROGRAM, IN A SANDBOX (cutbox-rows.mjs): the forced cells as the released guide's own fill.sh prints them over the translation 56261b64b60d1350… (all of the seat's roots in one cut). By AI agents, Wed Nov 11 2026. No macro, syntax, notation, axiom, sorry.
-/
import Derived.Test.YtpnopboffalfnaaChecked
import GoSem.Claim
import GoSem.ClaimJoined
import GoSem.ClaimMapViews
import Derived.JoinedTies
import Derived.KernelRfl
namespace Go.Proofs.Ytpnopboffalfnaa
/- THE CELL 'sum', in the pinned program and in every row, IS THE sha256 OF THE DUMP (.gsa) THAT YtpnopboffalfnaaProg.lean LOADS. Nothing in Lean hashes anything: it is a label: what it is worth is what the hold of that sum in a sandbox is worth. -/
noncomputable def Try.pinned : Pinned := { name := "ytpnopboffalfnaa", sum := "56261b64b60d1350838eb7695dbe9b296f5badd1b170f6ba1ea85c81aad2b6f5", checked := Try.checked }
namespace Rows
def none {H : Type} : Left H := { results := [], args := [] }

/-- 'laws.FnExactSpliceRows': WHATEVER THE INPUT: true; the input reads as it did. -/
def fnExactSpliceRowsSpec : ChangeSpec := { name := "fnExactSpliceRows", fn := fun _ => fun
  | [d1, d2, d3] => { results := [.lit (.bool true)], args := [d1, d2, d3] }
  | _ => none }
def fnExactSpliceRowsRow : OpenClaim := { program := "ytpnopboffalfnaa", sum := "56261b64b60d1350838eb7695dbe9b296f5badd1b170f6ba1ea85c81aad2b6f5", func := "loop.example/g00894/laws.FnExactSpliceRows", spec := "fnExactSpliceRows", apart := false }
def FnExactSpliceRowsSaid : Prop := fnExactSpliceRowsRow.holds Try.pinned (OpenSpec.ofChange fnExactSpliceRowsSpec)

/-- ITS FALSE NEIGHBOUR: 'it returns false'. Refute it at one input. -/
def fnExactSpliceRowsWrong : ChangeSpec := { name := "fnExactSpliceRows", fn := fun _ => fun
  | [d1, d2, d3] => { results := [.lit (.bool false)], args := [d1, d2, d3] }
  | _ => none }
def FnExactSpliceRowsWrongFalsely : Prop := fnExactSpliceRowsRow.holds Try.pinned (OpenSpec.ofChange fnExactSpliceRowsWrong)

/-- 'laws.FnBackwards': WHATEVER THE INPUT: true; the input reads as it did. -/
def fnBackwardsSpec : ChangeSpec := { name := "fnBackwards", fn := fun _ => fun
  | [d1, d2] => { results := [.lit (.bool true)], args := [d1, d2] }
  | _ => none }
def fnBackwardsRow : OpenClaim := { program := "ytpnopboffalfnaa", sum := "56261b64b60d1350838eb7695dbe9b296f5badd1b170f6ba1ea85c81aad2b6f5", func := "loop.example/g00894/laws.FnBackwards", spec := "fnBackwards", recurses := true, apart := false }
def FnBackwardsSaid : Prop := fnBackwardsRow.holds Try.pinned (OpenSpec.ofChange fnBackwardsSpec)

/-- ITS FALSE NEIGHBOUR: 'it returns false'. Refute it at one input. -/
def fnBackwardsWrong : ChangeSpec := { name := "fnBackwards", fn := fun _ => fun
  | [d1, d2] => { results := [.lit (.bool false)], args := [d1, d2] }
  | _ => none }
def FnBackwardsWrongFalsely : Prop := fnBackwardsRow.holds Try.pinned (OpenSpec.ofChange fnBackwardsWrong)

/-- 'laws.FnStarts': WHATEVER THE INPUT: true; the input reads as it did. -/
def fnStartsSpec : ChangeSpec := { name := "fnStarts", fn := fun _ => fun
  | [d1, d2] => { results := [.lit (.bool true)], args := [d1, d2] }
  | _ => none }
def fnStartsRow : OpenClaim := { program := "ytpnopboffalfnaa", sum := "56261b64b60d1350838eb7695dbe9b296f5badd1b170f6ba1ea85c81aad2b6f5", func := "loop.example/g00894/laws.FnStarts", spec := "fnStarts", recurses := true, apart := false }
def FnStartsSaid : Prop := fnStartsRow.holds Try.pinned (OpenSpec.ofChange fnStartsSpec)

/-- ITS FALSE NEIGHBOUR: 'it returns false'. Refute it at one input. -/
def fnStartsWrong : ChangeSpec := { name := "fnStarts", fn := fun _ => fun
  | [d1, d2] => { results := [.lit (.bool false)], args := [d1, d2] }
  | _ => none }
def FnStartsWrongFalsely : Prop := fnStartsRow.holds Try.pinned (OpenSpec.ofChange fnStartsWrong)

/-- 'laws.FnExactScoreLeads': WHATEVER THE INPUT: true; the input reads as it did. -/
def fnExactScoreLeadsSpec : ChangeSpec := { name := "fnExactScoreLeads", fn := fun _ => fun
  | [d1, d2, d3, d4] => { results := [.lit (.bool true)], args := [d1, d2, d3, d4] }
  | _ => none }
def fnExactScoreLeadsRow : OpenClaim := { program := "ytpnopboffalfnaa", sum := "56261b64b60d1350838eb7695dbe9b296f5badd1b170f6ba1ea85c81aad2b6f5", func := "loop.example/g00894/laws.FnExactScoreLeads", spec := "fnExactScoreLeads", recurses := true, apart := false }
def FnExactScoreLeadsSaid : Prop := fnExactScoreLeadsRow.holds Try.pinned (OpenSpec.ofChange fnExactScoreLeadsSpec)

/-- ITS FALSE NEIGHBOUR: 'it returns false'. Refute it at one input. -/
def fnExactScoreLeadsWrong : ChangeSpec := { name := "fnExactScoreLeads", fn := fun _ => fun
  | [d1, d2, d3, d4] => { results := [.lit (.bool false)], args := [d1, d2, d3, d4] }
  | _ => none }
def FnExactScoreLeadsWrongFalsely : Prop := fnExactScoreLeadsRow.holds Try.pinned (OpenSpec.ofChange fnExactScoreLeadsWrong)

/-- 'laws.FnPlaceBells': WHATEVER THE INPUT: true; the input reads as it did. -/
def fnPlaceBellsSpec : ChangeSpec := { name := "fnPlaceBells", fn := fun _ => fun
  | [d1, d2] => { results := [.lit (.bool true)], args := [d1, d2] }
  | _ => none }
def fnPlaceBellsRow : OpenClaim := { program := "ytpnopboffalfnaa", sum := "56261b64b60d1350838eb7695dbe9b296f5badd1b170f6ba1ea85c81aad2b6f5", func := "loop.example/g00894/laws.FnPlaceBells", spec := "fnPlaceBells", recurses := true, apart := false }
def FnPlaceBellsSaid : Prop := fnPlaceBellsRow.holds Try.pinned (OpenSpec.ofChange fnPlaceBellsSpec)

/-- ITS FALSE NEIGHBOUR: 'it returns false'. Refute it at one input. -/
def fnPlaceBellsWrong : ChangeSpec := { name := "fnPlaceBells", fn := fun _ => fun
  | [d1, d2] => { results := [.lit (.bool false)], args := [d1, d2] }
  | _ => none }
def FnPlaceBellsWrongFalsely : Prop := fnPlaceBellsRow.holds Try.pinned (OpenSpec.ofChange fnPlaceBellsWrong)

/-- 'laws.FnTouch': WHATEVER THE INPUT: true; the input reads as it did. -/
def fnTouchSpec : ChangeSpec := { name := "fnTouch", fn := fun _ => fun
  | [d1, d2] => { results := [.lit (.bool true)], args := [d1, d2] }
  | _ => none }
def fnTouchRow : OpenClaim := { program := "ytpnopboffalfnaa", sum := "56261b64b60d1350838eb7695dbe9b296f5badd1b170f6ba1ea85c81aad2b6f5", func := "loop.example/g00894/laws.FnTouch", spec := "fnTouch", recurses := true, apart := false }
def FnTouchSaid : Prop := fnTouchRow.holds Try.pinned (OpenSpec.ofChange fnTouchSpec)

/-- ITS FALSE NEIGHBOUR: 'it returns false'. Refute it at one input. -/
def fnTouchWrong : ChangeSpec := { name := "fnTouch", fn := fun _ => fun
  | [d1, d2] => { results := [.lit (.bool false)], args := [d1, d2] }
  | _ => none }
def FnTouchWrongFalsely : Prop := fnTouchRow.holds Try.pinned (OpenSpec.ofChange fnTouchWrong)

/-- 'laws.FnPaths': WHATEVER THE INPUT: true; the input reads as it did. -/
def fnPathsSpec : ChangeSpec := { name := "fnPaths", fn := fun _ => fun
  | [d1, d2] => { results := [.lit (.bool true)], args := [d1, d2] }
  | _ => none }
def fnPathsRow : OpenClaim := { program := "ytpnopboffalfnaa", sum := "56261b64b60d1350838eb7695dbe9b296f5badd1b170f6ba1ea85c81aad2b6f5", func := "loop.example/g00894/laws.FnPaths", spec := "fnPaths", recurses := true, apart := false }
def FnPathsSaid : Prop := fnPathsRow.holds Try.pinned (OpenSpec.ofChange fnPathsSpec)

/-- ITS FALSE NEIGHBOUR: 'it returns false'. Refute it at one input. -/
def fnPathsWrong : ChangeSpec := { name := "fnPaths", fn := fun _ => fun
  | [d1, d2] => { results := [.lit (.bool false)], args := [d1, d2] }
  | _ => none }
def FnPathsWrongFalsely : Prop := fnPathsRow.holds Try.pinned (OpenSpec.ofChange fnPathsWrong)

/-- 'laws.FnTurned': WHATEVER THE INPUT: true; the input reads as it did. -/
def fnTurnedSpec : ChangeSpec := { name := "fnTurned", fn := fun _ => fun
  | [d1, d2] => { results := [.lit (.bool true)], args := [d1, d2] }
  | _ => none }
def fnTurnedRow : OpenClaim := { program := "ytpnopboffalfnaa", sum := "56261b64b60d1350838eb7695dbe9b296f5badd1b170f6ba1ea85c81aad2b6f5", func := "loop.example/g00894/laws.FnTurned", spec := "fnTurned", recurses := true, apart := false }
def FnTurnedSaid : Prop := fnTurnedRow.holds Try.pinned (OpenSpec.ofChange fnTurnedSpec)

/-- ITS FALSE NEIGHBOUR: 'it returns false'. Refute it at one input. -/
def fnTurnedWrong : ChangeSpec := { name := "fnTurned", fn := fun _ => fun
  | [d1, d2] => { results := [.lit (.bool false)], args := [d1, d2] }
  | _ => none }
def FnTurnedWrongFalsely : Prop := fnTurnedRow.holds Try.pinned (OpenSpec.ofChange fnTurnedWrong)

/-- 'laws.FnLeads': WHATEVER THE INPUT: true; the input reads as it did. -/
def fnLeadsSpec : ChangeSpec := { name := "fnLeads", fn := fun _ => fun
  | [d1, d2] => { results := [.lit (.bool true)], args := [d1, d2] }
  | _ => none }
def fnLeadsRow : OpenClaim := { program := "ytpnopboffalfnaa", sum := "56261b64b60d1350838eb7695dbe9b296f5badd1b170f6ba1ea85c81aad2b6f5", func := "loop.example/g00894/laws.FnLeads", spec := "fnLeads", recurses := true, apart := false }
def FnLeadsSaid : Prop := fnLeadsRow.holds Try.pinned (OpenSpec.ofChange fnLeadsSpec)

/-- ITS FALSE NEIGHBOUR: 'it returns false'. Refute it at one input. -/
def fnLeadsWrong : ChangeSpec := { name := "fnLeads", fn := fun _ => fun
  | [d1, d2] => { results := [.lit (.bool false)], args := [d1, d2] }
  | _ => none }
def FnLeadsWrongFalsely : Prop := fnLeadsRow.holds Try.pinned (OpenSpec.ofChange fnLeadsWrong)

/-- 'laws.FnCalls': WHATEVER THE INPUT: true; the input reads as it did. -/
def fnCallsSpec : ChangeSpec := { name := "fnCalls", fn := fun _ => fun
  | [d1, d2] => { results := [.lit (.bool true)], args := [d1, d2] }
  | _ => none }
def fnCallsRow : OpenClaim := { program := "ytpnopboffalfnaa", sum := "56261b64b60d1350838eb7695dbe9b296f5badd1b170f6ba1ea85c81aad2b6f5", func := "loop.example/g00894/laws.FnCalls", spec := "fnCalls", recurses := true, apart := false }
def FnCallsSaid : Prop := fnCallsRow.holds Try.pinned (OpenSpec.ofChange fnCallsSpec)

/-- ITS FALSE NEIGHBOUR: 'it returns false'. Refute it at one input. -/
def fnCallsWrong : ChangeSpec := { name := "fnCalls", fn := fun _ => fun
  | [d1, d2] => { results := [.lit (.bool false)], args := [d1, d2] }
  | _ => none }
def FnCallsWrongFalsely : Prop := fnCallsRow.holds Try.pinned (OpenSpec.ofChange fnCallsWrong)

/-- 'laws.FnConduct': WHATEVER THE INPUT: true; the input reads as it did. -/
def fnConductSpec : ChangeSpec := { name := "fnConduct", fn := fun _ => fun
  | [d1, d2] => { results := [.lit (.bool true)], args := [d1, d2] }
  | _ => none }
def fnConductRow : OpenClaim := { program := "ytpnopboffalfnaa", sum := "56261b64b60d1350838eb7695dbe9b296f5badd1b170f6ba1ea85c81aad2b6f5", func := "loop.example/g00894/laws.FnConduct", spec := "fnConduct", recurses := true, apart := false }
def FnConductSaid : Prop := fnConductRow.holds Try.pinned (OpenSpec.ofChange fnConductSpec)

/-- ITS FALSE NEIGHBOUR: 'it returns false'. Refute it at one input. -/
def fnConductWrong : ChangeSpec := { name := "fnConduct", fn := fun _ => fun
  | [d1, d2] => { results := [.lit (.bool false)], args := [d1, d2] }
  | _ => none }
def FnConductWrongFalsely : Prop := fnConductRow.holds Try.pinned (OpenSpec.ofChange fnConductWrong)

/-- 'laws.FnMusic': WHATEVER THE INPUT: true; the input reads as it did. -/
def fnMusicSpec : ChangeSpec := { name := "fnMusic", fn := fun _ => fun
  | [d1, d2] => { results := [.lit (.bool true)], args := [d1, d2] }
  | _ => none }
def fnMusicRow : OpenClaim := { program := "ytpnopboffalfnaa", sum := "56261b64b60d1350838eb7695dbe9b296f5badd1b170f6ba1ea85c81aad2b6f5", func := "loop.example/g00894/laws.FnMusic", spec := "fnMusic", recurses := true, apart := false }
def FnMusicSaid : Prop := fnMusicRow.holds Try.pinned (OpenSpec.ofChange fnMusicSpec)

/-- ITS FALSE NEIGHBOUR: 'it returns false'. Refute it at one input. -/
def fnMusicWrong : ChangeSpec := { name := "fnMusic", fn := fun _ => fun
  | [d1, d2] => { results := [.lit (.bool false)], args := [d1, d2] }
  | _ => none }
def FnMusicWrongFalsely : Prop := fnMusicRow.holds Try.pinned (OpenSpec.ofChange fnMusicWrong)

/- THE SECOND FORM. 'bulk': how many values and letters a reading holds, each counted each time it is reached (what is shared counts as often as it is met; a slice's spare places count too). A statement '..UptoSaid' is the law's where the arguments, and the package variables that the reading takes, are together of bulk at most 1048576: NARROWER than '..Said'. Prove '..Said' where nothing that the law and all that it calls make is longer than what came in: it says more and counts as full. Else prove '..UptoSaid'. A law counts once. -/
mutual
def uptoBulk {H : Type} : DataW H → Nat
  | .lit (.string bytes) => bytes.length + 1
  | .lit _ => 1
  | .nil => 1
  | .ptr d => uptoBulk d + 1
  | .slice elems spare => uptoBulkAll elems + uptoBulkAll spare + 1
  | .agg parts => uptoBulkAll parts + 1
  | .iface _ d => uptoBulk d + 1
  | .map entries => uptoBulkEntries entries + 1
  | .held _ => 1
def uptoBulkAll {H : Type} : List (DataW H) → Nat
  | [] => 0
  | d :: r => uptoBulk d + uptoBulkAll r
def uptoBulkEntries {H : Type} : List (Lit × DataW H) → Nat
  | [] => 0
  | x :: r => uptoBulkEntry x + uptoBulkEntries r
def uptoBulkEntry {H : Type} : Lit × DataW H → Nat
  | (.string bytes, d) => bytes.length + uptoBulk d + 1
  | (_, d) => uptoBulk d + 1
 end
def uptoSmall : (H : Type) → List (DataW H) → Bool := fun _ ds => decide (uptoBulkAll ds ≤ 1048576)
def OpenSpec.upto (s : _root_.Go.ChangeSpec) : _root_.Go.OpenSpec := { _root_.Go.OpenSpec.ofChange s with cond := some uptoSmall }

/-- 'laws.FnExactSpliceRows', WHERE WHAT IT READS IS OF BULK AT MOST 1048576: true; the input reads as it did. -/
def fnExactSpliceRowsUptoRow : OpenClaim := { program := "ytpnopboffalfnaa", sum := "56261b64b60d1350838eb7695dbe9b296f5badd1b170f6ba1ea85c81aad2b6f5", func := "loop.example/g00894/laws.FnExactSpliceRows", spec := "fnExactSpliceRows", apart := false, narrowed := true }
def FnExactSpliceRowsUptoSaid : Prop := fnExactSpliceRowsUptoRow.holds Try.pinned (OpenSpec.upto fnExactSpliceRowsSpec)

/-- 'laws.FnBackwards', WHERE WHAT IT READS IS OF BULK AT MOST 1048576: true; the input reads as it did. -/
def fnBackwardsUptoRow : OpenClaim := { program := "ytpnopboffalfnaa", sum := "56261b64b60d1350838eb7695dbe9b296f5badd1b170f6ba1ea85c81aad2b6f5", func := "loop.example/g00894/laws.FnBackwards", spec := "fnBackwards", recurses := true, apart := false, narrowed := true }
def FnBackwardsUptoSaid : Prop := fnBackwardsUptoRow.holds Try.pinned (OpenSpec.upto fnBackwardsSpec)

/-- 'laws.FnStarts', WHERE WHAT IT READS IS OF BULK AT MOST 1048576: true; the input reads as it did. -/
def fnStartsUptoRow : OpenClaim := { program := "ytpnopboffalfnaa", sum := "56261b64b60d1350838eb7695dbe9b296f5badd1b170f6ba1ea85c81aad2b6f5", func := "loop.example/g00894/laws.FnStarts", spec := "fnStarts", recurses := true, apart := false, narrowed := true }
def FnStartsUptoSaid : Prop := fnStartsUptoRow.holds Try.pinned (OpenSpec.upto fnStartsSpec)

/-- 'laws.FnExactScoreLeads', WHERE WHAT IT READS IS OF BULK AT MOST 1048576: true; the input reads as it did. -/
def fnExactScoreLeadsUptoRow : OpenClaim := { program := "ytpnopboffalfnaa", sum := "56261b64b60d1350838eb7695dbe9b296f5badd1b170f6ba1ea85c81aad2b6f5", func := "loop.example/g00894/laws.FnExactScoreLeads", spec := "fnExactScoreLeads", recurses := true, apart := false, narrowed := true }
def FnExactScoreLeadsUptoSaid : Prop := fnExactScoreLeadsUptoRow.holds Try.pinned (OpenSpec.upto fnExactScoreLeadsSpec)

/-- 'laws.FnPlaceBells', WHERE WHAT IT READS IS OF BULK AT MOST 1048576: true; the input reads as it did. -/
def fnPlaceBellsUptoRow : OpenClaim := { program := "ytpnopboffalfnaa", sum := "56261b64b60d1350838eb7695dbe9b296f5badd1b170f6ba1ea85c81aad2b6f5", func := "loop.example/g00894/laws.FnPlaceBells", spec := "fnPlaceBells", recurses := true, apart := false, narrowed := true }
def FnPlaceBellsUptoSaid : Prop := fnPlaceBellsUptoRow.holds Try.pinned (OpenSpec.upto fnPlaceBellsSpec)

/-- 'laws.FnTouch', WHERE WHAT IT READS IS OF BULK AT MOST 1048576: true; the input reads as it did. -/
def fnTouchUptoRow : OpenClaim := { program := "ytpnopboffalfnaa", sum := "56261b64b60d1350838eb7695dbe9b296f5badd1b170f6ba1ea85c81aad2b6f5", func := "loop.example/g00894/laws.FnTouch", spec := "fnTouch", recurses := true, apart := false, narrowed := true }
def FnTouchUptoSaid : Prop := fnTouchUptoRow.holds Try.pinned (OpenSpec.upto fnTouchSpec)

/-- 'laws.FnPaths', WHERE WHAT IT READS IS OF BULK AT MOST 1048576: true; the input reads as it did. -/
def fnPathsUptoRow : OpenClaim := { program := "ytpnopboffalfnaa", sum := "56261b64b60d1350838eb7695dbe9b296f5badd1b170f6ba1ea85c81aad2b6f5", func := "loop.example/g00894/laws.FnPaths", spec := "fnPaths", recurses := true, apart := false, narrowed := true }
def FnPathsUptoSaid : Prop := fnPathsUptoRow.holds Try.pinned (OpenSpec.upto fnPathsSpec)

/-- 'laws.FnTurned', WHERE WHAT IT READS IS OF BULK AT MOST 1048576: true; the input reads as it did. -/
def fnTurnedUptoRow : OpenClaim := { program := "ytpnopboffalfnaa", sum := "56261b64b60d1350838eb7695dbe9b296f5badd1b170f6ba1ea85c81aad2b6f5", func := "loop.example/g00894/laws.FnTurned", spec := "fnTurned", recurses := true, apart := false, narrowed := true }
def FnTurnedUptoSaid : Prop := fnTurnedUptoRow.holds Try.pinned (OpenSpec.upto fnTurnedSpec)

/-- 'laws.FnLeads', WHERE WHAT IT READS IS OF BULK AT MOST 1048576: true; the input reads as it did. -/
def fnLeadsUptoRow : OpenClaim := { program := "ytpnopboffalfnaa", sum := "56261b64b60d1350838eb7695dbe9b296f5badd1b170f6ba1ea85c81aad2b6f5", func := "loop.example/g00894/laws.FnLeads", spec := "fnLeads", recurses := true, apart := false, narrowed := true }
def FnLeadsUptoSaid : Prop := fnLeadsUptoRow.holds Try.pinned (OpenSpec.upto fnLeadsSpec)

/-- 'laws.FnCalls', WHERE WHAT IT READS IS OF BULK AT MOST 1048576: true; the input reads as it did. -/
def fnCallsUptoRow : OpenClaim := { program := "ytpnopboffalfnaa", sum := "56261b64b60d1350838eb7695dbe9b296f5badd1b170f6ba1ea85c81aad2b6f5", func := "loop.example/g00894/laws.FnCalls", spec := "fnCalls", recurses := true, apart := false, narrowed := true }
def FnCallsUptoSaid : Prop := fnCallsUptoRow.holds Try.pinned (OpenSpec.upto fnCallsSpec)

/-- 'laws.FnConduct', WHERE WHAT IT READS IS OF BULK AT MOST 1048576: true; the input reads as it did. -/
def fnConductUptoRow : OpenClaim := { program := "ytpnopboffalfnaa", sum := "56261b64b60d1350838eb7695dbe9b296f5badd1b170f6ba1ea85c81aad2b6f5", func := "loop.example/g00894/laws.FnConduct", spec := "fnConduct", recurses := true, apart := false, narrowed := true }
def FnConductUptoSaid : Prop := fnConductUptoRow.holds Try.pinned (OpenSpec.upto fnConductSpec)

/-- 'laws.FnMusic', WHERE WHAT IT READS IS OF BULK AT MOST 1048576: true; the input reads as it did. -/
def fnMusicUptoRow : OpenClaim := { program := "ytpnopboffalfnaa", sum := "56261b64b60d1350838eb7695dbe9b296f5badd1b170f6ba1ea85c81aad2b6f5", func := "loop.example/g00894/laws.FnMusic", spec := "fnMusic", recurses := true, apart := false, narrowed := true }
def FnMusicUptoSaid : Prop := fnMusicUptoRow.holds Try.pinned (OpenSpec.upto fnMusicSpec)

end Rows
end Go.Proofs.Ytpnopboffalfnaa
