/-
  No cell of these rows narrows 'for every input' (looked for: loops, veiled, ifaces, maps, wideKeys, modest, calm, conditions, laid).
  DERIVED. THE GIVEN ROWS OF THIS SEAT. 12 by the template 'for every input the law returns true; each argument reads behind the call as it read before'; 0 by the template 'total and deterministic' (their statements: YtnocgihggdgkeaaTotals.lean).
  GIVEN WITH THE SEED: the statements are not yours to turn. If you find one false, say at which input.
  Laid BY PROGRAM, IN A SANDBOX (cutbox-rows.mjs): the forced cells as the released guide's own fill.sh prints them over the translation 6df9e96d46706149… (all of the seat's roots in one cut). By AI agents, Wed Nov 11 2026. No macro, syntax, notation, axiom, sorry.
-/
import Derived.Test.YtnocgihggdgkeaaChecked
import GoSem.Claim
import GoSem.ClaimJoined
import GoSem.ClaimMapViews
import Derived.JoinedTies
import Derived.KernelRfl
namespace Go.Proofs.Ytnocgihggdgkeaa
/- THE CELL 'sum', in the pinned program and in every row, IS THE sha256 OF THE DUMP (.gsa) THAT YtnocgihggdgkeaaProg.lean LOADS. Nothing in Lean hashes anything: it is a label: what it is worth is what the hold of that sum in a sandbox is worth. -/
noncomputable def Try.pinned : Pinned := { name := "ytnocgihggdgkeaa", sum := "6df9e96d46706149bb1aec6f57c83002db4e0be20abe1aecba059ed8b75d6401", checked := Try.checked }
namespace Rows
def none {H : Type} : Left H := { results := [], args := [] }

/-- 'laws.FnExactRowsThatFit': WHATEVER THE INPUT: true; the input reads as it did. -/
def fnExactRowsThatFitSpec : ChangeSpec := { name := "fnExactRowsThatFit", fn := fun _ => fun
  | [d1, d2] => { results := [.lit (.bool true)], args := [d1, d2] }
  | _ => none }
def fnExactRowsThatFitRow : OpenClaim := { program := "ytnocgihggdgkeaa", sum := "6df9e96d46706149bb1aec6f57c83002db4e0be20abe1aecba059ed8b75d6401", func := "loop.example/g00894/laws.FnExactRowsThatFit", spec := "fnExactRowsThatFit", recurses := true, apart := false }
def FnExactRowsThatFitSaid : Prop := fnExactRowsThatFitRow.holds Try.pinned (OpenSpec.ofChange fnExactRowsThatFitSpec)

/-- ITS FALSE NEIGHBOUR: 'it returns false'. Refute it at one input. -/
def fnExactRowsThatFitWrong : ChangeSpec := { name := "fnExactRowsThatFit", fn := fun _ => fun
  | [d1, d2] => { results := [.lit (.bool false)], args := [d1, d2] }
  | _ => none }
def FnExactRowsThatFitWrongFalsely : Prop := fnExactRowsThatFitRow.holds Try.pinned (OpenSpec.ofChange fnExactRowsThatFitWrong)

/-- 'laws.FnProducts': WHATEVER THE INPUT: true; the input reads as it did. -/
def fnProductsSpec : ChangeSpec := { name := "fnProducts", fn := fun _ => fun
  | [d1, d2] => { results := [.lit (.bool true)], args := [d1, d2] }
  | _ => none }
def fnProductsRow : OpenClaim := { program := "ytnocgihggdgkeaa", sum := "6df9e96d46706149bb1aec6f57c83002db4e0be20abe1aecba059ed8b75d6401", func := "loop.example/g00894/laws.FnProducts", spec := "fnProducts", apart := false }
def FnProductsSaid : Prop := fnProductsRow.holds Try.pinned (OpenSpec.ofChange fnProductsSpec)

/-- ITS FALSE NEIGHBOUR: 'it returns false'. Refute it at one input. -/
def fnProductsWrong : ChangeSpec := { name := "fnProducts", fn := fun _ => fun
  | [d1, d2] => { results := [.lit (.bool false)], args := [d1, d2] }
  | _ => none }
def FnProductsWrongFalsely : Prop := fnProductsRow.holds Try.pinned (OpenSpec.ofChange fnProductsWrong)

/-- 'laws.FnPowers': WHATEVER THE INPUT: true; the input reads as it did. -/
def fnPowersSpec : ChangeSpec := { name := "fnPowers", fn := fun _ => fun
  | [d1, d2] => { results := [.lit (.bool true)], args := [d1, d2] }
  | _ => none }
def fnPowersRow : OpenClaim := { program := "ytnocgihggdgkeaa", sum := "6df9e96d46706149bb1aec6f57c83002db4e0be20abe1aecba059ed8b75d6401", func := "loop.example/g00894/laws.FnPowers", spec := "fnPowers", apart := false }
def FnPowersSaid : Prop := fnPowersRow.holds Try.pinned (OpenSpec.ofChange fnPowersSpec)

/-- ITS FALSE NEIGHBOUR: 'it returns false'. Refute it at one input. -/
def fnPowersWrong : ChangeSpec := { name := "fnPowers", fn := fun _ => fun
  | [d1, d2] => { results := [.lit (.bool false)], args := [d1, d2] }
  | _ => none }
def FnPowersWrongFalsely : Prop := fnPowersRow.holds Try.pinned (OpenSpec.ofChange fnPowersWrong)

/-- 'laws.FnCycles': WHATEVER THE INPUT: true; the input reads as it did. -/
def fnCyclesSpec : ChangeSpec := { name := "fnCycles", fn := fun _ => fun
  | [d1, d2] => { results := [.lit (.bool true)], args := [d1, d2] }
  | _ => none }
def fnCyclesRow : OpenClaim := { program := "ytnocgihggdgkeaa", sum := "6df9e96d46706149bb1aec6f57c83002db4e0be20abe1aecba059ed8b75d6401", func := "loop.example/g00894/laws.FnCycles", spec := "fnCycles", apart := false }
def FnCyclesSaid : Prop := fnCyclesRow.holds Try.pinned (OpenSpec.ofChange fnCyclesSpec)

/-- ITS FALSE NEIGHBOUR: 'it returns false'. Refute it at one input. -/
def fnCyclesWrong : ChangeSpec := { name := "fnCycles", fn := fun _ => fun
  | [d1, d2] => { results := [.lit (.bool false)], args := [d1, d2] }
  | _ => none }
def FnCyclesWrongFalsely : Prop := fnCyclesRow.holds Try.pinned (OpenSpec.ofChange fnCyclesWrong)

/-- 'laws.FnExactIsRegular': WHATEVER THE INPUT: true; the input reads as it did. -/
def fnExactIsRegularSpec : ChangeSpec := { name := "fnExactIsRegular", fn := fun _ => fun
  | [d] => { results := [.lit (.bool true)], args := [d] }
  | _ => none }
def fnExactIsRegularRow : OpenClaim := { program := "ytnocgihggdgkeaa", sum := "6df9e96d46706149bb1aec6f57c83002db4e0be20abe1aecba059ed8b75d6401", func := "loop.example/g00894/laws.FnExactIsRegular", spec := "fnExactIsRegular", apart := false }
def FnExactIsRegularSaid : Prop := fnExactIsRegularRow.holds Try.pinned (OpenSpec.ofChange fnExactIsRegularSpec)

/-- ITS FALSE NEIGHBOUR: 'it returns false'. Refute it at one input. -/
def fnExactIsRegularWrong : ChangeSpec := { name := "fnExactIsRegular", fn := fun _ => fun
  | [d] => { results := [.lit (.bool false)], args := [d] }
  | _ => none }
def FnExactIsRegularWrongFalsely : Prop := fnExactIsRegularRow.holds Try.pinned (OpenSpec.ofChange fnExactIsRegularWrong)

/-- 'laws.FnExactTurnOf': WHATEVER THE INPUT: true; the input reads as it did. -/
def fnExactTurnOfSpec : ChangeSpec := { name := "fnExactTurnOf", fn := fun _ => fun
  | [d] => { results := [.lit (.bool true)], args := [d] }
  | _ => none }
def fnExactTurnOfRow : OpenClaim := { program := "ytnocgihggdgkeaa", sum := "6df9e96d46706149bb1aec6f57c83002db4e0be20abe1aecba059ed8b75d6401", func := "loop.example/g00894/laws.FnExactTurnOf", spec := "fnExactTurnOf", apart := false }
def FnExactTurnOfSaid : Prop := fnExactTurnOfRow.holds Try.pinned (OpenSpec.ofChange fnExactTurnOfSpec)

/-- ITS FALSE NEIGHBOUR: 'it returns false'. Refute it at one input. -/
def fnExactTurnOfWrong : ChangeSpec := { name := "fnExactTurnOf", fn := fun _ => fun
  | [d] => { results := [.lit (.bool false)], args := [d] }
  | _ => none }
def FnExactTurnOfWrongFalsely : Prop := fnExactTurnOfRow.holds Try.pinned (OpenSpec.ofChange fnExactTurnOfWrong)

/-- 'laws.FnExactIsWords': WHATEVER THE INPUT: true; the input reads as it did. -/
def fnExactIsWordsSpec : ChangeSpec := { name := "fnExactIsWords", fn := fun _ => fun
  | [d] => { results := [.lit (.bool true)], args := [d] }
  | _ => none }
def fnExactIsWordsRow : OpenClaim := { program := "ytnocgihggdgkeaa", sum := "6df9e96d46706149bb1aec6f57c83002db4e0be20abe1aecba059ed8b75d6401", func := "loop.example/g00894/laws.FnExactIsWords", spec := "fnExactIsWords", inPlace := ["internal/abi.NoEscape", "internal/bytealg.MakeNoZero"], recurses := true, apart := false }
def FnExactIsWordsSaid : Prop := fnExactIsWordsRow.holds Try.pinned (OpenSpec.ofChange fnExactIsWordsSpec)

/-- ITS FALSE NEIGHBOUR: 'it returns false'. Refute it at one input. -/
def fnExactIsWordsWrong : ChangeSpec := { name := "fnExactIsWords", fn := fun _ => fun
  | [d] => { results := [.lit (.bool false)], args := [d] }
  | _ => none }
def FnExactIsWordsWrongFalsely : Prop := fnExactIsWordsRow.holds Try.pinned (OpenSpec.ofChange fnExactIsWordsWrong)

/-- 'laws.FnExactDepthOf': WHATEVER THE INPUT: true; the input reads as it did. -/
def fnExactDepthOfSpec : ChangeSpec := { name := "fnExactDepthOf", fn := fun _ => fun
  | [d] => { results := [.lit (.bool true)], args := [d] }
  | _ => none }
def fnExactDepthOfRow : OpenClaim := { program := "ytnocgihggdgkeaa", sum := "6df9e96d46706149bb1aec6f57c83002db4e0be20abe1aecba059ed8b75d6401", func := "loop.example/g00894/laws.FnExactDepthOf", spec := "fnExactDepthOf", inPlace := ["internal/abi.NoEscape", "internal/bytealg.MakeNoZero"], recurses := true, apart := false }
def FnExactDepthOfSaid : Prop := fnExactDepthOfRow.holds Try.pinned (OpenSpec.ofChange fnExactDepthOfSpec)

/-- ITS FALSE NEIGHBOUR: 'it returns false'. Refute it at one input. -/
def fnExactDepthOfWrong : ChangeSpec := { name := "fnExactDepthOf", fn := fun _ => fun
  | [d] => { results := [.lit (.bool false)], args := [d] }
  | _ => none }
def FnExactDepthOfWrongFalsely : Prop := fnExactDepthOfRow.holds Try.pinned (OpenSpec.ofChange fnExactDepthOfWrong)

/-- 'laws.FnFits': WHATEVER THE INPUT: true; the input reads as it did. -/
def fnFitsSpec : ChangeSpec := { name := "fnFits", fn := fun _ => fun
  | [d1, d2] => { results := [.lit (.bool true)], args := [d1, d2] }
  | _ => none }
def fnFitsRow : OpenClaim := { program := "ytnocgihggdgkeaa", sum := "6df9e96d46706149bb1aec6f57c83002db4e0be20abe1aecba059ed8b75d6401", func := "loop.example/g00894/laws.FnFits", spec := "fnFits", recurses := true, apart := false }
def FnFitsSaid : Prop := fnFitsRow.holds Try.pinned (OpenSpec.ofChange fnFitsSpec)

/-- ITS FALSE NEIGHBOUR: 'it returns false'. Refute it at one input. -/
def fnFitsWrong : ChangeSpec := { name := "fnFits", fn := fun _ => fun
  | [d1, d2] => { results := [.lit (.bool false)], args := [d1, d2] }
  | _ => none }
def FnFitsWrongFalsely : Prop := fnFitsRow.holds Try.pinned (OpenSpec.ofChange fnFitsWrong)

/-- 'laws.FnExactCompileWords': WHATEVER THE INPUT: true; the input reads as it did. -/
def fnExactCompileWordsSpec : ChangeSpec := { name := "fnExactCompileWords", fn := fun _ => fun
  | [d] => { results := [.lit (.bool true)], args := [d] }
  | _ => none }
def fnExactCompileWordsRow : OpenClaim := { program := "ytnocgihggdgkeaa", sum := "6df9e96d46706149bb1aec6f57c83002db4e0be20abe1aecba059ed8b75d6401", func := "loop.example/g00894/laws.FnExactCompileWords", spec := "fnExactCompileWords", inPlace := ["internal/abi.NoEscape", "internal/bytealg.MakeNoZero"], recurses := true, apart := false }
def FnExactCompileWordsSaid : Prop := fnExactCompileWordsRow.holds Try.pinned (OpenSpec.ofChange fnExactCompileWordsSpec)

/-- ITS FALSE NEIGHBOUR: 'it returns false'. Refute it at one input. -/
def fnExactCompileWordsWrong : ChangeSpec := { name := "fnExactCompileWords", fn := fun _ => fun
  | [d] => { results := [.lit (.bool false)], args := [d] }
  | _ => none }
def FnExactCompileWordsWrongFalsely : Prop := fnExactCompileWordsRow.holds Try.pinned (OpenSpec.ofChange fnExactCompileWordsWrong)

/-- 'laws.FnExactNamesIn': WHATEVER THE INPUT: true; the input reads as it did. -/
def fnExactNamesInSpec : ChangeSpec := { name := "fnExactNamesIn", fn := fun _ => fun
  | [d] => { results := [.lit (.bool true)], args := [d] }
  | _ => none }
def fnExactNamesInRow : OpenClaim := { program := "ytnocgihggdgkeaa", sum := "6df9e96d46706149bb1aec6f57c83002db4e0be20abe1aecba059ed8b75d6401", func := "loop.example/g00894/laws.FnExactNamesIn", spec := "fnExactNamesIn", inPlace := ["internal/abi.NoEscape", "internal/bytealg.MakeNoZero"], recurses := true, apart := false }
def FnExactNamesInSaid : Prop := fnExactNamesInRow.holds Try.pinned (OpenSpec.ofChange fnExactNamesInSpec)

/-- ITS FALSE NEIGHBOUR: 'it returns false'. Refute it at one input. -/
def fnExactNamesInWrong : ChangeSpec := { name := "fnExactNamesIn", fn := fun _ => fun
  | [d] => { results := [.lit (.bool false)], args := [d] }
  | _ => none }
def FnExactNamesInWrongFalsely : Prop := fnExactNamesInRow.holds Try.pinned (OpenSpec.ofChange fnExactNamesInWrong)

/-- 'laws.FnExactCallMoves': WHATEVER THE INPUT: true; the input reads as it did. -/
def fnExactCallMovesSpec : ChangeSpec := { name := "fnExactCallMoves", fn := fun _ => fun
  | [d1, d2, d3] => { results := [.lit (.bool true)], args := [d1, d2, d3] }
  | _ => none }
def fnExactCallMovesRow : OpenClaim := { program := "ytnocgihggdgkeaa", sum := "6df9e96d46706149bb1aec6f57c83002db4e0be20abe1aecba059ed8b75d6401", func := "loop.example/g00894/laws.FnExactCallMoves", spec := "fnExactCallMoves", apart := false }
def FnExactCallMovesSaid : Prop := fnExactCallMovesRow.holds Try.pinned (OpenSpec.ofChange fnExactCallMovesSpec)

/-- ITS FALSE NEIGHBOUR: 'it returns false'. Refute it at one input. -/
def fnExactCallMovesWrong : ChangeSpec := { name := "fnExactCallMoves", fn := fun _ => fun
  | [d1, d2, d3] => { results := [.lit (.bool false)], args := [d1, d2, d3] }
  | _ => none }
def FnExactCallMovesWrongFalsely : Prop := fnExactCallMovesRow.holds Try.pinned (OpenSpec.ofChange fnExactCallMovesWrong)

/- THE SECOND FORM. 'bulk': how many values and letters a reading holds, each counted each time it is reached (what is shared counts as often as it is met; a slice's spare places count too). A statement '..UptoSaid' is the law's where the arguments, and the package variables that the reading takes, are together of bulk at most 1048576: NARROWER than '..Said'. Prove '..Said' where nothing that the law and all that it calls make is longer than what came in: it says more and counts as full. Else prove '..UptoSaid'. A law counts once. -/
mutual
def uptoBulk {H : Type} : DataW H → Nat
  | .lit (.string bytes) => bytes.length + 1
  | .lit _ => 1
  | .nil => 1
  | .ptr d => uptoBulk d + 1
  | .slice elems spare => uptoBulkAll elems + uptoBulkAll spare + 1
  | .agg parts => uptoBulkAll parts + 1
  | .iface _ d => uptoBulk d + 1
  | .map entries => uptoBulkEntries entries + 1
  | .held _ => 1
def uptoBulkAll {H : Type} : List (DataW H) → Nat
  | [] => 0
  | d :: r => uptoBulk d + uptoBulkAll r
def uptoBulkEntries {H : Type} : List (Lit × DataW H) → Nat
  | [] => 0
  | x :: r => uptoBulkEntry x + uptoBulkEntries r
def uptoBulkEntry {H : Type} : Lit × DataW H → Nat
  | (.string bytes, d) => bytes.length + uptoBulk d + 1
  | (_, d) => uptoBulk d + 1
 end
def uptoSmall : (H : Type) → List (DataW H) → Bool := fun _ ds => decide (uptoBulkAll ds ≤ 1048576)
def OpenSpec.upto (s : _root_.Go.ChangeSpec) : _root_.Go.OpenSpec := { _root_.Go.OpenSpec.ofChange s with cond := some uptoSmall }

/-- 'laws.FnExactRowsThatFit', WHERE WHAT IT READS IS OF BULK AT MOST 1048576: true; the input reads as it did. -/
def fnExactRowsThatFitUptoRow : OpenClaim := { program := "ytnocgihggdgkeaa", sum := "6df9e96d46706149bb1aec6f57c83002db4e0be20abe1aecba059ed8b75d6401", func := "loop.example/g00894/laws.FnExactRowsThatFit", spec := "fnExactRowsThatFit", recurses := true, apart := false, narrowed := true }
def FnExactRowsThatFitUptoSaid : Prop := fnExactRowsThatFitUptoRow.holds Try.pinned (OpenSpec.upto fnExactRowsThatFitSpec)

/-- 'laws.FnProducts', WHERE WHAT IT READS IS OF BULK AT MOST 1048576: true; the input reads as it did. -/
def fnProductsUptoRow : OpenClaim := { program := "ytnocgihggdgkeaa", sum := "6df9e96d46706149bb1aec6f57c83002db4e0be20abe1aecba059ed8b75d6401", func := "loop.example/g00894/laws.FnProducts", spec := "fnProducts", apart := false, narrowed := true }
def FnProductsUptoSaid : Prop := fnProductsUptoRow.holds Try.pinned (OpenSpec.upto fnProductsSpec)

/-- 'laws.FnPowers', WHERE WHAT IT READS IS OF BULK AT MOST 1048576: true; the input reads as it did. -/
def fnPowersUptoRow : OpenClaim := { program := "ytnocgihggdgkeaa", sum := "6df9e96d46706149bb1aec6f57c83002db4e0be20abe1aecba059ed8b75d6401", func := "loop.example/g00894/laws.FnPowers", spec := "fnPowers", apart := false, narrowed := true }
def FnPowersUptoSaid : Prop := fnPowersUptoRow.holds Try.pinned (OpenSpec.upto fnPowersSpec)

/-- 'laws.FnCycles', WHERE WHAT IT READS IS OF BULK AT MOST 1048576: true; the input reads as it did. -/
def fnCyclesUptoRow : OpenClaim := { program := "ytnocgihggdgkeaa", sum := "6df9e96d46706149bb1aec6f57c83002db4e0be20abe1aecba059ed8b75d6401", func := "loop.example/g00894/laws.FnCycles", spec := "fnCycles", apart := false, narrowed := true }
def FnCyclesUptoSaid : Prop := fnCyclesUptoRow.holds Try.pinned (OpenSpec.upto fnCyclesSpec)

/-- 'laws.FnExactIsRegular', WHERE WHAT IT READS IS OF BULK AT MOST 1048576: true; the input reads as it did. -/
def fnExactIsRegularUptoRow : OpenClaim := { program := "ytnocgihggdgkeaa", sum := "6df9e96d46706149bb1aec6f57c83002db4e0be20abe1aecba059ed8b75d6401", func := "loop.example/g00894/laws.FnExactIsRegular", spec := "fnExactIsRegular", apart := false, narrowed := true }
def FnExactIsRegularUptoSaid : Prop := fnExactIsRegularUptoRow.holds Try.pinned (OpenSpec.upto fnExactIsRegularSpec)

/-- 'laws.FnExactTurnOf', WHERE WHAT IT READS IS OF BULK AT MOST 1048576: true; the input reads as it did. -/
def fnExactTurnOfUptoRow : OpenClaim := { program := "ytnocgihggdgkeaa", sum := "6df9e96d46706149bb1aec6f57c83002db4e0be20abe1aecba059ed8b75d6401", func := "loop.example/g00894/laws.FnExactTurnOf", spec := "fnExactTurnOf", apart := false, narrowed := true }
def FnExactTurnOfUptoSaid : Prop := fnExactTurnOfUptoRow.holds Try.pinned (OpenSpec.upto fnExactTurnOfSpec)

/-- 'laws.FnExactIsWords', WHERE WHAT IT READS IS OF BULK AT MOST 1048576: true; the input reads as it did. -/
def fnExactIsWordsUptoRow : OpenClaim := { program := "ytnocgihggdgkeaa", sum := "6df9e96d46706149bb1aec6f57c83002db4e0be20abe1aecba059ed8b75d6401", func := "loop.example/g00894/laws.FnExactIsWords", spec := "fnExactIsWords", inPlace := ["internal/abi.NoEscape", "internal/bytealg.MakeNoZero"], recurses := true, apart := false, narrowed := true }
def FnExactIsWordsUptoSaid : Prop := fnExactIsWordsUptoRow.holds Try.pinned (OpenSpec.upto fnExactIsWordsSpec)

/-- 'laws.FnExactDepthOf', WHERE WHAT IT READS IS OF BULK AT MOST 1048576: true; the input reads as it did. -/
def fnExactDepthOfUptoRow : OpenClaim := { program := "ytnocgihggdgkeaa", sum := "6df9e96d46706149bb1aec6f57c83002db4e0be20abe1aecba059ed8b75d6401", func := "loop.example/g00894/laws.FnExactDepthOf", spec := "fnExactDepthOf", inPlace := ["internal/abi.NoEscape", "internal/bytealg.MakeNoZero"], recurses := true, apart := false, narrowed := true }
def FnExactDepthOfUptoSaid : Prop := fnExactDepthOfUptoRow.holds Try.pinned (OpenSpec.upto fnExactDepthOfSpec)

/-- 'laws.FnFits', WHERE WHAT IT READS IS OF BULK AT MOST 1048576: true; the input reads as it did. -/
def fnFitsUptoRow : OpenClaim := { program := "ytnocgihggdgkeaa", sum := "6df9e96d46706149bb1aec6f57c83002db4e0be20abe1aecba059ed8b75d6401", func := "loop.example/g00894/laws.FnFits", spec := "fnFits", recurses := true, apart := false, narrowed := true }
def FnFitsUptoSaid : Prop := fnFitsUptoRow.holds Try.pinned (OpenSpec.upto fnFitsSpec)

/-- 'laws.FnExactCompileWords', WHERE WHAT IT READS IS OF BULK AT MOST 1048576: true; the input reads as it did. -/
def fnExactCompileWordsUptoRow : OpenClaim := { program := "ytnocgihggdgkeaa", sum := "6df9e96d46706149bb1aec6f57c83002db4e0be20abe1aecba059ed8b75d6401", func := "loop.example/g00894/laws.FnExactCompileWords", spec := "fnExactCompileWords", inPlace := ["internal/abi.NoEscape", "internal/bytealg.MakeNoZero"], recurses := true, apart := false, narrowed := true }
def FnExactCompileWordsUptoSaid : Prop := fnExactCompileWordsUptoRow.holds Try.pinned (OpenSpec.upto fnExactCompileWordsSpec)

/-- 'laws.FnExactNamesIn', WHERE WHAT IT READS IS OF BULK AT MOST 1048576: true; the input reads as it did. -/
def fnExactNamesInUptoRow : OpenClaim := { program := "ytnocgihggdgkeaa", sum := "6df9e96d46706149bb1aec6f57c83002db4e0be20abe1aecba059ed8b75d6401", func := "loop.example/g00894/laws.FnExactNamesIn", spec := "fnExactNamesIn", inPlace := ["internal/abi.NoEscape", "internal/bytealg.MakeNoZero"], recurses := true, apart := false, narrowed := true }
def FnExactNamesInUptoSaid : Prop := fnExactNamesInUptoRow.holds Try.pinned (OpenSpec.upto fnExactNamesInSpec)

/-- 'laws.FnExactCallMoves', WHERE WHAT IT READS IS OF BULK AT MOST 1048576: true; the input reads as it did. -/
def fnExactCallMovesUptoRow : OpenClaim := { program := "ytnocgihggdgkeaa", sum := "6df9e96d46706149bb1aec6f57c83002db4e0be20abe1aecba059ed8b75d6401", func := "loop.example/g00894/laws.FnExactCallMoves", spec := "fnExactCallMoves", apart := false, narrowed := true }
def FnExactCallMovesUptoSaid : Prop := fnExactCallMovesUptoRow.holds Try.pinned (OpenSpec.upto fnExactCallMovesSpec)

end Rows
end Go.Proofs.Ytnocgihggdgkeaa
