/-
  No cell of these rows narrows 'for every input' (looked for: loops, veiled, ifaces, maps, wideKeys, modest, calm, conditions, laid).
  DERIVED. THE GIVEN ROWS OF THIS SEAT. 3 by the template 'for every input the law returns true; each argument reads behind the call as it read before'; 0 by the template 'total and deterministic' (their statements: YthopbkemkfjebaaGreatTotals.lean).
  GIVEN WITH THE SEED: the statements are not yours to turn. If you find one false, say at which input.
  Laid BY PROGRAM, IN A SANDBOX (cutbox-rows.mjs): the forced cells as the released guide's own fill.sh prints them over the translation e0e067d021d8671e… (all of the seat's roots in one cut). By AI agents, Wed Nov 11 2026. No macro, syntax, notation, axiom, sorry.
-/
import Derived.Test.YthopbkemkfjebaaGreatChecked
import GoSem.Claim
import GoSem.ClaimJoined
import GoSem.ClaimMapViews
import Derived.JoinedTies
import Derived.KernelRfl
namespace Go.Proofs.YthopbkemkfjebaaGreat
/- THE CELL 'sum', in the pinned program and in every row, IS THE sha256 OF THE DUMP (.gsa) THAT YthopbkemkfjebaaGreatProg.lean LOADS. Nothing in Lean hashes anything: it is a label: what it is worth is what the hold of that sum in a sandbox is worth. -/
noncomputable def Tryz.pinned : Pinned := { name := "ythopbkemkfjebaagreat", sum := "e0e067d021d8671e8da57577139a44fb806bf700eb5170e644e9db873e935b6d", checked := Tryz.checked }
namespace Rows
def none {H : Type} : Left H := { results := [], args := [] }

/-- 'laws.FnTruth': WHATEVER THE INPUT: true; the input reads as it did. -/
def fnTruthSpec : ChangeSpec := { name := "fnTruth", fn := fun _ => fun
  | [d1, d2] => { results := [.lit (.bool true)], args := [d1, d2] }
  | _ => none }
def fnTruthRow : OpenClaim := { program := "ythopbkemkfjebaagreat", sum := "e0e067d021d8671e8da57577139a44fb806bf700eb5170e644e9db873e935b6d", func := "loop.example/g00894/laws.FnTruth", spec := "fnTruth", unfollowed := true, recurses := true, plainKeys := false, apart := false }
def FnTruthSaid : Prop := fnTruthRow.holds Tryz.pinned (OpenSpec.ofChange fnTruthSpec)

/-- ITS FALSE NEIGHBOUR: 'it returns false'. Refute it at one input. -/
def fnTruthWrong : ChangeSpec := { name := "fnTruth", fn := fun _ => fun
  | [d1, d2] => { results := [.lit (.bool false)], args := [d1, d2] }
  | _ => none }
def FnTruthWrongFalsely : Prop := fnTruthRow.holds Tryz.pinned (OpenSpec.ofChange fnTruthWrong)

/-- 'laws.FnSplice': WHATEVER THE INPUT: true; the input reads as it did. -/
def fnSpliceSpec : ChangeSpec := { name := "fnSplice", fn := fun _ => fun
  | [d1, d2] => { results := [.lit (.bool true)], args := [d1, d2] }
  | _ => none }
def fnSpliceRow : OpenClaim := { program := "ythopbkemkfjebaagreat", sum := "e0e067d021d8671e8da57577139a44fb806bf700eb5170e644e9db873e935b6d", func := "loop.example/g00894/laws.FnSplice", spec := "fnSplice", recurses := true, plainKeys := false, apart := false }
def FnSpliceSaid : Prop := fnSpliceRow.holds Tryz.pinned (OpenSpec.ofChange fnSpliceSpec)

/-- ITS FALSE NEIGHBOUR: 'it returns false'. Refute it at one input. -/
def fnSpliceWrong : ChangeSpec := { name := "fnSplice", fn := fun _ => fun
  | [d1, d2] => { results := [.lit (.bool false)], args := [d1, d2] }
  | _ => none }
def FnSpliceWrongFalsely : Prop := fnSpliceRow.holds Tryz.pinned (OpenSpec.ofChange fnSpliceWrong)

/-- 'laws.FnSpliced': WHATEVER THE INPUT: true; the input reads as it did. -/
def fnSplicedSpec : ChangeSpec := { name := "fnSpliced", fn := fun _ => fun
  | [d1, d2] => { results := [.lit (.bool true)], args := [d1, d2] }
  | _ => none }
def fnSplicedRow : OpenClaim := { program := "ythopbkemkfjebaagreat", sum := "e0e067d021d8671e8da57577139a44fb806bf700eb5170e644e9db873e935b6d", func := "loop.example/g00894/laws.FnSpliced", spec := "fnSpliced", recurses := true, plainKeys := false, apart := false }
def FnSplicedSaid : Prop := fnSplicedRow.holds Tryz.pinned (OpenSpec.ofChange fnSplicedSpec)

/-- ITS FALSE NEIGHBOUR: 'it returns false'. Refute it at one input. -/
def fnSplicedWrong : ChangeSpec := { name := "fnSpliced", fn := fun _ => fun
  | [d1, d2] => { results := [.lit (.bool false)], args := [d1, d2] }
  | _ => none }
def FnSplicedWrongFalsely : Prop := fnSplicedRow.holds Tryz.pinned (OpenSpec.ofChange fnSplicedWrong)

/- THE SECOND FORM. 'bulk': how many values and letters a reading holds, each counted each time it is reached (what is shared counts as often as it is met; a slice's spare places count too). A statement '..UptoSaid' is the law's where the arguments, and the package variables that the reading takes, are together of bulk at most 1048576: NARROWER than '..Said'. Prove '..Said' where nothing that the law and all that it calls make is longer than what came in: it says more and counts as full. Else prove '..UptoSaid'. A law counts once. -/
mutual
def uptoBulk {H : Type} : DataW H → Nat
  | .lit (.string bytes) => bytes.length + 1
  | .lit _ => 1
  | .nil => 1
  | .ptr d => uptoBulk d + 1
  | .slice elems spare => uptoBulkAll elems + uptoBulkAll spare + 1
  | .agg parts => uptoBulkAll parts + 1
  | .iface _ d => uptoBulk d + 1
  | .map entries => uptoBulkEntries entries + 1
  | .held _ => 1
def uptoBulkAll {H : Type} : List (DataW H) → Nat
  | [] => 0
  | d :: r => uptoBulk d + uptoBulkAll r
def uptoBulkEntries {H : Type} : List (Lit × DataW H) → Nat
  | [] => 0
  | x :: r => uptoBulkEntry x + uptoBulkEntries r
def uptoBulkEntry {H : Type} : Lit × DataW H → Nat
  | (.string bytes, d) => bytes.length + uptoBulk d + 1
  | (_, d) => uptoBulk d + 1
 end
def uptoSmall : (H : Type) → List (DataW H) → Bool := fun _ ds => decide (uptoBulkAll ds ≤ 1048576)
def OpenSpec.upto (s : _root_.Go.ChangeSpec) : _root_.Go.OpenSpec := { _root_.Go.OpenSpec.ofChange s with cond := some uptoSmall }

/-- 'laws.FnTruth', WHERE WHAT IT READS IS OF BULK AT MOST 1048576: true; the input reads as it did. -/
def fnTruthUptoRow : OpenClaim := { program := "ythopbkemkfjebaagreat", sum := "e0e067d021d8671e8da57577139a44fb806bf700eb5170e644e9db873e935b6d", func := "loop.example/g00894/laws.FnTruth", spec := "fnTruth", unfollowed := true, recurses := true, plainKeys := false, apart := false, narrowed := true }
def FnTruthUptoSaid : Prop := fnTruthUptoRow.holds Tryz.pinned (OpenSpec.upto fnTruthSpec)

/-- 'laws.FnSplice', WHERE WHAT IT READS IS OF BULK AT MOST 1048576: true; the input reads as it did. -/
def fnSpliceUptoRow : OpenClaim := { program := "ythopbkemkfjebaagreat", sum := "e0e067d021d8671e8da57577139a44fb806bf700eb5170e644e9db873e935b6d", func := "loop.example/g00894/laws.FnSplice", spec := "fnSplice", recurses := true, plainKeys := false, apart := false, narrowed := true }
def FnSpliceUptoSaid : Prop := fnSpliceUptoRow.holds Tryz.pinned (OpenSpec.upto fnSpliceSpec)

/-- 'laws.FnSpliced', WHERE WHAT IT READS IS OF BULK AT MOST 1048576: true; the input reads as it did. -/
def fnSplicedUptoRow : OpenClaim := { program := "ythopbkemkfjebaagreat", sum := "e0e067d021d8671e8da57577139a44fb806bf700eb5170e644e9db873e935b6d", func := "loop.example/g00894/laws.FnSpliced", spec := "fnSpliced", recurses := true, plainKeys := false, apart := false, narrowed := true }
def FnSplicedUptoSaid : Prop := fnSplicedUptoRow.holds Tryz.pinned (OpenSpec.upto fnSplicedSpec)

end Rows
end Go.Proofs.YthopbkemkfjebaaGreat
