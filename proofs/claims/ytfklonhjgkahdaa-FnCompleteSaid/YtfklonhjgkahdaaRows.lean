/-
  No cell of these rows narrows 'for every input' (looked for: loops, veiled, ifaces, maps, wideKeys, modest, calm, conditions, laid).
  DERIVED. THE GIVEN ROWS OF THIS SEAT. 3 by the template 'for every input the law returns true; each argument reads behind the call as it read before'; 0 by the template 'total and deterministic' (their statements: YtfklonhjgkahdaaTotals.lean).
  GIVEN WITH THE SEED: the statements are not yours to turn. If you find one false, say at which input.
  Laid BY PROGRAM, IN A SANDBOX (cutbox-rows.mjs): the forced cells as the released guide's own fill.sh prints them over the translation e73995bbedf4c243… (all of the seat's roots in one cut). By AI agents, Wed Nov 11 2026. No macro, syntax, notation, axiom, sorry.
-/
import Derived.Test.YtfklonhjgkahdaaChecked
import GoSem.Claim
import GoSem.ClaimJoined
import GoSem.ClaimMapViews
import Derived.JoinedTies
import Derived.KernelRfl
namespace Go.Proofs.Ytfklonhjgkahdaa
/- THE CELL 'sum', in the pinned program and in every row, IS THE sha256 OF THE DUMP (.gsa) THAT YtfklonhjgkahdaaProg.lean LOADS. Nothing in Lean hashes anything: it is a label: what it is worth is what the hold of that sum in a sandbox is worth. -/
noncomputable def Try.pinned : Pinned := { name := "ytfklonhjgkahdaa", sum := "e73995bbedf4c243171846df53f6d063bc1498f4651d491df95d568e347074c8", checked := Try.checked }
namespace Rows
def none {H : Type} : Left H := { results := [], args := [] }

/-- 'laws.FnHalves': WHATEVER THE INPUT: true; the input reads as it did. -/
def fnHalvesSpec : ChangeSpec := { name := "fnHalves", fn := fun _ => fun
  | [d1, d2] => { results := [.lit (.bool true)], args := [d1, d2] }
  | _ => none }
def fnHalvesRow : OpenClaim := { program := "ytfklonhjgkahdaa", sum := "e73995bbedf4c243171846df53f6d063bc1498f4651d491df95d568e347074c8", func := "loop.example/g00894/laws.FnHalves", spec := "fnHalves", recurses := true, apart := false }
def FnHalvesSaid : Prop := fnHalvesRow.holds Try.pinned (OpenSpec.ofChange fnHalvesSpec)

/-- ITS FALSE NEIGHBOUR: 'it returns false'. Refute it at one input. -/
def fnHalvesWrong : ChangeSpec := { name := "fnHalves", fn := fun _ => fun
  | [d1, d2] => { results := [.lit (.bool false)], args := [d1, d2] }
  | _ => none }
def FnHalvesWrongFalsely : Prop := fnHalvesRow.holds Try.pinned (OpenSpec.ofChange fnHalvesWrong)

/-- 'laws.FnNotations': WHATEVER THE INPUT: true; the input reads as it did. -/
def fnNotationsSpec : ChangeSpec := { name := "fnNotations", fn := fun _ => fun
  | [d1, d2] => { results := [.lit (.bool true)], args := [d1, d2] }
  | _ => none }
def fnNotationsRow : OpenClaim := { program := "ytfklonhjgkahdaa", sum := "e73995bbedf4c243171846df53f6d063bc1498f4651d491df95d568e347074c8", func := "loop.example/g00894/laws.FnNotations", spec := "fnNotations", recurses := true, apart := false }
def FnNotationsSaid : Prop := fnNotationsRow.holds Try.pinned (OpenSpec.ofChange fnNotationsSpec)

/-- ITS FALSE NEIGHBOUR: 'it returns false'. Refute it at one input. -/
def fnNotationsWrong : ChangeSpec := { name := "fnNotations", fn := fun _ => fun
  | [d1, d2] => { results := [.lit (.bool false)], args := [d1, d2] }
  | _ => none }
def FnNotationsWrongFalsely : Prop := fnNotationsRow.holds Try.pinned (OpenSpec.ofChange fnNotationsWrong)

/-- 'laws.FnComplete': WHATEVER THE INPUT: true; the input reads as it did. -/
def fnCompleteSpec : ChangeSpec := { name := "fnComplete", fn := fun _ => fun
  | [d1, d2] => { results := [.lit (.bool true)], args := [d1, d2] }
  | _ => none }
def fnCompleteRow : OpenClaim := { program := "ytfklonhjgkahdaa", sum := "e73995bbedf4c243171846df53f6d063bc1498f4651d491df95d568e347074c8", func := "loop.example/g00894/laws.FnComplete", spec := "fnComplete", recurses := true, apart := false }
def FnCompleteSaid : Prop := fnCompleteRow.holds Try.pinned (OpenSpec.ofChange fnCompleteSpec)

/-- ITS FALSE NEIGHBOUR: 'it returns false'. Refute it at one input. -/
def fnCompleteWrong : ChangeSpec := { name := "fnComplete", fn := fun _ => fun
  | [d1, d2] => { results := [.lit (.bool false)], args := [d1, d2] }
  | _ => none }
def FnCompleteWrongFalsely : Prop := fnCompleteRow.holds Try.pinned (OpenSpec.ofChange fnCompleteWrong)

/- THE SECOND FORM. 'bulk': how many values and letters a reading holds, each counted each time it is reached (what is shared counts as often as it is met; a slice's spare places count too). A statement '..UptoSaid' is the law's where the arguments, and the package variables that the reading takes, are together of bulk at most 1048576: NARROWER than '..Said'. Prove '..Said' where nothing that the law and all that it calls make is longer than what came in: it says more and counts as full. Else prove '..UptoSaid'. A law counts once. -/
mutual
def uptoBulk {H : Type} : DataW H → Nat
  | .lit (.string bytes) => bytes.length + 1
  | .lit _ => 1
  | .nil => 1
  | .ptr d => uptoBulk d + 1
  | .slice elems spare => uptoBulkAll elems + uptoBulkAll spare + 1
  | .agg parts => uptoBulkAll parts + 1
  | .iface _ d => uptoBulk d + 1
  | .map entries => uptoBulkEntries entries + 1
  | .held _ => 1
def uptoBulkAll {H : Type} : List (DataW H) → Nat
  | [] => 0
  | d :: r => uptoBulk d + uptoBulkAll r
def uptoBulkEntries {H : Type} : List (Lit × DataW H) → Nat
  | [] => 0
  | x :: r => uptoBulkEntry x + uptoBulkEntries r
def uptoBulkEntry {H : Type} : Lit × DataW H → Nat
  | (.string bytes, d) => bytes.length + uptoBulk d + 1
  | (_, d) => uptoBulk d + 1
 end
def uptoSmall : (H : Type) → List (DataW H) → Bool := fun _ ds => decide (uptoBulkAll ds ≤ 1048576)
def OpenSpec.upto (s : _root_.Go.ChangeSpec) : _root_.Go.OpenSpec := { _root_.Go.OpenSpec.ofChange s with cond := some uptoSmall }

/-- 'laws.FnHalves', WHERE WHAT IT READS IS OF BULK AT MOST 1048576: true; the input reads as it did. -/
def fnHalvesUptoRow : OpenClaim := { program := "ytfklonhjgkahdaa", sum := "e73995bbedf4c243171846df53f6d063bc1498f4651d491df95d568e347074c8", func := "loop.example/g00894/laws.FnHalves", spec := "fnHalves", recurses := true, apart := false, narrowed := true }
def FnHalvesUptoSaid : Prop := fnHalvesUptoRow.holds Try.pinned (OpenSpec.upto fnHalvesSpec)

/-- 'laws.FnNotations', WHERE WHAT IT READS IS OF BULK AT MOST 1048576: true; the input reads as it did. -/
def fnNotationsUptoRow : OpenClaim := { program := "ytfklonhjgkahdaa", sum := "e73995bbedf4c243171846df53f6d063bc1498f4651d491df95d568e347074c8", func := "loop.example/g00894/laws.FnNotations", spec := "fnNotations", recurses := true, apart := false, narrowed := true }
def FnNotationsUptoSaid : Prop := fnNotationsUptoRow.holds Try.pinned (OpenSpec.upto fnNotationsSpec)

/-- 'laws.FnComplete', WHERE WHAT IT READS IS OF BULK AT MOST 1048576: true; the input reads as it did. -/
def fnCompleteUptoRow : OpenClaim := { program := "ytfklonhjgkahdaa", sum := "e73995bbedf4c243171846df53f6d063bc1498f4651d491df95d568e347074c8", func := "loop.example/g00894/laws.FnComplete", spec := "fnComplete", recurses := true, apart := false, narrowed := true }
def FnCompleteUptoSaid : Prop := fnCompleteUptoRow.holds Try.pinned (OpenSpec.upto fnCompleteSpec)

end Rows
end Go.Proofs.Ytfklonhjgkahdaa
