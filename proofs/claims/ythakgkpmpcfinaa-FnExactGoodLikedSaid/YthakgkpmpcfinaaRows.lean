/-
  No cell of these rows narrows 'for every input' (looked for: loops, veiled, ifaces, maps, wideKeys, modest, calm, conditions, laid).
  DERIVED. THE GIVEN ROWS OF THIS SEAT. 6 by the template 'for every input the law returns true; each argument reads behind the call as it read before'; 0 by the template 'total and deterministic' (their statements: YthakgkpmpcfinaaTotals.lean).
  GIVEN WITH THE SEED: the statements are not yours to turn. If you find one false, say at which input.
  Laid BY PROGRAM, IN A SANDBOX (cutbox-rows.mjs): the forced cells as the released guide's own fill.sh prints them over the translation 66f3009caea5d5fc… (all of the seat's roots in one cut). By AI agents, Wed Nov 11 2026. No macro, syntax, notation, axiom, sorry.
-/
import Derived.Test.YthakgkpmpcfinaaChecked
import GoSem.Claim
import GoSem.ClaimJoined
import GoSem.ClaimMapViews
import Derived.JoinedTies
import Derived.KernelRfl
namespace Go.Proofs.Ythakgkpmpcfinaa
/- THE CELL 'sum', in the pinned program and in every row, IS THE sha256 OF THE DUMP (.gsa) THAT YthakgkpmpcfinaaProg.lean LOADS. Nothing in Lean hashes anything: it is a label: what it is worth is what the hold of that sum in a sandbox is worth. -/
noncomputable def Try.pinned : Pinned := { name := "ythakgkpmpcfinaa", sum := "66f3009caea5d5fc9cc54b894528df8187e903797dde2b488a53f80f9936f49e", checked := Try.checked }
namespace Rows
def none {H : Type} : Left H := { results := [], args := [] }

/-- 'laws.FnExactGoodPattern': WHATEVER THE INPUT: true; the input reads as it did. -/
def fnExactGoodPatternSpec : ChangeSpec := { name := "fnExactGoodPattern", fn := fun _ => fun
  | [d] => { results := [.lit (.bool true)], args := [d] }
  | _ => none }
def fnExactGoodPatternRow : OpenClaim := { program := "ythakgkpmpcfinaa", sum := "66f3009caea5d5fc9cc54b894528df8187e903797dde2b488a53f80f9936f49e", func := "loop.example/g00894/laws.FnExactGoodPattern", spec := "fnExactGoodPattern", apart := false }
def FnExactGoodPatternSaid : Prop := fnExactGoodPatternRow.holds Try.pinned (OpenSpec.ofChange fnExactGoodPatternSpec)

/-- ITS FALSE NEIGHBOUR: 'it returns false'. Refute it at one input. -/
def fnExactGoodPatternWrong : ChangeSpec := { name := "fnExactGoodPattern", fn := fun _ => fun
  | [d] => { results := [.lit (.bool false)], args := [d] }
  | _ => none }
def FnExactGoodPatternWrongFalsely : Prop := fnExactGoodPatternRow.holds Try.pinned (OpenSpec.ofChange fnExactGoodPatternWrong)

/-- 'laws.FnExactRunsIn': WHATEVER THE INPUT: true; the input reads as it did. -/
def fnExactRunsInSpec : ChangeSpec := { name := "fnExactRunsIn", fn := fun _ => fun
  | [d1, d2] => { results := [.lit (.bool true)], args := [d1, d2] }
  | _ => none }
def fnExactRunsInRow : OpenClaim := { program := "ythakgkpmpcfinaa", sum := "66f3009caea5d5fc9cc54b894528df8187e903797dde2b488a53f80f9936f49e", func := "loop.example/g00894/laws.FnExactRunsIn", spec := "fnExactRunsIn", apart := false }
def FnExactRunsInSaid : Prop := fnExactRunsInRow.holds Try.pinned (OpenSpec.ofChange fnExactRunsInSpec)

/-- ITS FALSE NEIGHBOUR: 'it returns false'. Refute it at one input. -/
def fnExactRunsInWrong : ChangeSpec := { name := "fnExactRunsIn", fn := fun _ => fun
  | [d1, d2] => { results := [.lit (.bool false)], args := [d1, d2] }
  | _ => none }
def FnExactRunsInWrongFalsely : Prop := fnExactRunsInRow.holds Try.pinned (OpenSpec.ofChange fnExactRunsInWrong)

/-- 'laws.FnExactFitsRow': WHATEVER THE INPUT: true; the input reads as it did. -/
def fnExactFitsRowSpec : ChangeSpec := { name := "fnExactFitsRow", fn := fun _ => fun
  | [d1, d2] => { results := [.lit (.bool true)], args := [d1, d2] }
  | _ => none }
def fnExactFitsRowRow : OpenClaim := { program := "ythakgkpmpcfinaa", sum := "66f3009caea5d5fc9cc54b894528df8187e903797dde2b488a53f80f9936f49e", func := "loop.example/g00894/laws.FnExactFitsRow", spec := "fnExactFitsRow", recurses := true, apart := false }
def FnExactFitsRowSaid : Prop := fnExactFitsRowRow.holds Try.pinned (OpenSpec.ofChange fnExactFitsRowSpec)

/-- ITS FALSE NEIGHBOUR: 'it returns false'. Refute it at one input. -/
def fnExactFitsRowWrong : ChangeSpec := { name := "fnExactFitsRow", fn := fun _ => fun
  | [d1, d2] => { results := [.lit (.bool false)], args := [d1, d2] }
  | _ => none }
def FnExactFitsRowWrongFalsely : Prop := fnExactFitsRowRow.holds Try.pinned (OpenSpec.ofChange fnExactFitsRowWrong)

/-- 'laws.FnExactCourseOf': WHATEVER THE INPUT: true; the input reads as it did. -/
def fnExactCourseOfSpec : ChangeSpec := { name := "fnExactCourseOf", fn := fun _ => fun
  | [d] => { results := [.lit (.bool true)], args := [d] }
  | _ => none }
def fnExactCourseOfRow : OpenClaim := { program := "ythakgkpmpcfinaa", sum := "66f3009caea5d5fc9cc54b894528df8187e903797dde2b488a53f80f9936f49e", func := "loop.example/g00894/laws.FnExactCourseOf", spec := "fnExactCourseOf", apart := false }
def FnExactCourseOfSaid : Prop := fnExactCourseOfRow.holds Try.pinned (OpenSpec.ofChange fnExactCourseOfSpec)

/-- ITS FALSE NEIGHBOUR: 'it returns false'. Refute it at one input. -/
def fnExactCourseOfWrong : ChangeSpec := { name := "fnExactCourseOf", fn := fun _ => fun
  | [d] => { results := [.lit (.bool false)], args := [d] }
  | _ => none }
def FnExactCourseOfWrongFalsely : Prop := fnExactCourseOfRow.holds Try.pinned (OpenSpec.ofChange fnExactCourseOfWrong)

/-- 'laws.FnExactGoodLiked': WHATEVER THE INPUT: true; the input reads as it did. -/
def fnExactGoodLikedSpec : ChangeSpec := { name := "fnExactGoodLiked", fn := fun _ => fun
  | [d] => { results := [.lit (.bool true)], args := [d] }
  | _ => none }
def fnExactGoodLikedRow : OpenClaim := { program := "ythakgkpmpcfinaa", sum := "66f3009caea5d5fc9cc54b894528df8187e903797dde2b488a53f80f9936f49e", func := "loop.example/g00894/laws.FnExactGoodLiked", spec := "fnExactGoodLiked", apart := false }
def FnExactGoodLikedSaid : Prop := fnExactGoodLikedRow.holds Try.pinned (OpenSpec.ofChange fnExactGoodLikedSpec)

/-- ITS FALSE NEIGHBOUR: 'it returns false'. Refute it at one input. -/
def fnExactGoodLikedWrong : ChangeSpec := { name := "fnExactGoodLiked", fn := fun _ => fun
  | [d] => { results := [.lit (.bool false)], args := [d] }
  | _ => none }
def FnExactGoodLikedWrongFalsely : Prop := fnExactGoodLikedRow.holds Try.pinned (OpenSpec.ofChange fnExactGoodLikedWrong)

/-- 'laws.FnExactRowOfCourse': WHATEVER THE INPUT: true; the input reads as it did. -/
def fnExactRowOfCourseSpec : ChangeSpec := { name := "fnExactRowOfCourse", fn := fun _ => fun
  | [d1, d2] => { results := [.lit (.bool true)], args := [d1, d2] }
  | _ => none }
def fnExactRowOfCourseRow : OpenClaim := { program := "ythakgkpmpcfinaa", sum := "66f3009caea5d5fc9cc54b894528df8187e903797dde2b488a53f80f9936f49e", func := "loop.example/g00894/laws.FnExactRowOfCourse", spec := "fnExactRowOfCourse", apart := false }
def FnExactRowOfCourseSaid : Prop := fnExactRowOfCourseRow.holds Try.pinned (OpenSpec.ofChange fnExactRowOfCourseSpec)

/-- ITS FALSE NEIGHBOUR: 'it returns false'. Refute it at one input. -/
def fnExactRowOfCourseWrong : ChangeSpec := { name := "fnExactRowOfCourse", fn := fun _ => fun
  | [d1, d2] => { results := [.lit (.bool false)], args := [d1, d2] }
  | _ => none }
def FnExactRowOfCourseWrongFalsely : Prop := fnExactRowOfCourseRow.holds Try.pinned (OpenSpec.ofChange fnExactRowOfCourseWrong)

/- THE SECOND FORM. 'bulk': how many values and letters a reading holds, each counted each time it is reached (what is shared counts as often as it is met; a slice's spare places count too). A statement '..UptoSaid' is the law's where the arguments, and the package variables that the reading takes, are together of bulk at most 1048576: NARROWER than '..Said'. Prove '..Said' where nothing that the law and all that it calls make is longer than what came in: it says more and counts as full. Else prove '..UptoSaid'. A law counts once. -/
mutual
def uptoBulk {H : Type} : DataW H → Nat
  | .lit (.string bytes) => bytes.length + 1
  | .lit _ => 1
  | .nil => 1
  | .ptr d => uptoBulk d + 1
  | .slice elems spare => uptoBulkAll elems + uptoBulkAll spare + 1
  | .agg parts => uptoBulkAll parts + 1
  | .iface _ d => uptoBulk d + 1
  | .map entries => uptoBulkEntries entries + 1
  | .held _ => 1
def uptoBulkAll {H : Type} : List (DataW H) → Nat
  | [] => 0
  | d :: r => uptoBulk d + uptoBulkAll r
def uptoBulkEntries {H : Type} : List (Lit × DataW H) → Nat
  | [] => 0
  | x :: r => uptoBulkEntry x + uptoBulkEntries r
def uptoBulkEntry {H : Type} : Lit × DataW H → Nat
  | (.string bytes, d) => bytes.length + uptoBulk d + 1
  | (_, d) => uptoBulk d + 1
 end
def uptoSmall : (H : Type) → List (DataW H) → Bool := fun _ ds => decide (uptoBulkAll ds ≤ 1048576)
def OpenSpec.upto (s : _root_.Go.ChangeSpec) : _root_.Go.OpenSpec := { _root_.Go.OpenSpec.ofChange s with cond := some uptoSmall }

/-- 'laws.FnExactGoodPattern', WHERE WHAT IT READS IS OF BULK AT MOST 1048576: true; the input reads as it did. -/
def fnExactGoodPatternUptoRow : OpenClaim := { program := "ythakgkpmpcfinaa", sum := "66f3009caea5d5fc9cc54b894528df8187e903797dde2b488a53f80f9936f49e", func := "loop.example/g00894/laws.FnExactGoodPattern", spec := "fnExactGoodPattern", apart := false, narrowed := true }
def FnExactGoodPatternUptoSaid : Prop := fnExactGoodPatternUptoRow.holds Try.pinned (OpenSpec.upto fnExactGoodPatternSpec)

/-- 'laws.FnExactRunsIn', WHERE WHAT IT READS IS OF BULK AT MOST 1048576: true; the input reads as it did. -/
def fnExactRunsInUptoRow : OpenClaim := { program := "ythakgkpmpcfinaa", sum := "66f3009caea5d5fc9cc54b894528df8187e903797dde2b488a53f80f9936f49e", func := "loop.example/g00894/laws.FnExactRunsIn", spec := "fnExactRunsIn", apart := false, narrowed := true }
def FnExactRunsInUptoSaid : Prop := fnExactRunsInUptoRow.holds Try.pinned (OpenSpec.upto fnExactRunsInSpec)

/-- 'laws.FnExactFitsRow', WHERE WHAT IT READS IS OF BULK AT MOST 1048576: true; the input reads as it did. -/
def fnExactFitsRowUptoRow : OpenClaim := { program := "ythakgkpmpcfinaa", sum := "66f3009caea5d5fc9cc54b894528df8187e903797dde2b488a53f80f9936f49e", func := "loop.example/g00894/laws.FnExactFitsRow", spec := "fnExactFitsRow", recurses := true, apart := false, narrowed := true }
def FnExactFitsRowUptoSaid : Prop := fnExactFitsRowUptoRow.holds Try.pinned (OpenSpec.upto fnExactFitsRowSpec)

/-- 'laws.FnExactCourseOf', WHERE WHAT IT READS IS OF BULK AT MOST 1048576: true; the input reads as it did. -/
def fnExactCourseOfUptoRow : OpenClaim := { program := "ythakgkpmpcfinaa", sum := "66f3009caea5d5fc9cc54b894528df8187e903797dde2b488a53f80f9936f49e", func := "loop.example/g00894/laws.FnExactCourseOf", spec := "fnExactCourseOf", apart := false, narrowed := true }
def FnExactCourseOfUptoSaid : Prop := fnExactCourseOfUptoRow.holds Try.pinned (OpenSpec.upto fnExactCourseOfSpec)

/-- 'laws.FnExactGoodLiked', WHERE WHAT IT READS IS OF BULK AT MOST 1048576: true; the input reads as it did. -/
def fnExactGoodLikedUptoRow : OpenClaim := { program := "ythakgkpmpcfinaa", sum := "66f3009caea5d5fc9cc54b894528df8187e903797dde2b488a53f80f9936f49e", func := "loop.example/g00894/laws.FnExactGoodLiked", spec := "fnExactGoodLiked", apart := false, narrowed := true }
def FnExactGoodLikedUptoSaid : Prop := fnExactGoodLikedUptoRow.holds Try.pinned (OpenSpec.upto fnExactGoodLikedSpec)

/-- 'laws.FnExactRowOfCourse', WHERE WHAT IT READS IS OF BULK AT MOST 1048576: true; the input reads as it did. -/
def fnExactRowOfCourseUptoRow : OpenClaim := { program := "ythakgkpmpcfinaa", sum := "66f3009caea5d5fc9cc54b894528df8187e903797dde2b488a53f80f9936f49e", func := "loop.example/g00894/laws.FnExactRowOfCourse", spec := "fnExactRowOfCourse", apart := false, narrowed := true }
def FnExactRowOfCourseUptoSaid : Prop := fnExactRowOfCourseUptoRow.holds Try.pinned (OpenSpec.upto fnExactRowOfCourseSpec)

end Rows
end Go.Proofs.Ythakgkpmpcfinaa
