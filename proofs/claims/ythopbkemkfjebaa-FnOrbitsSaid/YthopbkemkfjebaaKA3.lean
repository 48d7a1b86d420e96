/-
  RunsIn and FitsRow: what program and reference compute; the calls of the laws FnExactRunsIn and FnExactFitsRow.
  Conditions: none.
-/
import Derived.Test.YthopbkemkfjebaaKA2
set_option linter.unusedSimpArgs false
set_option linter.unusedVariables false
set_option linter.defProp false
namespace Go.Proofs.Ythopbkemkfjebaa
open Go Go.RowKit
/-- From place 1 to place k - 1 each byte is the one ahead of it and d. -/
def RunBy (l : List UInt8) (d : Int) (k : Nat) : Prop := ∀ i < k, 1 ≤ i → ((l.getD i 0).toNat : Int) - (l.getD (i - 1) 0).toNat = d
instance (l : List UInt8) (d : Int) (k : Nat) : Decidable (RunBy l d k) := by unfold RunBy; infer_instance
theorem RunBy.succ {l : List UInt8} {d : Int} {k : Nat} (h : RunBy l d k) (h1 : 1 ≤ k → ((l.getD k 0).toNat : Int) - (l.getD (k - 1) 0).toNat = d) : RunBy l d (k + 1) := fun i hi h2 => by
  by_cases he : i = k
  · subst he; exact h1 h2
  · exact h i (by omega) h2
end Go.Proofs.Ythopbkemkfjebaa
