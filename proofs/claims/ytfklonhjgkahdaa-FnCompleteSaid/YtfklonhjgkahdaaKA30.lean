/-
  Valid touches, of both sides.
  Conditions: none.
-/
import Derived.Test.YtfklonhjgkahdaaKA17
set_option linter.unusedSimpArgs false
set_option linter.unusedVariables false
set_option linter.defProp false
namespace Go.Proofs.Ytfklonhjgkahdaa
open Go Go.RowKit
/-- A touch. -/
def IsTch (l : List UInt8) : Prop := (1 ≤ l.length ∧ l.length ≤ 60) ∧ ∀ c ∈ l, IsCall [c]
instance (l : List UInt8) : Decidable (IsTch l) := by unfold IsTch; infer_instance
end Go.Proofs.Ytfklonhjgkahdaa
