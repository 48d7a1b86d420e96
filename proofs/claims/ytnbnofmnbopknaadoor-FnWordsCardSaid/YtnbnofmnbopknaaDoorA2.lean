/-
  Patterns: what is a good pattern; the law FnExactGoodPattern's call.
  Conditions: none.
-/
import Derived.Test.YtnbnofmnbopknaaDoorA1
set_option linter.unusedSimpArgs false
set_option linter.unusedVariables false
set_option linter.defProp false
namespace Go.Proofs.YtnbnofmnbopknaaDoor
open Go Go.RowKit
section
variable (P : Program) (k : KT) (e : Env) (w : World)
end

def PatB (c : UInt8) : Prop := c.toNat = 63 ∨ c.toNat = 42 ∨ (49 ≤ c.toNat ∧ c.toNat ≤ 56)
instance (c : UInt8) : Decidable (PatB c) := by unfold PatB; infer_instance
def PatUp (l : List UInt8) (k : Nat) : Prop := ∀ i < k, PatB (l.getD i 0)
instance (l : List UInt8) (k : Nat) : Decidable (PatUp l k) := by unfold PatUp; infer_instance
def IsPat (l : List UInt8) : Prop := PatUp l l.length ∧ 1 ≤ l.length ∧ l.length ≤ 10
instance (l : List UInt8) : Decidable (IsPat l) := by unfold IsPat; infer_instance
theorem PatUp.succ {l : List UInt8} {k : Nat} (h : PatUp l k) (h1 : PatB (l.getD k 0)) : PatUp l (k + 1) := fun i hi => by
  by_cases he : i = k
  · subst he; exact h1
  · exact h i (by omega)
end Go.Proofs.YtnbnofmnbopknaaDoor
