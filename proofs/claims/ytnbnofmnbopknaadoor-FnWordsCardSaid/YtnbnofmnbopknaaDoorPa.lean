/-
  Plain lists: rows, bits. No program.
  Conditions: none.
-/
import Derived.Test.YtnbnofmnbopknaaDoorVb
set_option linter.unusedSimpArgs false
set_option linter.unusedVariables false
set_option linter.defProp false
namespace Go.Proofs.YtnbnofmnbopknaaDoor
open Go

/-- The first k bells of l are bells of the stage and distinct. -/
def RowUp (l : List UInt8) (k : Nat) : Prop := ∀ i < k, 49 ≤ (l.getD i 0).toNat ∧ (l.getD i 0).toNat < 49 + l.length ∧ ∀ j < i, l.getD j 0 ≠ l.getD i 0
instance (l : List UInt8) (k : Nat) : Decidable (RowUp l k) := by unfold RowUp; infer_instance
def IsRow (l : List UInt8) : Prop := (3 ≤ l.length ∧ l.length ≤ 8) ∧ RowUp l l.length
instance (l : List UInt8) : Decidable (IsRow l) := by unfold IsRow; infer_instance
theorem RowUp.zero (l : List UInt8) : RowUp l 0 := fun i hi => absurd hi (Nat.not_lt_zero i)
theorem RowUp.succ {l : List UInt8} {k : Nat} (h : RowUp l k) (h1 : 49 ≤ (l.getD k 0).toNat) (h2 : (l.getD k 0).toNat < 49 + l.length) (h3 : ∀ j < k, l.getD j 0 ≠ l.getD k 0) : RowUp l (k + 1) := by
  intro i hi
  by_cases he : i = k
  · subst he; exact ⟨h1, h2, h3⟩
  · exact h i (by omega)

theorem bit_and : ∀ s : Fin 256, ∀ c : Fin 8, (bitV .and .i64 (((s.val : Int)).fdiv (2 ^ (min c.val IntKind.i64.bits))) 1 = 1 ↔ s.val.testBit c.val = true) := by decide +kernel
theorem bit_or : ∀ s : Fin 256, ∀ c : Fin 8, bitV .or .i64 (s.val : Int) (IntKind.i64.wrap (1 * 2 ^ (min c.val IntKind.i64.bits))) = ((s.val ||| 2 ^ c.val : Nat) : Int) := by decide +kernel
theorem bit_lt : ∀ s : Fin 256, ∀ c : Fin 8, s.val ||| 2 ^ c.val < 256 := by decide +kernel
theorem bit_test : ∀ s : Fin 256, ∀ c : Fin 8, ∀ d : Fin 8, ((s.val ||| 2 ^ c.val).testBit d.val = true ↔ (s.val.testBit d.val = true ∨ d.val = c.val)) := by decide +kernel
end Go.Proofs.YtnbnofmnbopknaaDoor
