/-
  Small code at this program.
  Conditions: none.
-/
import Derived.Test.YthakgkpmpcfinaaVs
import Derived.Test.YthakgkpmpcfinaaRows
import Derived.KernelRfl
set_option linter.unusedSimpArgs false
set_option linter.unusedVariables false
namespace Go.Proofs.Ythakgkpmpcfinaa
open Go Go.RowKit
theorem mix : Try.prog.follows .mixedOrders = true := by kernel_rfl
/-- The call of function f leaves what was there as it was, and R. -/
def Fn (f : Nat) (args : List Value) (w : World) (R : Value → World → Prop) : Prop := CallsV Try.prog f args w fun v w' => Ext w w' ∧ R v w'
theorem Fn.mono {f : Nat} {args : List Value} {w : World} {R R' : Value → World → Prop} (h : Fn f args w R) (hr : ∀ v w', R v w' → R' v w') : Fn f args w R' :=
  CallsV.mono h fun v w' ⟨a, b⟩ => ⟨a, hr v w' b⟩
end Go.Proofs.Ythakgkpmpcfinaa
