/-
  Coursing orders: the places; CourseOf and RowOfCourse; the laws' calls.
  Conditions: none.
-/
import Derived.Test.YthopbkemkfjebaaKA1
set_option linter.unusedSimpArgs false
set_option linter.unusedVariables false
set_option linter.defProp false
namespace Go.Proofs.Ythopbkemkfjebaa
open Go Go.RowKit
theorem sub_one (l : List UInt8) (i : Nat) (h : i < l.length) : (l.take (i + 1)).drop i = [l.getD i 0] := by
  rw [List.take_add_one, List.drop_append, List.getD_eq_getElem?_getD, List.getElem?_eq_getElem h]
  simp [Nat.min_eq_left (Nat.le_of_lt h)]
end Go.Proofs.Ythopbkemkfjebaa
