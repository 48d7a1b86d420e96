/-
  Coursing orders: the places; CourseOf and RowOfCourse; the laws' calls.
  Conditions: none.
-/
import Derived.Test.YthopbkemkfjebaaGreatKA1
set_option linter.unusedSimpArgs false
set_option linter.unusedVariables false
set_option linter.defProp false
namespace Go.Proofs.YthopbkemkfjebaaGreat
open Go Go.RowKit
theorem sub_one (l : List UInt8) (i : Nat) (h : i < l.length) : (l.take (i + 1)).drop i = [l.getD i 0] := by
  rw [List.take_add_one, List.drop_append, List.getD_eq_getElem?_getD, List.getElem?_eq_getElem h]
  simp [Nat.min_eq_left (Nat.le_of_lt h)]
theorem take_map_succ {α β : Type} (f : α → β) (d : α) (l : List α) (k : Nat) (h : k < l.length) : (l.take (k + 1)).map f = (l.take k).map f ++ [f (l.getD k d)] := by
  rw [List.take_add_one, List.getElem?_eq_getElem h, List.getD_eq_getElem?_getD, List.getElem?_eq_getElem h, List.map_append]
  rfl
end Go.Proofs.YthopbkemkfjebaaGreat
