/-
  Coursing orders: the places; CourseOf and RowOfCourse; the laws' calls.
  Conditions: none.
-/
import Derived.Test.YtfklonhjgkahdaaA1
set_option linter.unusedSimpArgs false
set_option linter.unusedVariables false
set_option linter.defProp false
namespace Go.Proofs.Ytfklonhjgkahdaa
open Go Go.RowKit
section
variable (P : Program) (k : KT) (e : Env) (w : World)
end

/-- The coursing places of a stage. -/
def coursingL (n : Nat) : List Int := ((List.range (n + 1)).filter fun p => p % 2 = 0 ∧ 2 ≤ p).map Int.ofNat ++ (((List.range (n + 1)).filter fun p => p % 2 = 1 ∧ 3 ≤ p).map Int.ofNat).reverse
theorem cou_zero : ∀ n : Nat, (coursingL n).take 0 = [] := fun _ => List.take_zero
theorem cou_even : ∀ n < 9, ∀ k < n / 2, (coursingL n).take (k + 1) = (coursingL n).take k ++ [((2 * k + 2 : Nat) : Int)] := by decide
theorem cou_odd : ∀ n < 9, ∀ j < (n - 1) / 2, (coursingL n).take (n / 2 + (j + 1)) = (coursingL n).take (n / 2 + j) ++ [((n - (n + 1) % 2 - 2 * j : Nat) : Int)] := by decide
theorem cou_down : ∀ n < 9, ∀ j < n - 2, (coursingL n).take (n / 2 + ((n + 1) / 2 - (n - j) / 2)) = (coursingL n).take (n / 2 + ((n + 1) / 2 - (n + 1 - j) / 2)) ++ (if (n - j) % 2 = 1 then [((n - j : Nat) : Int)] else []) := by decide
theorem cou_all : ∀ n < 9, (coursingL n).take (n / 2 + (n - 1) / 2) = coursingL n := by decide
theorem cou_len : ∀ n < 9, (coursingL n).length = n - 1 := by decide
theorem cou_in : ∀ n < 9, ∀ k < (coursingL n).length, 2 ≤ (coursingL n).getD k 0 ∧ (coursingL n).getD k 0 ≤ n := by decide
theorem sub_one (l : List UInt8) (i : Nat) (h : i < l.length) : (l.take (i + 1)).drop i = [l.getD i 0] := by
  rw [List.take_add_one, List.drop_append, List.getD_eq_getElem?_getD, List.getElem?_eq_getElem h]
  simp [Nat.min_eq_left (Nat.le_of_lt h)]
theorem take_map_succ {α β : Type} (f : α → β) (d : α) (l : List α) (k : Nat) (h : k < l.length) : (l.take (k + 1)).map f = (l.take k).map f ++ [f (l.getD k d)] := by
  rw [List.take_add_one, List.getElem?_eq_getElem h, List.getD_eq_getElem?_getD, List.getElem?_eq_getElem h, List.map_append]
  rfl
/-- The coursing order of a row. -/
def courseL (l : List UInt8) : List UInt8 := (coursingL l.length).map fun p => l.getD (p.toNat - 1) 0
def courseV (l : List UInt8) : Value := if IsRow l ∧ 4 ≤ l.length then .tuple ⟨[S (courseL l), .bool true]⟩ else .tuple ⟨[S [], .bool false]⟩
/-- The bells laid out after k of the course. -/
def rocM (n f : Nat) (l : List UInt8) : Nat → List UInt8
  | 0 => (List.replicate n 0).set 0 (UInt8.ofNat (48 + f))
  | k + 1 => (rocM n f l k).set ((coursingL n).getD k 0 - 1).toNat (l.getD k 0)
theorem rocM_len (n f : Nat) (l : List UInt8) (k : Nat) : (rocM n f l k).length = n := by
  induction k with
  | zero => simp [rocM]
  | succ k ih => simp [rocM, ih]
def rocV (f : Int) (l : List UInt8) : Value := if (4 ≤ l.length + 1 ∧ l.length + 1 ≤ 8) ∧ (1 ≤ f ∧ f ≤ l.length + 1) ∧ IsRow (rocM (l.length + 1) f.toNat l l.length) then .tuple ⟨[S (rocM (l.length + 1) f.toNat l l.length), .bool true]⟩ else .tuple ⟨[S [], .bool false]⟩
end Go.Proofs.Ytfklonhjgkahdaa
