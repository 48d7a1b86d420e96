/-
  Course paths, of both sides.
  Conditions: none.
-/
import Derived.Test.YtnincmnkdjlndaaA49
set_option linter.unusedSimpArgs false
set_option linter.unusedVariables false
set_option linter.defProp false
namespace Go.Proofs.Ytnincmnkdjlndaa
open Go Go.RowKit
section
variable (P : Program) (k : KT) (e : Env) (w : World)
end

/-- The path of a bell in a lead, without the lead head. -/
def lpL (n : Nat) (cs : List (List UInt8)) (b : Int) : List Int := (pathP (rowsU (roundsL n) cs (cs.length + 1)) b).take cs.length
theorem lpL_len (n : Nat) (cs : List (List UInt8)) (b : Int) : (lpL n cs b).length = cs.length := by
  rw [lpL, List.length_take, pathP_len, rowsU_len]; omega
/-- The paths of some bells, one behind the other. -/
def cpL (n : Nat) (cs : List (List UInt8)) (l : List Int) : List Int := l.flatMap (lpL n cs)
theorem cpL_len (n : Nat) (cs : List (List UInt8)) (l : List Int) : (cpL n cs l).length = l.length * cs.length := by
  unfold cpL
  induction l with
  | nil => simp
  | cons h hs ih => rw [List.flatMap_cons, List.length_append, ih, lpL_len, List.length_cons, Nat.add_mul]; omega
theorem cpL_succ (n : Nat) (cs : List (List UInt8)) (l : List Int) (k : Nat) (h : k < l.length) : cpL n cs (l.take (k + 1)) = cpL n cs (l.take k) ++ lpL n cs (l.getD k 0) := by
  unfold cpL
  rw [List.take_add_one, List.getElem?_eq_getElem h, List.getD_eq_getElem?_getD, List.getElem?_eq_getElem h, List.flatMap_append]
  simp
def cpR (nm : List UInt8) (st : Int) (cs : List (List UInt8)) (b : Int) : List Int := if pathOk nm st cs b then cpL st.toNat cs (pbL (underL (roundsL st.toNat) cs) (b.toNat - 1)) else []
theorem pbL_len {h : List UInt8} (hr : IsRow h) {x : Nat} (hx : x < h.length) : 1 ≤ (pbL h x).length ∧ (pbL h x).length ≤ 8 := by
  have hp := per_is (turnL_row hr) (i := x) (by rw [turnL_len]; exact hx)
  rw [← pbK_all, pbK_len]
  exact ⟨hp.1, hp.2.1⟩
end Go.Proofs.Ytnincmnkdjlndaa
