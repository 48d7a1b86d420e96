/-
  Lists of texts: the laws' helpers (size, copy, comparison, marks) and lists of rows.
  Conditions: none.
-/
import Derived.Test.YtnbnofmnbopknaaDoorA1
set_option linter.unusedSimpArgs false
set_option linter.unusedVariables false
set_option linter.defProp false
namespace Go.Proofs.YtnbnofmnbopknaaDoor
open Go Go.RowKit
section
variable (P : Program) (k : KT) (e : Env) (w : World)
end

theorem getD_mem {α : Type} {l : List α} {k : Nat} (d : α) (h : k < l.length) : l.getD k d ∈ l := by rw [List.getD_eq_getElem?_getD, List.getElem?_eq_getElem h]; exact List.getElem_mem h
theorem mem_take {α : Type} {l : List α} {k : Nat} {d x : α} (h : k < l.length) (hx : x ∈ l.take (k + 1)) : x ∈ l.take k ∨ x = l.getD k d := by
  rw [List.take_add_one, List.getElem?_eq_getElem h] at hx
  rcases List.mem_append.1 hx with h' | h'
  · exact .inl h'
  · rw [List.getD_eq_getElem?_getD, List.getElem?_eq_getElem h]
    exact .inr (by simpa using h')
theorem fill_set {α : Type} (l : List α) (d : α) (k : Nat) (h : k < l.length) : (l.take k ++ List.replicate (l.length - k) d).set k (l.getD k d) = l.take (k + 1) ++ List.replicate (l.length - (k + 1)) d := by
  rw [List.set_append_right _ _ (by simp; omega), List.length_take, Nat.min_eq_left (by omega), Nat.sub_self, show l.length - k = (l.length - (k + 1)) + 1 by omega, List.replicate_succ, List.set_cons_zero, List.take_add_one, List.getElem?_eq_getElem h, List.getD_eq_getElem?_getD, List.getElem?_eq_getElem h]
  simp only [Option.toList_some, Option.getD_some, List.append_assoc, List.cons_append, List.nil_append]
theorem ne_at {α : Type} {l l' : List α} {d : α} (k : Nat) (h : ¬ l.getD k d = l'.getD k d) : ¬ l = l' := fun e => h (by rw [e])
theorem eq_take {α : Type} {l l' : List α} {d : α} {k : Nat} (h : l.take k = l'.take k) (h1 : k < l.length) (h2 : k < l'.length) (e : l.getD k d = l'.getD k d) : l.take (k + 1) = l'.take (k + 1) := by
  rw [List.getD_eq_getElem?_getD, List.getD_eq_getElem?_getD, List.getElem?_eq_getElem h1, List.getElem?_eq_getElem h2, Option.getD_some, Option.getD_some] at e
  rw [List.take_add_one, List.take_add_one, h, List.getElem?_eq_getElem h1, List.getElem?_eq_getElem h2, e]
theorem eq_len {α : Type} {l l' : List α} (h : l.take l.length = l'.take l.length) (e : l.length = l'.length) : l = l' := by
  rw [List.take_length, e, List.take_length] at h; exact h

/-- The digits of a number above 0; none for 0. -/
def digs (k : Nat) : List UInt8 := if h : k = 0 then [] else digs (k / 10) ++ [UInt8.ofNat (48 + k % 10)]
termination_by k
decreasing_by omega
/-- A mark: the letter m and the number. -/
def markL (k : Nat) : List UInt8 := if k = 0 then [109, 48] else 109 :: digs k
theorem digs_step (k : Nat) (h : 0 < k) : digs k = digs (k / 10) ++ [UInt8.ofNat (48 + k % 10)] := by
  rw [digs, dif_neg (by omega)]
/-- n marks from k on. -/
def marksL (k n : Nat) : List (List UInt8) := (List.range n).map fun i => markL (k + i)
theorem marksL_len (k n : Nat) : (marksL k n).length = n := by simp [marksL]
theorem marksL_get (k n i : Nat) (h : i < n) : (marksL k n).getD i [] = markL (k + i) := by
  unfold marksL
  rw [List.getD_eq_getElem?_getD, List.getElem?_map, List.getElem?_range h]; rfl
theorem marksL_succ (k n : Nat) : marksL k (n + 1) = marksL k n ++ [markL (k + n)] := by simp [marksL, List.range_succ]
theorem grown_refl (w : World) (row : Option Nat) : w.grownBy w row := ⟨rfl, rfl, rfl, Nat.le_refl _, fun _ _ _ => rfl⟩
theorem grown_trans {a b c : World} {row : Option Nat} (h : a.grownBy b row) (k : b.grownBy c row) : a.grownBy c row :=
  ⟨k.os.trans h.os, k.tape.trans h.tape, k.output.trans h.output, Nat.le_trans h.size k.size, fun i hi hr => (k.block i (Nat.lt_of_lt_of_le hi h.size) hr).trans (h.block i hi hr)⟩
theorem grown_ext {a b : World} (row : Option Nat) (h : Ext a b) : a.grownBy b row := ⟨h.os, h.tape, h.output, h.size, fun _ hi _ => h.block hi⟩
theorem set_marks (l : List (List UInt8)) (k i : Nat) (h : i < l.length) : (marksL k i ++ l.drop i).set i (markL (k + i)) = marksL k (i + 1) ++ l.drop (i + 1) := by
  rw [List.set_append_right _ _ (by rw [marksL_len]; omega), marksL_len, Nat.sub_self, List.drop_eq_getElem_cons h, List.set_cons_zero, marksL_succ, List.append_assoc]; rfl
def IsRows (l : List (List UInt8)) : Prop := (∀ r ∈ l, IsRow r ∧ r.length = (l.getD 0 []).length) ∧ l.length ≤ 800
instance (l : List (List UInt8)) : Decidable (IsRows l) := by unfold IsRows; infer_instance
end Go.Proofs.YtnbnofmnbopknaaDoor
