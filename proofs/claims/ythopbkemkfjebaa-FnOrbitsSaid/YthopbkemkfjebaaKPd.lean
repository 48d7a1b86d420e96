/-
  Plain lists: rows by their rank; changes: what one is, which row it makes of rounds. No program.
  Conditions: none.
-/
import Derived.Test.YthopbkemkfjebaaKPb
set_option linter.unusedSimpArgs false
set_option linter.unusedVariables false
set_option linter.defProp false
namespace Go.Proofs.Ythopbkemkfjebaa
open Go
/-- The number of rows. -/
def factL : Nat → Nat
  | 0 => 1
  | n + 1 => (n + 1) * factL n
theorem factL_le : ∀ n < 9, 1 ≤ factL n ∧ factL n ≤ 40320 := by decide
theorem factL_pos (n : Nat) : 0 < factL n := by
  induction n with
  | zero => decide
  | succ n ih => exact Nat.mul_pos (by omega) ih
/-- The row of rank k of the bells l. -/
def rowGo : Nat → List UInt8 → Nat → List UInt8
  | 0, _, _ => []
  | i + 1, l, k => l.getD (k / factL i) 0 :: rowGo i (l.take (k / factL i) ++ l.drop (k / factL i + 1)) (k % factL i)
theorem rowGo_len (i : Nat) : ∀ (l : List UInt8) (k : Nat), (rowGo i l k).length = i := by
  induction i with
  | zero => intro l k; rfl
  | succ i ih => intro l k; simp only [rowGo, List.length_cons, ih]
theorem rank_lt (i k : Nat) (h : k < factL (i + 1)) : k / factL i < i + 1 ∧ k % factL i < factL i :=
  ⟨(Nat.div_lt_iff_lt_mul (factL_pos i)).2 h, Nat.mod_lt _ (factL_pos i)⟩
theorem getD_set {α : Type} (l : List α) (i j : Nat) (a d : α) : (l.set i a).getD j d = if i = j ∧ j < l.length then a else l.getD j d := by
  rw [List.getD_eq_getElem?_getD, List.getD_eq_getElem?_getD, List.getElem?_set]
  by_cases h : i = j
  · subst h
    by_cases h2 : i < l.length
    · simp [h2]
    · simp [h2]
  · simp [h]
/-- The first k places of a change grow, each of the other parity than the one ahead of it, the first one odd. -/
def Chain (c : List UInt8) (k : Nat) : Prop := ∀ i < k, 49 ≤ (c.getD i 0).toNat ∧ (if i = 0 then (c.getD 0 0).toNat % 2 = 1 else (c.getD (i - 1) 0).toNat < (c.getD i 0).toNat ∧ ((c.getD i 0).toNat + (c.getD (i - 1) 0).toNat) % 2 = 1)
instance (c : List UInt8) (k : Nat) : Decidable (Chain c k) := by unfold Chain; infer_instance
theorem Chain.succ {c : List UInt8} {k : Nat} (h : Chain c k) (h1 : 49 ≤ (c.getD k 0).toNat) (h2 : if k = 0 then (c.getD 0 0).toNat % 2 = 1 else (c.getD (k - 1) 0).toNat < (c.getD k 0).toNat ∧ ((c.getD k 0).toNat + (c.getD (k - 1) 0).toNat) % 2 = 1) : Chain c (k + 1) := fun i hi => by
  by_cases he : i = k
  · subst he; exact ⟨h1, h2⟩
  · exact h i (by omega)
theorem Chain.par {c : List UInt8} {k : Nat} (h : Chain c k) : ∀ i < k, (c.getD i 0).toNat % 2 = (i + 1) % 2 ∧ 49 + i ≤ (c.getD i 0).toNat := by
  intro i
  induction i with
  | zero => intro hi; have := h 0 hi; rw [if_pos rfl] at this; omega
  | succ i ih =>
    intro hi
    have h1 := ih (by omega)
    have h2 := h (i + 1) hi
    rw [if_neg (by omega), Nat.add_sub_cancel] at h2
    omega
/-- A change of stage n. -/
def IsChange (n : Int) (c : List UInt8) : Prop := (3 ≤ n ∧ n ≤ 8) ∧ ((c = [45] ∧ n % 2 = 0) ∨ (c ≠ [] ∧ (c.length : Int) ≠ n ∧ Chain c c.length ∧ ((c.getD (c.length - 1) 0).toNat : Int) % 2 = n % 2 ∧ ((c.getD (c.length - 1) 0).toNat : Int) - 48 ≤ n))
instance (n : Int) (c : List UInt8) : Decidable (IsChange n c) := by unfold IsChange; infer_instance
theorem IsChange.len {n : Int} {c : List UInt8} (h : IsChange n c) : 1 ≤ c.length ∧ (c.length : Int) ≤ n - 2 := by
  obtain ⟨h1, h2 | ⟨h2, h3, h4, h5, h6⟩⟩ := h
  · rw [h2.1]; simp; omega
  · have h0 : 0 < c.length := List.length_pos_iff.2 h2
    have := h4.par (c.length - 1) (by omega)
    omega
theorem Chain.mono {c : List UInt8} {k : Nat} (h : Chain c k) : ∀ i j, i ≤ j → j < k → (c.getD i 0).toNat ≤ (c.getD j 0).toNat := by
  intro i j hij
  induction j with
  | zero => intro _; obtain rfl : i = 0 := by omega
            exact Nat.le_refl _
  | succ j ih =>
    intro hj
    by_cases he : i = j + 1
    · subst he; exact Nat.le_refl _
    · have h1 := ih (by omega) (by omega)
      have h2 := h (j + 1) hj
      rw [if_neg (by omega), Nat.add_sub_cancel] at h2
      omega
end Go.Proofs.Ythopbkemkfjebaa
