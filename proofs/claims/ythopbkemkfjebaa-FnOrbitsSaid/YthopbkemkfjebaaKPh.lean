/-
  Plain lists: the order of a row; the sign of a row and of a product. No program.
  Conditions: none.
-/
import Derived.Test.YthopbkemkfjebaaKPd
set_option linter.unusedSimpArgs false
set_option linter.unusedVariables false
set_option linter.defProp false
namespace Go.Proofs.Ythopbkemkfjebaa
open Go
theorem times_cancel {a b c : List UInt8} (ha : IsRow a) (hb : IsRow b) (hc : IsRow c) (h1 : a.length = b.length) (h2 : a.length = c.length) (h : timesL a b = timesL a c) : b = c := by
  have e1 := timesL_assoc (turnL a) (b := a) hb h1
  have e2 := timesL_assoc (turnL a) (b := a) hc h2
  rw [turn_times ha] at e1 e2
  rw [h1, rounds_times hb] at e1
  rw [h2, rounds_times hc] at e2
  rw [e1, e2, h]
theorem pow_bell {a : List UInt8} (h : IsRow a) (j k i : Nat) (hi : i < a.length) : bell (powL a (j + k)) i = bell (powL a j) (bell (powL a k) i) := by
  rw [powL_add h, timesL_bell _ _ _ (by rw [powL_len]; exact hi)]
theorem bell_home {a : List UInt8} (h : IsRow a) {i : Nat} (hi : i < a.length) : ∃ c, 1 ≤ c ∧ c ≤ 8 ∧ bell (powL a c) i = i := by
  have hlt (k : Nat) : bell (powL a k) i < a.length := by
    have := (powL_row h k).bell_lt (i := i) (by rw [powL_len]; exact hi)
    rwa [powL_len] at this
  obtain ⟨p, q, hpq, hq, he⟩ := pigeon a.length (fun k => bell (powL a k) i) (fun k _ => hlt k)
  have h8 := h.1
  refine ⟨q - p, by omega, by omega, ?_⟩
  have h1 := pow_bell h p (q - p) i hi
  rw [show p + (q - p) = q by omega, ← he] at h1
  exact ((powL_row h p).inj' (by rw [powL_len]; exact hi) (by rw [powL_len]; exact hlt _) h1).symm
end Go.Proofs.Ythopbkemkfjebaa
