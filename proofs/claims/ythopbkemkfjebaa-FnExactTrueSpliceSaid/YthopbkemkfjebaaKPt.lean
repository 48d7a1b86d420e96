/-
  Plain lists: products of rows along a touch. No program.
  Conditions: none.
-/
import Derived.Test.YthopbkemkfjebaaKPd
import Derived.Test.YthopbkemkfjebaaKPh
set_option linter.unusedSimpArgs false
set_option linter.unusedVariables false
set_option linter.defProp false
namespace Go.Proofs.Ythopbkemkfjebaa
open Go
/-- A group. -/
structure Grp (G : Type) where
  mul : G → G → G
  one : G
  inv : G → G
  assoc : ∀ a b c, mul (mul a b) c = mul a (mul b c)
  one_mul : ∀ a, mul one a = a
  mul_one : ∀ a, mul a one = a
  inv_mul : ∀ a, mul (inv a) a = one
  mul_inv : ∀ a, mul a (inv a) = one
namespace Grp
variable {G α : Type} (g : Grp G)
end Grp
section
variable {α : Type} {n : Nat} {H : α → List UInt8} (hn : 3 ≤ n ∧ n ≤ 8) (hH : ∀ c, IsRow (H c) ∧ (H c).length = n)
include hn hH
end
theorem under_times (cs : List (List UInt8)) : ∀ {l : List UInt8}, IsRow l → underL l cs = timesL l (underL (roundsL l.length) cs) := by
  induction cs with
  | nil => intro l h; exact (times_rounds h.1.2).symm
  | cons c cs ih =>
    intro l h
    have hr := roundsL_row _ h.1
    have hu := underL_row cs hr
    have hul : (underL (roundsL l.length) cs).length = l.length := by rw [underL_len, roundsL_len]
    have h1 := ih (applyL_row c h)
    have h2 := ih (applyL_row c hr)
    rw [applyL_len] at h1
    rw [applyL_len, roundsL_len] at h2
    show underL (applyL l c) cs = timesL l (underL (applyL (roundsL l.length) c) cs)
    rw [h1, h2, applyL, applyL, roundsL_len]
    have hc := rounds_times (chgL_row l.length c h.1)
    rw [chgL_len] at hc
    rw [hc]
    exact timesL_assoc l hu (by rw [chgL_len, hul])
theorem under_row {n : Nat} (hn : 3 ≤ n ∧ n ≤ 8) (cs : List (List UInt8)) : IsRow (underL (roundsL n) cs) ∧ (underL (roundsL n) cs).length = n := ⟨underL_row _ (roundsL_row n hn), by rw [underL_len, roundsL_len]⟩
end Go.Proofs.Ythopbkemkfjebaa
