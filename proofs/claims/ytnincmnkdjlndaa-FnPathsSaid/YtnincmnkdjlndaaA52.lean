/-
  Place bells, plain facts: the cycle's length divides the order; the ends of a path.
  Conditions: none.
-/
import Derived.Test.YtnincmnkdjlndaaA51
import Derived.Test.YtnincmnkdjlndaaA50
import Derived.Test.YtnincmnkdjlndaaA46
set_option linter.unusedSimpArgs false
set_option linter.unusedVariables false
set_option linter.defProp false
namespace Go.Proofs.Ytnincmnkdjlndaa
open Go Go.RowKit
theorem bell_pow {a : List UInt8} (ha : IsRow a) (x : Nat) (hx : x < a.length) : ∀ j, bell (powL a j) x = itb a j x := by
  intro j
  induction j generalizing x with
  | zero =>
    show bell (roundsL a.length) x = x
    unfold bell
    rw [roundsL_get _ _ hx, UInt8.toNat_ofNat', Nat.mod_eq_of_lt (by have := ha.1; omega)]
    omega
  | succ j ih =>
    rw [itb_step, ← ih _ (ha.bell_lt hx)]
    show bell (timesL (powL a j) a) x = _
    unfold bell
    rw [timesL_get _ _ _ hx]
    rfl
theorem bell_turn {a : List UInt8} (ha : IsRow a) {x : Nat} (hx : x < a.length) : bell (turnL a) (bell a x) = x := by
  unfold bell
  have := turnL_at ha hx
  unfold bell at this
  rw [this, UInt8.toNat_ofNat', Nat.mod_eq_of_lt (by have := ha.1; omega)]
  omega
theorem itb_turn {a : List UInt8} (ha : IsRow a) : ∀ j x, x < a.length → itb (turnL a) j (itb a j x) = x := by
  intro j
  induction j with
  | zero => intro x _; rfl
  | succ j ih =>
    intro x hx
    rw [itb_step]
    show itb (turnL a) j (bell (turnL a) (bell a (itb a j x))) = x
    rw [bell_turn ha (itb_lt ha hx j)]
    exact ih x hx
theorem per_dvd {a : List UInt8} (ha : IsRow a) {x k : Nat} (hx : x < a.length) (hO : IsOrd a k) : k % per (turnL a) x = 0 := by
  have ht := turnL_row ha
  have hxt : x < (turnL a).length := by rw [turnL_len]; exact hx
  have hp := per_is ht hxt
  have h1 : itb a k x = x := by
    rw [← bell_pow ha x hx, hO.2.2.1]
    unfold bell
    rw [roundsL_get _ _ hx, UInt8.toNat_ofNat', Nat.mod_eq_of_lt (by have := ha.1; omega)]
    omega
  have h2 : itb (turnL a) k x = x := by
    have := itb_turn ha k x hx
    rw [h1] at this
    exact this
  have hmul : ∀ q, itb (turnL a) (per (turnL a) x * q) x = x := fun q => by
    induction q with
    | zero => rfl
    | succ q ih => rw [Nat.mul_succ, itb_add, ih, hp.2.2.1]
  refine Classical.byContradiction fun hne => ?_
  have hlt := Nat.mod_lt k (show per (turnL a) x > 0 by have := hp.1; omega)
  refine hp.2.2.2 (k % per (turnL a) x) (by omega) hlt ?_
  have hdm := Nat.div_add_mod k (per (turnL a) x)
  rw [← hdm, itb_add, hmul] at h2
  exact h2
theorem plc_rounds {n x : Nat} (hn : 3 ≤ n ∧ n ≤ 8) (hx : x < n) : plcL (roundsL n) ((x + 1 : Nat) : Int) = x + 1 := by
  have hr := roundsL_row n hn
  have hxl : x < (roundsL n).length := by rw [roundsL_len]; exact hx
  have hb : bell (roundsL n) x = x := by
    unfold bell
    rw [roundsL_get _ _ hx, UInt8.toNat_ofNat', Nat.mod_eq_of_lt (by omega)]
    omega
  have ht := bell_turn hr hxl
  rw [hb] at ht
  rw [plc_turn hr hxl, ht]
end Go.Proofs.Ytnincmnkdjlndaa
