/-
  Plain lists: the cycles of a row, its order, its sign; ranks. No program.
  Conditions: none.
-/
import Derived.Test.YtfklonhjgkahdaaKPt
set_option linter.unusedSimpArgs false
set_option linter.unusedVariables false
set_option linter.defProp false
namespace Go.Proofs.Ytfklonhjgkahdaa
open Go
/-- The place to which k steps lead. -/
def itb (a : List UInt8) : Nat → Nat → Nat
  | 0, i => i
  | k + 1, i => bell a (itb a k i)
section
variable {a : List UInt8}
theorem itb_lt (h : IsRow a) {i : Nat} (hi : i < a.length) : ∀ k, itb a k i < a.length
  | 0 => hi
  | k + 1 => h.bell_lt (itb_lt h hi k)
theorem itb_add (j : Nat) (i : Nat) : ∀ k, itb a (j + k) i = itb a k (itb a j i)
  | 0 => rfl
  | k + 1 => by rw [← Nat.add_assoc]; show bell a _ = bell a _; rw [itb_add j i k]
theorem itb_inj (h : IsRow a) {i j : Nat} (hi : i < a.length) (hj : j < a.length) : ∀ k, itb a k i = itb a k j → i = j
  | 0, e => e
  | k + 1, e => itb_inj h hi hj k (h.inj' (itb_lt h hi k) (itb_lt h hj k) e)
theorem itb_pow (h : IsRow a) {i : Nat} (hi : i < a.length) : ∀ k, bell (powL a k) i = itb a k i
  | 0 => roundsL_bell _ _ h.1.2 hi
  | k + 1 => by
    have h1 := pow_bell h 1 k i hi
    have e : powL a 1 = a := rounds_times h
    rw [e, Nat.add_comm 1 k, itb_pow h hi k] at h1
    exact h1
/-- c is the length of the cycle of i. -/
def IsPer (a : List UInt8) (i c : Nat) : Prop := 1 ≤ c ∧ c ≤ 8 ∧ itb a c i = i ∧ ∀ j, 1 ≤ j → j < c → itb a j i ≠ i
theorem per_exists (h : IsRow a) {i : Nat} (hi : i < a.length) : ∃ c, IsPer a i c := by
  obtain ⟨c, h1, h8, hc⟩ := bell_home h hi
  rw [itb_pow h hi] at hc
  have least : ∀ n k, k ≤ n → 1 ≤ k → k ≤ 8 → itb a k i = i → ∃ c, IsPer a i c := by
    intro n
    induction n with
    | zero => intro k hk h1 _ _; omega
    | succ n ih =>
      intro k hk h1 h2 h3
      by_cases hx : ∃ j, 1 ≤ j ∧ j < k ∧ itb a j i = i
      · obtain ⟨j, hj1, hj2, hj3⟩ := hx
        exact ih j (by omega) hj1 (by omega) hj3
      · exact ⟨k, h1, h2, h3, fun j hj1 hj2 he => hx ⟨j, hj1, hj2, he⟩⟩
  exact least c c (Nat.le_refl _) h1 h8 hc
/-- The length of the cycle of i. -/
def per (a : List UInt8) (i : Nat) : Nat := ((List.range 9).find? fun c => decide (1 ≤ c) && decide (itb a c i = i)).getD 0
theorem per_is (h : IsRow a) {i : Nat} (hi : i < a.length) : IsPer a i (per a i) := by
  obtain ⟨c, hc⟩ := per_exists h hi
  have : (List.range 9).find? (fun c => decide (1 ≤ c) && decide (itb a c i = i)) = some c := by
    rw [List.find?_range_eq_some]
    refine ⟨by simp [hc.1, hc.2.2.1], by simp; have := hc.2.1; omega, fun j hj => ?_⟩
    by_cases h0 : 1 ≤ j
    · simp [hc.2.2.2 j h0 hj]
    · simp [h0]
  unfold per
  rw [this]
  exact hc
theorem IsPer.many {i c : Nat} (h : IsPer a i c) : ∀ m, itb a (c * m) i = i
  | 0 => rfl
  | m + 1 => by rw [Nat.mul_succ, itb_add, h.many m, h.2.2.1]
theorem IsPer.mod {i c : Nat} (h : IsPer a i c) (k : Nat) : itb a k i = itb a (k % c) i := by
  have e : c * (k / c) + k % c = k := Nat.div_add_mod k c
  rw [← congrArg (fun n => itb a n i) e]
  show itb a (c * (k / c) + k % c) i = _
  rw [itb_add, h.many]
theorem IsPer.inj (hr : IsRow a) {i c j k : Nat} (h : IsPer a i c) (hi : i < a.length) (hj : j < c) (hk : k < c) (he : itb a j i = itb a k i) : j = k := by
  have key : ∀ j k, j < k → k < c → itb a j i ≠ itb a k i := fun j k hjk hk he => by
    have e : itb a k i = itb a j (itb a (k - j) i) := by rw [← itb_add, Nat.sub_add_cancel (Nat.le_of_lt hjk)]
    rw [e] at he
    have := itb_inj hr hi (itb_lt hr hi _) j he
    exact h.2.2.2 (k - j) (by omega) (by omega) this.symm
  rcases Nat.lt_trichotomy j k with h1 | h1 | h1
  · exact absurd he (key j k h1 hk)
  · exact h1
  · exact absurd he.symm (key k j h1 hj)
/-- y lies in the cycle of x. -/
def InC (a : List UInt8) (x y : Nat) : Prop := ∃ k, itb a k x = y
theorem InC.refl (x : Nat) : InC a x x := ⟨0, rfl⟩
theorem InC.trans {x y z : Nat} (h : InC a x y) (k : InC a y z) : InC a x z := by
  obtain ⟨m, rfl⟩ := h
  obtain ⟨n, rfl⟩ := k
  exact ⟨m + n, itb_add m x n⟩
theorem InC.symm (hr : IsRow a) {x y : Nat} (hx : x < a.length) (h : InC a x y) : InC a y x := by
  obtain ⟨m, rfl⟩ := h
  have hp := per_is hr hx
  have h1 := hp.1
  refine ⟨per a x * m - m, ?_⟩
  rw [← itb_add]
  have : m ≤ per a x * m := Nat.le_mul_of_pos_left m h1
  rw [Nat.add_sub_cancel' this]
  exact hp.many m
theorem InC.small (hr : IsRow a) {x y : Nat} (hx : x < a.length) (h : InC a x y) : ∃ k, k < per a x ∧ itb a k x = y := by
  obtain ⟨m, rfl⟩ := h
  have hp := per_is hr hx
  exact ⟨m % per a x, Nat.mod_lt _ hp.1, (hp.mod m).symm⟩
end
end Go.Proofs.Ytfklonhjgkahdaa
