/-
  Plain lists: rotations of a text and the least of them. No program.
  Conditions: none.
-/
import Derived.Test.YtpnopboffalfnaaPb
import GoSem.Op.String
set_option linter.unusedSimpArgs false
set_option linter.unusedVariables false
set_option linter.defProp false
namespace Go.Proofs.Ytpnopboffalfnaa
open Go
theorem less_tot : ∀ (a b : List UInt8), (Op.bytesLess a b = true ∨ a = b) ↔ Op.bytesLess b a = false := by
  intro a
  induction a with
  | nil =>
    intro b
    cases b with
    | nil => simp [Op.bytesLess]
    | cons y b => simp [Op.bytesLess]
  | cons x a ih =>
    intro b
    cases b with
    | nil => simp [Op.bytesLess]
    | cons y b =>
      have := ih b
      simp only [Op.bytesLess]
      by_cases h1 : x < y
      · have h2 : ¬ y < x := fun h => by have := UInt8.lt_iff_toNat_lt.1 h1; have := UInt8.lt_iff_toNat_lt.1 h; omega
        have h3 : ¬ y = x := fun e => by subst e; exact h2 h1
        simp [h1, h2, h3]
      · by_cases h2 : y < x
        · have h3 : ¬ x = y := fun e => by subst e; exact h1 h2
          simp [h1, h2, h3]
        · have h3 : x = y := UInt8.toNat_inj.1 (by
            have := mt UInt8.lt_iff_toNat_lt.2 h1; have := mt UInt8.lt_iff_toNat_lt.2 h2; omega)
          subst h3
          simpa [h1] using this
/-- The lesser of two texts. -/
def minT (a b : List UInt8) : List UInt8 := if Op.bytesLess b a then b else a
theorem minT_mn (a b : List UInt8) : (if Op.bytesLess a b || decide (a = b) then a else b) = minT a b := by
  have h := less_tot a b
  unfold minT
  cases hb : Op.bytesLess b a with
  | false =>
    have := h.2 hb
    rw [if_pos (by simpa using this)]; simp
  | true =>
    have : ¬ (Op.bytesLess a b = true ∨ a = b) := fun hh => by have := h.1 hh; rw [hb] at this; cases this
    rw [if_neg (by simpa using this)]; simp
theorem minT_mn' (a b : List UInt8) [Decidable (Op.bytesLess a b = true ∨ a = b)] : (if Op.bytesLess a b = true ∨ a = b then a else b) = minT a b := by
  rw [← minT_mn]
  by_cases h : Op.bytesLess a b = true ∨ a = b
  · rw [if_pos h, if_pos (by simpa using h)]
  · rw [if_neg h, if_neg (by simpa using h)]
theorem minT_comm (a b : List UInt8) : minT a b = minT b a := by
  have h1 := less_tot a b
  have h2 := less_tot b a
  unfold minT
  cases hb : Op.bytesLess b a <;> cases ha : Op.bytesLess a b
  · have := h1.2 hb
    rw [ha] at this
    have : a = b := by simpa using this
    simp [this]
  · simp
  · simp
  · have := h1.1 (.inl ha); rw [hb] at this; cases this
theorem less_trans : ∀ (a b c : List UInt8), Op.bytesLess a b = true → Op.bytesLess b c = true → Op.bytesLess a c = true := by
  intro a
  induction a with
  | nil =>
    intro b c h1 h2
    cases b <;> cases c <;> simp_all [Op.bytesLess]
  | cons x a ih =>
    intro b c h1 h2
    cases b with
    | nil => simp [Op.bytesLess] at h1
    | cons y b =>
      cases c with
      | nil => simp [Op.bytesLess] at h2
      | cons z c =>
        have hi := ih b c
        simp only [Op.bytesLess, Bool.or_eq_true, decide_eq_true_eq, Bool.and_eq_true, beq_iff_eq, UInt8.lt_iff_toNat_lt] at h1 h2 ⊢
        rcases h1 with h1 | ⟨rfl, h1⟩
        · rcases h2 with h2 | ⟨rfl, _⟩
          · exact .inl (by omega)
          · exact .inl h1
        · rcases h2 with h2 | ⟨rfl, h2⟩
          · exact .inl h2
          · exact .inr ⟨rfl, hi h1 h2⟩
/-- a is not behind b. -/
def LeT (a b : List UInt8) : Prop := Op.bytesLess b a = false
theorem LeT.refl (a : List UInt8) : LeT a a := (less_tot a a).1 (.inr rfl)
theorem LeT.anti {a b : List UInt8} (h : LeT a b) (k : LeT b a) : a = b := by
  rcases (less_tot a b).2 h with h1 | h1
  · unfold LeT at k; rw [k] at h1; cases h1
  · exact h1
theorem LeT.trans {a b c : List UInt8} (h : LeT a b) (k : LeT b c) : LeT a c := by
  rcases (less_tot a b).2 h with h1 | h1
  · rcases (less_tot b c).2 k with h2 | h2
    · exact (less_tot a c).1 (.inl (less_trans a b c h1 h2))
    · subst h2; exact h
  · subst h1; exact k
theorem minT_le (a b : List UInt8) : LeT (minT a b) a ∧ LeT (minT a b) b := by
  unfold minT
  cases hb : Op.bytesLess b a with
  | false => simp only [Bool.false_eq_true, if_false]; exact ⟨LeT.refl a, hb⟩
  | true => simp only [if_true]; exact ⟨(less_tot b a).1 (.inl hb), LeT.refl b⟩
theorem minT_or (a b : List UInt8) : minT a b = a ∨ minT a b = b := by unfold minT; split <;> simp
/-- A text rotated to the left. -/
def turnT (t : List UInt8) (n : Nat) : List UInt8 := t.drop n ++ t.take n
theorem turnT_len (t : List UInt8) (n : Nat) (h : n ≤ t.length) : (turnT t n).length = t.length := by
  unfold turnT; rw [List.length_append, List.length_drop, List.length_take]; omega
theorem turnT_get (t : List UInt8) (n i : Nat) (hn : n ≤ t.length) (hi : i < t.length) : (turnT t n).getD i 0 = t.getD ((n + i) % t.length) 0 := by
  unfold turnT
  by_cases h : n + i < t.length
  · rw [List.getD_eq_getElem?_getD, List.getElem?_append_left (by rw [List.length_drop]; omega), List.getElem?_drop, Nat.mod_eq_of_lt h, List.getD_eq_getElem?_getD]
  · rw [List.getD_eq_getElem?_getD, List.getElem?_append_right (by rw [List.length_drop]; omega), List.length_drop, List.getElem?_take, if_pos (by omega), Nat.mod_eq_sub_mod (by omega), Nat.mod_eq_of_lt (by omega), List.getD_eq_getElem?_getD]
    congr 2; omega
theorem turnT_zero (t : List UInt8) : turnT t 0 = t := by simp [turnT]
theorem turnT_turnT (t : List UInt8) (n m : Nat) (hn : n < t.length) (hm : m < t.length) : turnT (turnT t n) m = turnT t ((n + m) % t.length) := by
  have h1 := turnT_len t n (by omega)
  have h2 := turnT_len (turnT t n) m (by omega)
  have hlt := Nat.mod_lt (n + m) (show 0 < t.length by omega)
  have h3 := turnT_len t ((n + m) % t.length) (by omega)
  refine ext_getD (d := 0) (by omega) fun i hi => ?_
  rw [turnT_get _ _ _ (by omega) (by omega), h1, turnT_get _ _ _ (by omega) (Nat.mod_lt _ (by omega)), turnT_get _ _ _ (by omega) (by omega)]
  congr 1
  rw [Nat.add_mod n, Nat.mod_mod, ← Nat.add_mod, Nat.add_mod ((n + m) % t.length), Nat.mod_mod, ← Nat.add_mod, Nat.add_assoc]
/-- The least of the first k rotations. -/
def leastTo (t : List UInt8) : Nat → List UInt8
  | 0 => t
  | k + 1 => minT (leastTo t k) (turnT t k)
def leastL (t : List UInt8) : List UInt8 := leastTo t t.length
theorem leastTo_le (t : List UInt8) : ∀ k, LeT (leastTo t k) t ∧ (∀ n < k, LeT (leastTo t k) (turnT t n)) ∧ (leastTo t k = t ∨ ∃ n < k, leastTo t k = turnT t n) := by
  intro k
  induction k with
  | zero => exact ⟨LeT.refl t, fun n h => absurd h (Nat.not_lt_zero n), .inl rfl⟩
  | succ k ih =>
    obtain ⟨h1, h2, h3⟩ := ih
    have hm := minT_le (leastTo t k) (turnT t k)
    refine ⟨hm.1.trans h1, fun n hn => ?_, ?_⟩
    · rcases Nat.lt_succ_iff_lt_or_eq.1 hn with h | rfl
      · exact hm.1.trans (h2 n h)
      · exact hm.2
    · show minT _ _ = t ∨ ∃ n < k + 1, minT _ _ = turnT t n
      rcases minT_or (leastTo t k) (turnT t k) with e | e
      · rw [e]
        rcases h3 with h | ⟨n, hn, h⟩
        · exact .inl h
        · exact .inr ⟨n, by omega, h⟩
      · exact .inr ⟨k, by omega, e⟩
theorem leastL_is (t : List UInt8) (h : 1 ≤ t.length) : (∀ n < t.length, LeT (leastL t) (turnT t n)) ∧ ∃ n < t.length, leastL t = turnT t n := by
  obtain ⟨h1, h2, h3⟩ := leastTo_le t t.length
  refine ⟨h2, ?_⟩
  rcases h3 with h3 | h3
  · exact ⟨0, by omega, by rw [turnT_zero]; exact h3⟩
  · exact h3
theorem leastL_le (t : List UInt8) : LeT (leastL t) t := (leastTo_le t t.length).1
/-- All rotations have the same least one. -/
theorem leastL_turn (t : List UInt8) (n : Nat) (hn : n < t.length) : leastL (turnT t n) = leastL t := by
  have hl := turnT_len t n (by omega)
  obtain ⟨a1, p, hp, a2⟩ := leastL_is t (by omega)
  obtain ⟨b1, q, hq, b2⟩ := leastL_is (turnT t n) (by omega)
  rw [hl] at b1 hq
  refine LeT.anti ?_ ?_
  · -- the least rotation of t is one of the other's
    have e : turnT (turnT t n) ((p + (t.length - n)) % t.length) = turnT t p := by
      rw [turnT_turnT t n _ hn (Nat.mod_lt _ (by omega))]
      congr 1
      rw [Nat.add_mod, Nat.mod_mod, ← Nat.add_mod, show n + (p + (t.length - n)) = p + t.length by omega, Nat.add_mod_right, Nat.mod_eq_of_lt hp]
    rw [a2, ← e]
    exact b1 _ (Nat.mod_lt _ (by omega))
  · rw [b2, turnT_turnT t n q hn hq]
    exact a1 _ (Nat.mod_lt _ (by omega))
/-- The least rotation, perhaps also of the reversal. -/
def leastB (back t : List UInt8) (both : Bool) : List UInt8 := if both then minT (leastL t) (leastL back) else leastL t
end Go.Proofs.Ytpnopboffalfnaa
