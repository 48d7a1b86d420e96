/-
  Plain lists: the order of a row; the sign of a row and of a product. No program.
  Conditions: none.
-/
import Derived.Test.YtnincmnkdjlndaaPd
set_option linter.unusedSimpArgs false
set_option linter.unusedVariables false
set_option linter.defProp false
namespace Go.Proofs.Ytnincmnkdjlndaa
open Go
/-- A number for a list of bells. -/
def code8 (l : List UInt8) : Nat := l.foldr (fun c n => (c.toNat - 49) + 8 * n) 0
theorem code8_lt : ∀ l : List UInt8, (∀ c ∈ l, 49 ≤ c.toNat ∧ c.toNat < 57) → code8 l < 8 ^ l.length := by
  intro l
  induction l with
  | nil => intro _; decide
  | cons c l ih =>
    intro h
    have h1 := ih fun x hx => h x (by simp [hx])
    have h2 := h c (by simp)
    simp only [code8, List.foldr_cons, List.length_cons] at h1 ⊢
    rw [Nat.pow_succ]
    omega
theorem code8_inj : ∀ l l' : List UInt8, l.length = l'.length → (∀ c ∈ l, 49 ≤ c.toNat ∧ c.toNat < 57) → (∀ c ∈ l', 49 ≤ c.toNat ∧ c.toNat < 57) → code8 l = code8 l' → l = l' := by
  intro l
  induction l with
  | nil => intro l' hl _ _ _; exact (List.length_eq_zero_iff.1 hl.symm).symm
  | cons c l ih =>
    intro l' hl h h' he
    cases l' with
    | nil => simp at hl
    | cons d l' =>
      have h2 := h c (by simp)
      have h3 := h' d (by simp)
      simp only [code8, List.foldr_cons] at he
      have hcd : c = d := UInt8.toNat_inj.1 (by omega)
      subst hcd
      rw [ih l' (by simpa using hl) (fun x hx => h x (by simp [hx])) (fun x hx => h' x (by simp [hx])) (by simp only [code8]; omega)]
theorem row_bells {l : List UInt8} (h : IsRow l) : ∀ c ∈ l, 49 ≤ c.toNat ∧ c.toNat < 57 := fun c hc => by
  obtain ⟨i, hi, rfl⟩ := List.getElem_of_mem hc
  have h1 := h.low hi
  have h2 := h.high hi
  have h3 := h.1
  rw [List.getD_eq_getElem?_getD, List.getElem?_eq_getElem hi] at h1 h2
  simp only [Option.getD_some] at h1 h2
  omega
theorem times_cancel {a b c : List UInt8} (ha : IsRow a) (hb : IsRow b) (hc : IsRow c) (h1 : a.length = b.length) (h2 : a.length = c.length) (h : timesL a b = timesL a c) : b = c := by
  have e1 := timesL_assoc (turnL a) (b := a) hb h1
  have e2 := timesL_assoc (turnL a) (b := a) hc h2
  rw [turn_times ha] at e1 e2
  rw [h1, rounds_times hb] at e1
  rw [h2, rounds_times hc] at e2
  rw [e1, e2, h]
/-- k is the order of a. -/
def IsOrd (a : List UInt8) (k : Nat) : Prop := 1 ≤ k ∧ k ≤ 840 ∧ powL a k = roundsL a.length ∧ ∀ j, 1 ≤ j → j < k → powL a j ≠ roundsL a.length
theorem pow_bell {a : List UInt8} (h : IsRow a) (j k i : Nat) (hi : i < a.length) : bell (powL a (j + k)) i = bell (powL a j) (bell (powL a k) i) := by
  rw [powL_add h, timesL_bell _ _ _ (by rw [powL_len]; exact hi)]
theorem bell_home {a : List UInt8} (h : IsRow a) {i : Nat} (hi : i < a.length) : ∃ c, 1 ≤ c ∧ c ≤ 8 ∧ bell (powL a c) i = i := by
  have hlt (k : Nat) : bell (powL a k) i < a.length := by
    have := (powL_row h k).bell_lt (i := i) (by rw [powL_len]; exact hi)
    rwa [powL_len] at this
  obtain ⟨p, q, hpq, hq, he⟩ := pigeon a.length (fun k => bell (powL a k) i) (fun k _ => hlt k)
  have h8 := h.1
  refine ⟨q - p, by omega, by omega, ?_⟩
  have h1 := pow_bell h p (q - p) i hi
  rw [show p + (q - p) = q by omega, ← he] at h1
  exact ((powL_row h p).inj' (by rw [powL_len]; exact hi) (by rw [powL_len]; exact hlt _) h1).symm
theorem bell_many {a : List UInt8} (h : IsRow a) {i c : Nat} (hi : i < a.length) (hc : bell (powL a c) i = i) (m : Nat) : bell (powL a (c * m)) i = i := by
  induction m with
  | zero => exact roundsL_bell _ _ h.1.2 hi
  | succ m ih => rw [Nat.mul_succ, pow_bell h _ _ _ hi, hc, ih]
theorem pow_840 {a : List UInt8} (h : IsRow a) : powL a 840 = roundsL a.length := by
  refine row_ext (by rw [powL_len, roundsL_len]) (powL_row h _) (roundsL_row _ h.1) fun i hi => ?_
  rw [powL_len] at hi
  rw [roundsL_bell _ _ h.1.2 hi]
  obtain ⟨c, h1, h8, hc⟩ := bell_home h hi
  have hd : ∃ m, c * m = 840 := by
    have : c = 1 ∨ c = 2 ∨ c = 3 ∨ c = 4 ∨ c = 5 ∨ c = 6 ∨ c = 7 ∨ c = 8 := by omega
    rcases this with rfl | rfl | rfl | rfl | rfl | rfl | rfl | rfl
    · exact ⟨840, rfl⟩
    · exact ⟨420, rfl⟩
    · exact ⟨280, rfl⟩
    · exact ⟨210, rfl⟩
    · exact ⟨168, rfl⟩
    · exact ⟨140, rfl⟩
    · exact ⟨120, rfl⟩
    · exact ⟨105, rfl⟩
  obtain ⟨m, hm⟩ := hd
  rw [← hm]
  exact bell_many h hi hc m
theorem ord_some {a : List UInt8} (h : IsRow a) : ∃ k, 1 ≤ k ∧ k ≤ 840 ∧ powL a k = roundsL a.length := ⟨840, by decide, Nat.le_refl _, pow_840 h⟩
theorem ord_exists {a : List UInt8} (h : IsRow a) : ∃ k, IsOrd a k := by
  obtain ⟨k, h1, h2, h3⟩ := ord_some h
  have least : ∀ n k, k ≤ n → 1 ≤ k → k ≤ 840 → powL a k = roundsL a.length → ∃ k, IsOrd a k := by
    intro n
    induction n with
    | zero => intro k hk h1 _ _; omega
    | succ n ih =>
      intro k hk h1 h2 h3
      by_cases hx : ∃ j, 1 ≤ j ∧ j < k ∧ powL a j = roundsL a.length
      · obtain ⟨j, hj1, hj2, hj3⟩ := hx
        exact ih j (by omega) hj1 (by omega) hj3
      · exact ⟨k, h1, h2, h3, fun j hj1 hj2 he => hx ⟨j, hj1, hj2, he⟩⟩
  exact least k k (Nat.le_refl _) h1 h2 h3
/-- The number of inversions. -/
def invL : List UInt8 → Nat
  | [] => 0
  | x :: l => (l.filter fun y => decide (y.toNat < x.toNat)).length + invL l
/-- Neighbours change places, by recursion. -/
def swL : List UInt8 → Nat → List UInt8
  | x :: y :: l, 0 => y :: x :: l
  | x :: l, i + 1 => x :: swL l i
  | l, _ => l
theorem swL_swap : ∀ (l : List UInt8) (i : Nat), i + 1 < l.length → swL l i = swapL l i := by
  intro l
  induction l with
  | nil => intro i h; simp at h
  | cons x l ih =>
    intro i h
    cases i with
    | zero =>
      cases l with
      | nil => simp at h
      | cons y l => rfl
    | succ i =>
      simp only [List.length_cons] at h
      have := ih i (by omega)
      cases l with
      | nil => simp at h
      | cons y l =>
        simp only [swL, this]
        simp [swapL]
theorem sw_filter (p : UInt8 → Bool) : ∀ (l : List UInt8) (i : Nat), ((swL l i).filter p).length = (l.filter p).length := by
  intro l
  induction l with
  | nil => intro i; cases i <;> rfl
  | cons x l ih =>
    intro i
    cases i with
    | zero =>
      cases l with
      | nil => rfl
      | cons y l =>
        simp only [swL, List.filter_cons]
        split <;> split <;> simp
    | succ i =>
      simp only [swL, List.filter_cons]
      have := ih i
      split <;> simp [this]
theorem inv_sw : ∀ (l : List UInt8) (i : Nat), i + 1 < l.length → ((l.getD (i + 1) 0).toNat < (l.getD i 0).toNat → invL (swL l i) + 1 = invL l) ∧ ((l.getD i 0).toNat < (l.getD (i + 1) 0).toNat → invL (swL l i) = invL l + 1) := by
  intro l
  induction l with
  | nil => intro i h; simp at h
  | cons x l ih =>
    intro i h
    cases i with
    | zero =>
      cases l with
      | nil => simp at h
      | cons y l =>
        simp only [swL, invL, List.filter_cons, List.getD_cons_succ, List.getD_cons_zero]
        constructor
        · intro hlt
          rw [if_neg (by simp; omega), if_pos (by simpa using hlt), List.length_cons]
          omega
        · intro hlt
          rw [if_pos (by simpa using hlt), if_neg (by simp; omega), List.length_cons]
          omega
    | succ i =>
      simp only [List.length_cons] at h
      have hi := ih i (by omega)
      simp only [swL, invL, List.getD_cons_succ] at hi ⊢
      rw [sw_filter]
      exact ⟨fun hlt => by have := hi.1 hlt; omega, fun hlt => by have := hi.2 hlt; omega⟩
theorem times_swap (a : List UInt8) {b : List UInt8} {i : Nat} (hi : i + 1 < b.length) : timesL a (swapL b i) = swapL (timesL a b) i := by
  refine ext_getD (d := 0) (by rw [timesL_len, swapL_len, swapL_len, timesL_len]) fun j hj => ?_
  rw [timesL_len, swapL_len] at hj
  have hlt : (if j = i then i + 1 else if j = i + 1 then i else j) < b.length := by split <;> (try split) <;> omega
  rw [timesL_get a _ j (by rw [swapL_len]; exact hj), swapL_get (timesL a b) i j (by rw [timesL_len]; exact hi), timesL_get a b _ hlt]
  unfold bell
  rw [swapL_get b i j hi]
theorem inv_swap {l : List UInt8} {i : Nat} (h : IsRow l) (hi : i + 1 < l.length) : invL (swapL l i) % 2 = (invL l + 1) % 2 := by
  have hs := inv_sw l i hi
  rw [swL_swap l i hi] at hs
  have hne := (h.2 (i + 1) hi).2.2 i (by omega)
  have hn : (l.getD i 0).toNat ≠ (l.getD (i + 1) 0).toNat := fun e => hne (UInt8.toNat_inj.1 e)
  rcases Nat.lt_or_gt_of_ne hn with hlt | hgt
  · have := hs.2 hlt; omega
  · have := hs.1 hgt; omega
theorem rising_rounds {l : List UInt8} (h : IsRow l) (hr : ∀ i, i + 1 < l.length → (l.getD i 0).toNat ≤ (l.getD (i + 1) 0).toNat) : l = roundsL l.length := by
  have hstrict (i : Nat) (hi : i + 1 < l.length) : bell l i < bell l (i + 1) := by
    have h1 := hr i hi
    have h2 := (h.2 (i + 1) hi).2.2 i (by omega)
    have h3 : (l.getD i 0).toNat ≠ (l.getD (i + 1) 0).toNat := fun e => h2 (UInt8.toNat_inj.1 e)
    have h4 := h.low (i := i) (by omega)
    unfold bell
    omega
  have hlow : ∀ i, i < l.length → i ≤ bell l i := by
    intro i
    induction i with
    | zero => intro _; omega
    | succ i ih => intro hi; have := ih (by omega); have := hstrict i hi; omega
  have hhigh : ∀ k i, i + k + 1 = l.length → bell l i ≤ i := by
    intro k
    induction k with
    | zero => intro i hi; have := h.bell_lt (i := i) (by omega); omega
    | succ k ih => intro i hi; have := ih (i + 1) (by omega); have := hstrict i (by omega); omega
  refine row_ext (by rw [roundsL_len]) h (roundsL_row _ h.1) fun i hi => ?_
  rw [roundsL_bell _ _ h.1.2 hi]
  have h1 := hlow i hi
  have h2 := hhigh (l.length - i - 1) i (by omega)
  omega
theorem inv_rounds : ∀ n < 9, invL (roundsL n) = 0 := by decide
/-- The sign of a product. -/
theorem sign_times {a : List UInt8} (ha : IsRow a) : ∀ (n : Nat) (b : List UInt8), invL b ≤ n → IsRow b → a.length = b.length → invL (timesL a b) % 2 = (invL a + invL b) % 2 := by
  intro n
  induction n with
  | zero =>
    intro b hn hb hab
    by_cases hd : ∃ i, i + 1 < b.length ∧ (b.getD (i + 1) 0).toNat < (b.getD i 0).toNat
    · obtain ⟨i, hi, hlt⟩ := hd
      have := (inv_sw b i hi).1 hlt
      omega
    · have hb' := rising_rounds hb fun i hi => Nat.not_lt.1 fun h => hd ⟨i, hi, h⟩
      have h0 := inv_rounds b.length (by have := hb.1; omega)
      rw [← hb'] at h0
      rw [hb', ← hab, times_rounds ha.1.2, hab, ← hb', h0]
      rfl
  | succ n ih =>
    intro b hn hb hab
    by_cases hd : ∃ i, i + 1 < b.length ∧ (b.getD (i + 1) 0).toNat < (b.getD i 0).toNat
    · obtain ⟨i, hi, hlt⟩ := hd
      have h1 := (inv_sw b i hi).1 hlt
      rw [swL_swap b i hi] at h1
      have h2 := ih (swapL b i) (by omega) (swapL_row hb hi) (by rw [swapL_len]; exact hab)
      rw [times_swap a hi] at h2
      have h3 := inv_swap (timesL_row ha hb hab) (i := i) (by rw [timesL_len]; exact hi)
      omega
    · have hb' := rising_rounds hb fun i hi => Nat.not_lt.1 fun h => hd ⟨i, hi, h⟩
      have h0 := inv_rounds b.length (by have := hb.1; omega)
      rw [← hb'] at h0
      rw [hb', ← hab, times_rounds ha.1.2, hab, ← hb', h0]
      rfl
end Go.Proofs.Ytnincmnkdjlndaa
