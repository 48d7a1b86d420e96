/-
  Plain lists: rows as permutations: products, inverses, rounds. No program.
  Conditions: none.
-/
import Derived.Test.YtnbnofmnbopknaaDoorPa
set_option linter.unusedSimpArgs false
set_option linter.unusedVariables false
set_option linter.defProp false
namespace Go.Proofs.YtnbnofmnbopknaaDoor
open Go
theorem ext_getD {α : Type} {d : α} {l l' : List α} (h : l.length = l'.length) (he : ∀ i, i < l.length → l.getD i d = l'.getD i d) : l = l' := by
  apply List.ext_getElem? 
  intro i
  by_cases hi : i < l.length
  · have := he i hi
    rw [List.getD_eq_getElem?_getD, List.getD_eq_getElem?_getD, List.getElem?_eq_getElem hi, List.getElem?_eq_getElem (by omega), Option.getD_some, Option.getD_some] at this
    rw [List.getElem?_eq_getElem hi, List.getElem?_eq_getElem (by omega), this]
  · rw [List.getElem?_eq_none (by omega), List.getElem?_eq_none (by omega)]
theorem getD_map {α β : Type} (f : α → β) (d : α) (e : β) (l : List α) (i : Nat) (h : i < l.length) : (l.map f).getD i e = f (l.getD i d) := by
  rw [List.getD_eq_getElem?_getD, List.getD_eq_getElem?_getD, List.getElem?_map, List.getElem?_eq_getElem h]; rfl
theorem getD_range (n i e : Nat) (h : i < n) : (List.range n).getD i e = i := by
  rw [List.getD_eq_getElem?_getD, List.getElem?_range h]; rfl
theorem u8_nat {n : Nat} (h : n < 256) : (UInt8.ofNat n).toNat = n := by
  rw [UInt8.toNat_ofNat']; omega
theorem u8_eq {c : UInt8} {n : Nat} (h : c.toNat = n) : c = UInt8.ofNat n := by
  subst h; exact (UInt8.ofNat_toNat).symm

/-- No more than n holes for n + 1: two of them meet. -/
theorem pigeon : ∀ (n : Nat) (f : Nat → Nat), (∀ i, i < n + 1 → f i < n) → ∃ i j, i < j ∧ j < n + 1 ∧ f i = f j := by
  intro n
  induction n with
  | zero => intro f h; exact absurd (h 0 (by omega)) (by omega)
  | succ n ih =>
    intro f h
    by_cases hm : ∃ i, i < n + 1 ∧ f i = f (n + 1)
    · obtain ⟨i, hi, he⟩ := hm
      exact ⟨i, n + 1, by omega, by omega, he⟩
    · have hne : ∀ i, i < n + 1 → f i ≠ f (n + 1) := fun i hi he => hm ⟨i, hi, he⟩
      obtain ⟨i, j, hij, hj, he⟩ := ih (fun i => if f (n + 1) < f i then f i - 1 else f i) (fun i hi => by
        have h1 := h i (by omega)
        have h2 := h (n + 1) (by omega)
        have h3 := hne i hi
        split <;> omega)
      refine ⟨i, j, hij, by omega, ?_⟩
      have h1 := hne i (by omega)
      have h2 := hne j (by omega)
      split at he <;> split at he <;> omega
theorem onto {n : Nat} {f : Nat → Nat} (hf : ∀ i, i < n → f i < n) (hi : ∀ i j, i < j → j < n → f i ≠ f j) : ∀ p, p < n → ∃ i, i < n ∧ f i = p := by
  intro p hp
  by_cases h : ∃ i, i < n ∧ f i = p
  · exact h
  · exfalso
    have hne : ∀ i, i < n → f i ≠ p := fun i hi he => h ⟨i, hi, he⟩
    obtain ⟨m, rfl⟩ : ∃ m, n = m + 1 := ⟨n - 1, by omega⟩
    obtain ⟨i, j, hij, hj, he⟩ := pigeon m (fun i => if p < f i then f i - 1 else f i) (fun i hi => by
      have h1 := hf i hi
      have h2 := hne i hi
      split <;> omega)
    have h1 := hne i (by omega)
    have h2 := hne j hj
    refine hi i j hij hj ?_
    split at he <;> split at he <;> omega

/-- Place i's bell in the row, counted from 0. -/
def bell (l : List UInt8) (i : Nat) : Nat := (l.getD i 0).toNat - 49
theorem IsRow.low {l : List UInt8} (h : IsRow l) {i : Nat} (hi : i < l.length) : 49 ≤ (l.getD i 0).toNat := (h.2 i hi).1
theorem IsRow.high {l : List UInt8} (h : IsRow l) {i : Nat} (hi : i < l.length) : (l.getD i 0).toNat < 49 + l.length := (h.2 i hi).2.1
theorem IsRow.bell_lt {l : List UInt8} (h : IsRow l) {i : Nat} (hi : i < l.length) : bell l i < l.length := by
  have := h.low hi; have := h.high hi; unfold bell; omega
theorem IsRow.get {l : List UInt8} (h : IsRow l) {i : Nat} (hi : i < l.length) : l.getD i 0 = UInt8.ofNat (49 + bell l i) := by
  refine u8_eq ?_
  have := h.low hi; unfold bell; omega
theorem IsRow.inj {l : List UInt8} (h : IsRow l) {i j : Nat} (hij : i < j) (hj : j < l.length) : bell l i ≠ bell l j := fun he => by
  refine (h.2 j hj).2.2 i hij ?_
  rw [h.get (i := i) (by omega), h.get hj, he]
theorem IsRow.inj' {l : List UInt8} (h : IsRow l) {i j : Nat} (hi : i < l.length) (hj : j < l.length) (he : bell l i = bell l j) : i = j := by
  rcases Nat.lt_trichotomy i j with h1 | h1 | h1
  · exact absurd he (h.inj h1 hj)
  · exact h1
  · exact absurd he.symm (h.inj h1 hi)
theorem IsRow.onto {l : List UInt8} (h : IsRow l) {p : Nat} (hp : p < l.length) : ∃ i, i < l.length ∧ bell l i = p :=
  Go.Proofs.YtnbnofmnbopknaaDoor.onto (fun i hi => h.bell_lt hi) (fun i j hij hj => h.inj hij hj) p hp
/-- A row by its bells. -/
theorem isRow_of {l : List UInt8} (h : 3 ≤ l.length ∧ l.length ≤ 8) (f : Nat → Nat) (hg : ∀ i, i < l.length → l.getD i 0 = UInt8.ofNat (49 + f i) ∧ f i < l.length) (hi : ∀ i j, i < j → j < l.length → f i ≠ f j) : IsRow l := by
  refine ⟨h, fun i hil => ?_⟩
  obtain ⟨h1, h2⟩ := hg i hil
  have h3 : (l.getD i 0).toNat = 49 + f i := by rw [h1, u8_nat (by omega)]
  refine ⟨by omega, by omega, fun j hj he => ?_⟩
  obtain ⟨h4, h5⟩ := hg j (by omega)
  have h6 : (l.getD j 0).toNat = 49 + f j := by rw [h4, u8_nat (by omega)]
  refine hi j i hj hil ?_
  have : (l.getD j 0).toNat = (l.getD i 0).toNat := by rw [he]
  omega
theorem row_ext {l l' : List UInt8} (h : l.length = l'.length) (h1 : IsRow l) (h2 : IsRow l') (he : ∀ i, i < l.length → bell l i = bell l' i) : l = l' :=
  ext_getD (d := 0) h fun i hi => by rw [h1.get hi, h2.get (by omega), he i hi]

/-- Rounds. -/
def roundsL (n : Nat) : List UInt8 := (List.range n).map fun i => UInt8.ofNat (49 + i)
theorem roundsL_len (n : Nat) : (roundsL n).length = n := by simp [roundsL]
theorem roundsL_get (n i : Nat) (h : i < n) : (roundsL n).getD i 0 = UInt8.ofNat (49 + i) := by
  unfold roundsL
  rw [getD_map _ 0 _ _ _ (by simpa using h), getD_range _ _ _ h]
theorem roundsL_bell (n i : Nat) (hn : n ≤ 8) (h : i < n) : bell (roundsL n) i = i := by
  unfold bell; rw [roundsL_get n i h, u8_nat (by omega)]; omega
theorem roundsL_row (n : Nat) (h : 3 ≤ n ∧ n ≤ 8) : IsRow (roundsL n) :=
  isRow_of (by rw [roundsL_len]; exact h) (fun i => i) (fun i hi => by rw [roundsL_len] at hi ⊢; exact ⟨roundsL_get n i hi, hi⟩) (fun i j h _ => by omega)
/-- The product of two rows: its place i has a's bell at b's bell. -/
def timesL (a b : List UInt8) : List UInt8 := b.map fun c => a.getD (c.toNat - 49) 0
theorem timesL_len (a b : List UInt8) : (timesL a b).length = b.length := by simp [timesL]
theorem timesL_get (a b : List UInt8) (i : Nat) (h : i < b.length) : (timesL a b).getD i 0 = a.getD (bell b i) 0 := getD_map _ 0 _ _ _ h
theorem timesL_bell (a b : List UInt8) (i : Nat) (h : i < b.length) : bell (timesL a b) i = bell a (bell b i) := by
  unfold bell; rw [timesL_get a b i h]; rfl
theorem timesL_row {a b : List UInt8} (ha : IsRow a) (hb : IsRow b) (hl : a.length = b.length) : IsRow (timesL a b) := by
  refine isRow_of (by rw [timesL_len]; exact hb.1) (fun i => bell a (bell b i)) (fun i hi => ?_) (fun i j hij hj he => ?_)
  · rw [timesL_len] at hi ⊢
    have := hb.bell_lt hi
    rw [timesL_get a b i hi, ha.get (by omega)]
    exact ⟨rfl, by have := ha.bell_lt (i := bell b i) (by omega); omega⟩
  · rw [timesL_len] at hj
    have h1 := hb.bell_lt hj
    have h2 := hb.bell_lt (i := i) (by omega)
    exact hb.inj hij hj (ha.inj' (by omega) (by omega) he)
theorem timesL_assoc (a : List UInt8) {b c : List UInt8} (hc : IsRow c) (hl : b.length = c.length) : timesL (timesL a b) c = timesL a (timesL b c) := by
  refine ext_getD (d := 0) (by simp [timesL_len]) fun i hi => ?_
  rw [timesL_len] at hi
  have := hc.bell_lt hi
  rw [timesL_get _ _ _ hi, timesL_get _ _ _ (by omega), timesL_get _ _ _ (by rw [timesL_len]; exact hi), timesL_bell _ _ _ hi]
theorem times_rounds {a : List UInt8} (h : a.length ≤ 8) : timesL a (roundsL a.length) = a := by
  refine ext_getD (d := 0) (by rw [timesL_len, roundsL_len]) fun i hi => ?_
  rw [timesL_len, roundsL_len] at hi
  rw [timesL_get _ _ _ (by rw [roundsL_len]; exact hi), roundsL_bell _ _ h hi]
theorem rounds_times {b : List UInt8} (h : IsRow b) : timesL (roundsL b.length) b = b := by
  refine ext_getD (d := 0) (timesL_len _ _) fun i hi => ?_
  rw [timesL_len] at hi
  rw [timesL_get _ _ _ hi, roundsL_get _ _ (h.bell_lt hi), h.get hi]
/-- The inverse of a row. -/
def turnL (a : List UInt8) : List UInt8 := (List.range a.length).map fun p => UInt8.ofNat (49 + ((List.range a.length).find? fun i => bell a i = p).getD 0)
theorem turnL_len (a : List UInt8) : (turnL a).length = a.length := by simp [turnL]
theorem turnL_at {a : List UInt8} (h : IsRow a) {i : Nat} (hi : i < a.length) : (turnL a).getD (bell a i) 0 = UInt8.ofNat (49 + i) := by
  have hb := h.bell_lt hi
  unfold turnL
  rw [getD_map _ 0 _ _ _ (by simpa using hb), getD_range _ _ _ hb]
  congr 2
  cases hf : (List.range a.length).find? fun j => decide (bell a j = bell a i) with
  | none =>
    have := List.find?_eq_none.1 hf i (by simpa using hi)
    simp at this
  | some j =>
    have h1 := List.find?_some hf
    have h2 := List.mem_of_find?_eq_some hf
    simp only [decide_eq_true_eq] at h1
    exact h.inj' (by simpa using h2) hi h1
theorem turn_unique {a out : List UInt8} (h : IsRow a) (hl : out.length = a.length) (ho : ∀ i, i < a.length → out.getD (bell a i) 0 = UInt8.ofNat (49 + i)) : out = turnL a := by
  refine ext_getD (d := 0) (by rw [hl, turnL_len]) fun p hp => ?_
  obtain ⟨i, hi, rfl⟩ := h.onto (p := p) (by omega)
  rw [ho i hi, turnL_at h hi]
theorem turnL_row {a : List UInt8} (h : IsRow a) : IsRow (turnL a) := by
  have hg : ∀ p, p < a.length → ∃ i, i < a.length ∧ bell a i = p ∧ (turnL a).getD p 0 = UInt8.ofNat (49 + i) := fun p hp => by
    obtain ⟨i, hi, rfl⟩ := h.onto hp
    exact ⟨i, hi, rfl, turnL_at h hi⟩
  refine isRow_of (by rw [turnL_len]; exact h.1) (fun p => bell (turnL a) p) (fun p hp => ?_) (fun p q hpq hq he => ?_)
  · rw [turnL_len] at hp ⊢
    obtain ⟨i, hi, _, e⟩ := hg p hp
    have h8 := h.1
    have : bell (turnL a) p = i := by unfold bell; rw [e, u8_nat (by omega)]; omega
    rw [this]; exact ⟨e, hi⟩
  · rw [turnL_len] at hq
    have h8 := h.1
    obtain ⟨i, hi, hi1, e1⟩ := hg p (by omega)
    obtain ⟨j, hj, hj1, e2⟩ := hg q hq
    have h1 : bell (turnL a) p = i := by unfold bell; rw [e1, u8_nat (by omega)]; omega
    have h2 : bell (turnL a) q = j := by unfold bell; rw [e2, u8_nat (by omega)]; omega
    have : i = j := by omega
    subst this; omega
theorem turn_times {a : List UInt8} (h : IsRow a) : timesL (turnL a) a = roundsL a.length := by
  refine ext_getD (d := 0) (by rw [timesL_len, roundsL_len]) fun i hi => ?_
  rw [timesL_len] at hi
  rw [timesL_get _ _ _ hi, turnL_at h hi, roundsL_get _ _ hi]
theorem times_turn {a : List UInt8} (h : IsRow a) : timesL a (turnL a) = roundsL a.length := by
  refine ext_getD (d := 0) (by rw [timesL_len, roundsL_len, turnL_len]) fun p hp => ?_
  rw [timesL_len, turnL_len] at hp
  obtain ⟨i, hi, rfl⟩ := h.onto hp
  have h8 := h.1
  have : bell (turnL a) (bell a i) = i := by unfold bell; rw [show (turnL a).getD ((a.getD i 0).toNat - 49) 0 = _ from turnL_at h hi, u8_nat (by omega)]; omega
  rw [timesL_get _ _ _ (by rw [turnL_len]; exact hp), this, roundsL_get _ _ hp, h.get hi]
/-- A row's k-th power, k from 0 on. -/
def powL (a : List UInt8) : Nat → List UInt8
  | 0 => roundsL a.length
  | k + 1 => timesL (powL a k) a
theorem powL_len (a : List UInt8) (k : Nat) : (powL a k).length = a.length := by
  cases k with
  | zero => exact roundsL_len _
  | succ k => exact timesL_len _ _
theorem powL_row {a : List UInt8} (h : IsRow a) (k : Nat) : IsRow (powL a k) := by
  induction k with
  | zero => exact roundsL_row _ h.1
  | succ k ih => exact timesL_row ih h (powL_len a k)
theorem powL_add {a : List UInt8} (h : IsRow a) (j k : Nat) : powL a (j + k) = timesL (powL a j) (powL a k) := by
  induction k with
  | zero => show powL a j = timesL (powL a j) (roundsL a.length); rw [← powL_len a j, times_rounds (by rw [powL_len]; exact h.1.2)]
  | succ k ih => show timesL (powL a (j + k)) a = timesL (powL a j) (timesL (powL a k) a); rw [ih, timesL_assoc _ h (powL_len a k)]
end Go.Proofs.YtnbnofmnbopknaaDoor
