/-
  Plain lists: rows by their rank; changes: what one is, which row it makes of rounds. No program.
  Conditions: none.
-/
import Derived.Test.YtnbnofmnbopknaaDoorPb
set_option linter.unusedSimpArgs false
set_option linter.unusedVariables false
set_option linter.defProp false
namespace Go.Proofs.YtnbnofmnbopknaaDoor
open Go
/-- The number of rows. -/
def factL : Nat → Nat
  | 0 => 1
  | n + 1 => (n + 1) * factL n
theorem factL_le : ∀ n < 9, 1 ≤ factL n ∧ factL n ≤ 40320 := by decide
theorem factL_pos (n : Nat) : 0 < factL n := by
  induction n with
  | zero => decide
  | succ n ih => exact Nat.mul_pos (by omega) ih
/-- The row of rank k of the bells l. -/
def rowGo : Nat → List UInt8 → Nat → List UInt8
  | 0, _, _ => []
  | i + 1, l, k => l.getD (k / factL i) 0 :: rowGo i (l.take (k / factL i) ++ l.drop (k / factL i + 1)) (k % factL i)
theorem rowGo_len (i : Nat) : ∀ (l : List UInt8) (k : Nat), (rowGo i l k).length = i := by
  induction i with
  | zero => intro l k; rfl
  | succ i ih => intro l k; simp only [rowGo, List.length_cons, ih]
theorem rank_lt (i k : Nat) (h : k < factL (i + 1)) : k / factL i < i + 1 ∧ k % factL i < factL i :=
  ⟨(Nat.div_lt_iff_lt_mul (factL_pos i)).2 h, Nat.mod_lt _ (factL_pos i)⟩
theorem getD_set {α : Type} (l : List α) (i j : Nat) (a d : α) : (l.set i a).getD j d = if i = j ∧ j < l.length then a else l.getD j d := by
  rw [List.getD_eq_getElem?_getD, List.getD_eq_getElem?_getD, List.getElem?_set]
  by_cases h : i = j
  · subst h
    by_cases h2 : i < l.length
    · simp [h2]
    · simp [h2]
  · simp [h]

/-- The place p stays in the change c. -/
def stays (c : List UInt8) (p : Nat) : Bool := c.any fun b => b.toNat == 48 + p
/-- The neighbours i and i + 1 (from 0) change places. -/
def swapL (l : List UInt8) (i : Nat) : List UInt8 := (l.set i (l.getD (i + 1) 0)).set (i + 1) (l.getD i 0)
theorem swapL_len (l : List UInt8) (i : Nat) : (swapL l i).length = l.length := by simp [swapL]
theorem swapL_get (l : List UInt8) (i j : Nat) (h : i + 1 < l.length) : (swapL l i).getD j 0 = l.getD (if j = i then i + 1 else if j = i + 1 then i else j) 0 := by
  unfold swapL
  rw [getD_set, getD_set, List.length_set]
  by_cases h1 : j = i
  · subst h1
    rw [if_neg (by omega), if_pos (by omega), if_pos rfl]
  · by_cases h2 : j = i + 1
    · subst h2
      rw [if_pos (by omega), if_neg h1, if_pos rfl]
    · rw [if_neg (by omega), if_neg (by omega), if_neg h1, if_neg h2]
theorem swapL_row {l : List UInt8} {i : Nat} (h : IsRow l) (hi : i + 1 < l.length) : IsRow (swapL l i) := by
  refine isRow_of (by rw [swapL_len]; exact h.1) (fun j => bell l (if j = i then i + 1 else if j = i + 1 then i else j)) (fun j hj => ?_) (fun j k hjk hk he => ?_)
  · rw [swapL_len] at hj ⊢
    have hlt : (if j = i then i + 1 else if j = i + 1 then i else j) < l.length := by split <;> (try split) <;> omega
    rw [swapL_get l i j hi]
    exact ⟨h.get hlt, h.bell_lt hlt⟩
  · rw [swapL_len] at hk
    have h1 : (if j = i then i + 1 else if j = i + 1 then i else j) < l.length := by split <;> (try split) <;> omega
    have h2 : (if k = i then i + 1 else if k = i + 1 then i else k) < l.length := by split <;> (try split) <;> omega
    have := h.inj' h1 h2 he
    split at this <;> split at this <;> (try split at this) <;> (try split at this) <;> omega
/-- The lower places (from 1) of the pairs that swap, from p on. -/
def swapsL (c : List UInt8) (n p : Nat) : List Nat := if h : p < n then if stays c p then swapsL c n (p + 1) else p :: swapsL c n (p + 2) else []
termination_by n - p
theorem swapsL_stay {c : List UInt8} {n p : Nat} (h : p < n) (hs : stays c p = true) : swapsL c n p = swapsL c n (p + 1) := by
  rw [swapsL, dif_pos h, if_pos hs]
theorem swapsL_swap {c : List UInt8} {n p : Nat} (h : p < n) (hs : stays c p = false) : swapsL c n p = p :: swapsL c n (p + 2) := by
  rw [swapsL, dif_pos h, if_neg (by rw [hs]; decide)]
theorem swapsL_end {c : List UInt8} {n p : Nat} (h : n ≤ p) : swapsL c n p = [] := by
  rw [swapsL, dif_neg (by omega)]
theorem swapsL_mem (c : List UInt8) (n : Nat) : ∀ (m p : Nat), n - p ≤ m → ∀ x ∈ swapsL c n p, p ≤ x ∧ x < n := by
  intro m
  induction m with
  | zero => intro p hp x hx; rw [swapsL_end (by omega)] at hx; cases hx
  | succ m ih =>
    intro p hp x hx
    by_cases h : p < n
    · by_cases hs : stays c p = true
      · rw [swapsL_stay h hs] at hx
        have := ih (p + 1) (by omega) x hx
        omega
      · rw [swapsL_swap h (by simpa using hs)] at hx
        rcases List.mem_cons.1 hx with rfl | hx
        · omega
        · have := ih (p + 2) (by omega) x hx
          omega
    · rw [swapsL_end (by omega)] at hx; cases hx
/-- Pairs swapped one after the other. -/
def swapAll (l : List UInt8) (ps : List Nat) : List UInt8 := ps.foldl (fun l p => swapL l (p - 1)) l
theorem swapAll_len (ps : List Nat) : ∀ l, (swapAll l ps).length = l.length := by
  induction ps with
  | nil => intro l; rfl
  | cons p ps ih => intro l; rw [swapAll, List.foldl_cons]; exact (ih _).trans (swapL_len _ _)
theorem swapAll_row (ps : List Nat) : ∀ l, IsRow l → (∀ p ∈ ps, 1 ≤ p ∧ p < l.length) → IsRow (swapAll l ps) := by
  induction ps with
  | nil => intro l h _; exact h
  | cons p ps ih =>
    intro l h hp
    rw [swapAll, List.foldl_cons]
    have := hp p (by simp)
    exact ih _ (swapL_row h (by omega)) fun q hq => by rw [swapL_len]; exact hp q (by simp [hq])
theorem swapAll_snoc (l : List UInt8) (ps : List Nat) (k : Nat) (h : k < ps.length) : swapAll l (ps.take (k + 1)) = swapL (swapAll l (ps.take k)) (ps.getD k 0 - 1) := by
  unfold swapAll
  rw [List.take_add_one, List.getElem?_eq_getElem h, List.foldl_append, List.getD_eq_getElem?_getD, List.getElem?_eq_getElem h]
  rfl
/-- The row that a change makes of rounds. -/
def chgL (n : Nat) (c : List UInt8) : List UInt8 := swapAll (roundsL n) (swapsL c n 1)
theorem chgL_len (n : Nat) (c : List UInt8) : (chgL n c).length = n := by rw [chgL, swapAll_len, roundsL_len]
theorem chgL_row (n : Nat) (c : List UInt8) (h : 3 ≤ n ∧ n ≤ 8) : IsRow (chgL n c) :=
  swapAll_row _ _ (roundsL_row n h) fun p hp => by rw [roundsL_len]; exact swapsL_mem c n n 1 (by omega) p hp
/-- The row that follows under a change. -/
def applyL (l c : List UInt8) : List UInt8 := timesL l (chgL l.length c)
theorem applyL_len (l c : List UInt8) : (applyL l c).length = l.length := by rw [applyL, timesL_len, chgL_len]
theorem applyL_row {l : List UInt8} (c : List UInt8) (h : IsRow l) : IsRow (applyL l c) := timesL_row h (chgL_row _ _ h.1) (chgL_len _ _).symm
/-- The row that changes make of a row. -/
def underL (l : List UInt8) (cs : List (List UInt8)) : List UInt8 := cs.foldl applyL l
theorem underL_row (cs : List (List UInt8)) : ∀ {l : List UInt8}, IsRow l → IsRow (underL l cs) := by
  induction cs with
  | nil => intro l h; exact h
  | cons c cs ih => intro l h; rw [underL, List.foldl_cons]; exact ih (applyL_row c h)
theorem underL_len (cs : List (List UInt8)) : ∀ l : List UInt8, (underL l cs).length = l.length := by
  induction cs with
  | nil => intro l; rfl
  | cons c cs ih => intro l; rw [underL, List.foldl_cons]; exact (ih _).trans (applyL_len _ _)
theorem underL_snoc (l : List UInt8) (cs : List (List UInt8)) (k : Nat) (h : k < cs.length) : underL l (cs.take (k + 1)) = applyL (underL l (cs.take k)) (cs.getD k []) := by
  unfold underL
  rw [List.take_add_one, List.getElem?_eq_getElem h, List.foldl_append, List.getD_eq_getElem?_getD, List.getElem?_eq_getElem h]
  rfl

/-- The first k places of a change grow, each of the other parity than the one ahead of it, the first one odd. -/
def Chain (c : List UInt8) (k : Nat) : Prop := ∀ i < k, 49 ≤ (c.getD i 0).toNat ∧ (if i = 0 then (c.getD 0 0).toNat % 2 = 1 else (c.getD (i - 1) 0).toNat < (c.getD i 0).toNat ∧ ((c.getD i 0).toNat + (c.getD (i - 1) 0).toNat) % 2 = 1)
instance (c : List UInt8) (k : Nat) : Decidable (Chain c k) := by unfold Chain; infer_instance
theorem Chain.succ {c : List UInt8} {k : Nat} (h : Chain c k) (h1 : 49 ≤ (c.getD k 0).toNat) (h2 : if k = 0 then (c.getD 0 0).toNat % 2 = 1 else (c.getD (k - 1) 0).toNat < (c.getD k 0).toNat ∧ ((c.getD k 0).toNat + (c.getD (k - 1) 0).toNat) % 2 = 1) : Chain c (k + 1) := fun i hi => by
  by_cases he : i = k
  · subst he; exact ⟨h1, h2⟩
  · exact h i (by omega)
theorem Chain.par {c : List UInt8} {k : Nat} (h : Chain c k) : ∀ i < k, (c.getD i 0).toNat % 2 = (i + 1) % 2 ∧ 49 + i ≤ (c.getD i 0).toNat := by
  intro i
  induction i with
  | zero => intro hi; have := h 0 hi; rw [if_pos rfl] at this; omega
  | succ i ih =>
    intro hi
    have h1 := ih (by omega)
    have h2 := h (i + 1) hi
    rw [if_neg (by omega), Nat.add_sub_cancel] at h2
    omega
/-- A change of stage n. -/
def IsChange (n : Int) (c : List UInt8) : Prop := (3 ≤ n ∧ n ≤ 8) ∧ ((c = [45] ∧ n % 2 = 0) ∨ (c ≠ [] ∧ (c.length : Int) ≠ n ∧ Chain c c.length ∧ ((c.getD (c.length - 1) 0).toNat : Int) % 2 = n % 2 ∧ ((c.getD (c.length - 1) 0).toNat : Int) - 48 ≤ n))
instance (n : Int) (c : List UInt8) : Decidable (IsChange n c) := by unfold IsChange; infer_instance
theorem IsChange.len {n : Int} {c : List UInt8} (h : IsChange n c) : 1 ≤ c.length ∧ (c.length : Int) ≤ n - 2 := by
  obtain ⟨h1, h2 | ⟨h2, h3, h4, h5, h6⟩⟩ := h
  · rw [h2.1]; simp; omega
  · have h0 : 0 < c.length := List.length_pos_iff.2 h2
    have := h4.par (c.length - 1) (by omega)
    omega
theorem Chain.mono {c : List UInt8} {k : Nat} (h : Chain c k) : ∀ i j, i ≤ j → j < k → (c.getD i 0).toNat ≤ (c.getD j 0).toNat := by
  intro i j hij
  induction j with
  | zero => intro _; obtain rfl : i = 0 := by omega
            exact Nat.le_refl _
  | succ j ih =>
    intro hj
    by_cases he : i = j + 1
    · subst he; exact Nat.le_refl _
    · have h1 := ih (by omega) (by omega)
      have h2 := h (j + 1) hj
      rw [if_neg (by omega), Nat.add_sub_cancel] at h2
      omega
end Go.Proofs.YtnbnofmnbopknaaDoor
