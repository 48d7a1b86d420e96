/-
  Plain lists: pairs of equal rows, how often each row occurs. No program.
  Conditions: none.
-/
import Derived.Test.YtnincmnkdjlndaaPz
set_option linter.unusedSimpArgs false
set_option linter.unusedVariables false
set_option linter.defProp false
namespace Go.Proofs.Ytnincmnkdjlndaa
open Go
/-- The places behind place i where the text of place i stands again, up to place m. -/
def reRow (l : List Bs) (i m : Nat) : List (List Int) := ((List.range m).filter fun k => decide (i < k ∧ l.getD k [] = l.getD i [])).map fun k : Nat => [(i : Int), (k : Int)]
/-- The pairs of equal texts that begin ahead of place i. -/
def rePairs (l : List Bs) (i : Nat) : List (List Int) := (List.range i).flatMap fun j => reRow l j l.length
def repL (l : List Bs) : List (List Int) := (rePairs l l.length).take 100
theorem reRow_succ (l : List Bs) (i m : Nat) : reRow l i (m + 1) = reRow l i m ++ if i < m ∧ l.getD m [] = l.getD i [] then [[(i : Int), (m : Int)]] else [] := by
  unfold reRow
  rw [List.range_succ, List.filter_append, List.map_append]
  congr 1
  by_cases h : i < m ∧ l.getD m [] = l.getD i []
  · rw [if_pos h, List.filter_cons_of_pos (by simpa using h)]; rfl
  · rw [if_neg h, List.filter_cons_of_neg (by simpa using h)]; rfl
theorem rePairs_succ (l : List Bs) (i : Nat) : rePairs l (i + 1) = rePairs l i ++ reRow l i l.length := by
  unfold rePairs
  rw [List.range_succ, List.flatMap_append]; simp
theorem reRow_start (l : List Bs) (i : Nat) : ∀ m, m ≤ i + 1 → reRow l i m = [] := by
  intro m
  induction m with
  | zero => intro _; rfl
  | succ m ih => intro h; rw [reRow_succ, ih (by omega), if_neg (by omega)]; rfl
/-- No equal text from place a to place b. -/
theorem reRow_skip (l : List Bs) (i : Nat) {a b : Nat} (h : a ≤ b) (hn : ∀ k, a ≤ k → k < b → i < k → l.getD k [] ≠ l.getD i []) : reRow l i b = reRow l i a := by
  induction b with
  | zero => obtain rfl : a = 0 := by omega
            rfl
  | succ b ih =>
    by_cases e : a = b + 1
    · rw [e]
    · rw [reRow_succ, ih (by omega) fun k h1 h2 => hn k h1 (by omega), if_neg fun hh => hn b (by omega) (by omega) hh.1 hh.2, List.append_nil]
theorem reRow_pre (l : List Bs) (i : Nat) {a b : Nat} (h : a ≤ b) : reRow l i a <+: reRow l i b := by
  induction b with
  | zero => obtain rfl : a = 0 := by omega
            exact List.prefix_refl _
  | succ b ih =>
    by_cases e : a = b + 1
    · rw [e]; exact List.prefix_refl _
    · exact (ih (by omega)).trans (by rw [reRow_succ]; exact List.prefix_append _ _)
theorem rePairs_pre (l : List Bs) {a b : Nat} (h : a ≤ b) : rePairs l a <+: rePairs l b := by
  induction b with
  | zero => obtain rfl : a = 0 := by omega
            exact List.prefix_refl _
  | succ b ih =>
    by_cases e : a = b + 1
    · rw [e]; exact List.prefix_refl _
    · exact (ih (by omega)).trans (by rw [rePairs_succ]; exact List.prefix_append _ _)
/-- What is found up to place k of row i. -/
def reAt (l : List Bs) (i k : Nat) : List (List Int) := rePairs l i ++ reRow l i k
theorem reAt_pre (l : List Bs) {i k : Nat} (hi : i < l.length) (hk : k ≤ l.length) : reAt l i k <+: rePairs l l.length := by
  refine List.IsPrefix.trans ?_ (rePairs_pre l (show i + 1 ≤ l.length by omega))
  rw [rePairs_succ]
  obtain ⟨t, ht⟩ := reRow_pre l i hk
  exact ⟨t, by rw [reAt, List.append_assoc, ht]⟩
theorem pre_take {α : Type} {a b : List α} (h : a <+: b) (n : Nat) (hn : n ≤ a.length) : a.take n = b.take n := by
  obtain ⟨t, rfl⟩ := h
  rw [List.take_append_of_le_length hn]
/-- A prefix of a hundred is the answer. -/
theorem repL_full {l : List Bs} {i k : Nat} (hi : i < l.length) (hk : k ≤ l.length) (h : (reAt l i k).length = 100) : repL l = reAt l i k := by
  rw [repL, ← pre_take (reAt_pre l hi hk) 100 (by omega), List.take_of_length_le (by omega)]
theorem repL_of {l : List Bs} (h : (rePairs l l.length).length ≤ 100) : repL l = rePairs l l.length := by rw [repL, List.take_of_length_le h]
theorem reRow_mem (l : List Bs) (i m : Nat) (x : List Int) : x ∈ reRow l i m ↔ ∃ k, k < m ∧ (i < k ∧ l.getD k [] = l.getD i []) ∧ x = [(i : Int), (k : Int)] := by
  simp only [reRow, List.mem_map, List.mem_filter, List.mem_range, decide_eq_true_eq]
  exact ⟨fun ⟨k, ⟨h1, h2⟩, h3⟩ => ⟨k, h1, h2, h3.symm⟩, fun ⟨k, h1, h2, h3⟩ => ⟨k, ⟨h1, h2⟩, h3.symm⟩⟩
theorem repL_mem {l : List Bs} {x : List Int} (h : x ∈ repL l) : ∃ i k : Nat, i < k ∧ k < l.length ∧ l.getD k [] = l.getD i [] ∧ x = [(i : Int), (k : Int)] := by
  have := List.mem_of_mem_take h
  rw [rePairs, List.mem_flatMap] at this
  obtain ⟨i, hi, hx⟩ := this
  obtain ⟨k, h1, h2, h3⟩ := (reRow_mem l i l.length x).1 hx
  exact ⟨i, k, h2.1, h1, h2.2, h3⟩
theorem nodup_iff {l : List Bs} : l.Nodup ↔ ∀ i k, i < k → k < l.length → l.getD k [] ≠ l.getD i [] := by
  rw [List.nodup_iff_pairwise_ne, List.pairwise_iff_getElem]
  constructor
  · intro h i k hik hk e
    rw [List.getD_eq_getElem?_getD, List.getD_eq_getElem?_getD, List.getElem?_eq_getElem hk, List.getElem?_eq_getElem (show i < l.length by omega)] at e
    exact h i k (by omega) hk hik e.symm
  · intro h i k hi hk hik e
    refine h i k hik hk ?_
    rw [List.getD_eq_getElem?_getD, List.getD_eq_getElem?_getD, List.getElem?_eq_getElem hk, List.getElem?_eq_getElem hi, Option.getD_some, Option.getD_some, e]
theorem repL_nil (l : List Bs) : repL l = [] ↔ l.Nodup := by
  rw [nodup_iff]
  constructor
  · intro h i k hik hk e
    have hm : [(i : Int), (k : Int)] ∈ rePairs l l.length := by
      rw [rePairs, List.mem_flatMap]
      exact ⟨i, List.mem_range.2 (by omega), (reRow_mem l i l.length _).2 ⟨k, hk, ⟨hik, e⟩, rfl⟩⟩
    rw [repL] at h
    cases hp : rePairs l l.length with
    | nil => rw [hp] at hm; cases hm
    | cons a t => rw [hp] at h; simp at h
  · intro h
    cases hr : repL l with
    | nil => rfl
    | cons x t =>
      obtain ⟨i, k, h1, h2, h3, _⟩ := repL_mem (l := l) (x := x) (by rw [hr]; exact List.mem_cons_self)
      exact absurd h3 (h i k h1 h2)
/-- The next place with the same text, or 0. -/
def NextAt (l : List Bs) (i n : Nat) : Prop := (n = 0 ∧ ∀ k, i < k → k < l.length → l.getD k [] ≠ l.getD i []) ∨ (i < n ∧ n < l.length ∧ l.getD n [] = l.getD i [] ∧ ∀ k, i < k → k < n → l.getD k [] ≠ l.getD i [])
/-! ### a list without repeats, by its order -/
theorem sorted_nodup {l : List Bs} : (∀ k, k + 1 < (srt l).length → (srt l).getD (k + 1) [] ≠ (srt l).getD k []) ↔ l.Nodup := by
  constructor
  · intro h
    refine (srt_perm l).nodup_iff.1 (Rise.nodup (rise_next fun k hk => ?_))
    rcases List.le_iff_lt_or_eq.1 (sorted_get (srt_sorted l) (Nat.le_succ k) hk) with h1 | h1
    · exact h1
    · exact absurd h1.symm (h k hk)
  · intro h k hk e
    have := rise_get (srt_rise h) k (k + 1) (by omega) hk
    rw [e] at this
    exact List.lt_irrefl _ this
/-! ### turning a list -/
def rotL (l : List Bs) (k : Nat) : List Bs := l.drop k ++ l.take k
theorem rotL_len (l : List Bs) (k : Nat) : (rotL l k).length = l.length := by rw [rotL, List.length_append, List.length_drop, List.length_take]; omega
theorem rotL_perm (l : List Bs) (k : Nat) : (rotL l k).Perm l := by
  refine List.perm_append_comm.trans ?_
  rw [List.take_append_drop]
def turnListL (l : List Bs) (k : Nat) : List Bs := (rotL l k).map (timesL (turnL (l.getD k [])))
theorem turnListL_len (l : List Bs) (k : Nat) : (turnListL l k).length = l.length := by rw [turnListL, List.length_map, rotL_len]
theorem turnListL_rows {n : Nat} {l : List Bs} (hr : ∀ r ∈ l, IsRow r ∧ r.length = n) {k : Nat} (hk : k < l.length) : ∀ r ∈ turnListL l k, IsRow r ∧ r.length = n := fun r hm => by
  obtain ⟨x, hx, rfl⟩ := List.mem_map.1 hm
  have h1 := hr x ((rotL_perm l k).mem_iff.1 hx)
  have h2 := hr _ (getD_memB hk)
  exact ⟨timesL_row (turnL_row h2.1) h1.1 (by rw [turnL_len, h2.2, h1.2]), by rw [timesL_len, h1.2]⟩
theorem turnListL_nodup {n : Nat} {l : List Bs} (hr : ∀ r ∈ l, IsRow r ∧ r.length = n) {k : Nat} (hk : k < l.length) : (turnListL l k).Nodup ↔ l.Nodup := by
  rw [← (rotL_perm l k).nodup_iff]
  have h2 := hr _ (getD_memB hk)
  have hR : ∀ r ∈ rotL l k, IsRow r ∧ r.length = n := fun r hm => hr r ((rotL_perm l k).mem_iff.1 hm)
  constructor
  · intro h; exact List.Pairwise.of_map _ (fun a b hne e => hne (by rw [e])) h
  · intro h
    exact map_nodup h fun x hx y hy e => times_cancel (turnL_row h2.1) (hR x hx).1 (hR y hy).1 (by rw [turnL_len, h2.2, (hR x hx).2]) (by rw [turnL_len, h2.2, (hR y hy).2]) e
theorem turnListL_first {n : Nat} {l : List Bs} (hr : ∀ r ∈ l, IsRow r ∧ r.length = n) {k : Nat} (hk : k < l.length) : (turnListL l k).getD 0 [] = roundsL n := by
  have h2 := hr _ (getD_memB hk)
  have e : rotL l k = l.getD k [] :: (l.drop (k + 1) ++ l.take k) := by
    rw [rotL, List.drop_eq_getElem_cons hk, List.getD_eq_getElem?_getD, List.getElem?_eq_getElem hk]; rfl
  rw [turnListL, e, List.map_cons, List.getD_cons_zero, turn_times h2.1, h2.2]
/-! ### how often each row occurs -/
def oftenL (l : List Bs) (m k : Nat) : Nat := ((l.take m).filter fun r => decide (rankL r = k)).length
theorem often_succ (l : List Bs) (m k : Nat) (h : m < l.length) : oftenL l (m + 1) k = oftenL l m k + if rankL (l.getD m []) = k then 1 else 0 := by
  rw [oftenL, List.take_add_one, List.getElem?_eq_getElem h, List.filter_append, List.length_append, List.getD_eq_getElem?_getD, List.getElem?_eq_getElem h]
  congr 1
  show (List.filter _ [l[m]]).length = if rankL l[m] = k then 1 else 0
  by_cases e : rankL l[m] = k
  · rw [if_pos e, List.filter_cons_of_pos (by simpa using e)]; rfl
  · rw [if_neg e, List.filter_cons_of_neg (by simpa using e)]; rfl
def oftL (l : List Bs) (f m : Nat) : List Int := (List.range f).map fun k => (oftenL l m k : Int)
theorem oftL_len (l : List Bs) (f m : Nat) : (oftL l f m).length = f := by simp [oftL]
theorem oftL_zero (l : List Bs) (f : Nat) : oftL l f 0 = List.replicate f 0 := by
  refine ext_getD (d := 0) (by simp [oftL]) fun i hi => ?_
  rw [oftL_len] at hi
  simp [oftL, oftenL, List.getD_eq_getElem?_getD, hi, List.getElem?_replicate]
theorem oftL_get (l : List Bs) (f m k : Nat) (hk : k < f) : (oftL l f m).getD k 0 = (oftenL l m k : Int) := by
  rw [oftL, List.getD_eq_getElem?_getD, List.getElem?_map, List.getElem?_range hk]; rfl
theorem oftL_succ (l : List Bs) (f m : Nat) (h : m < l.length) (hr : rankL (l.getD m []) < f) : oftL l f (m + 1) = (oftL l f m).set (rankL (l.getD m [])) (oftenL l m (rankL (l.getD m [])) + 1 : Int) := by
  refine ext_getD (d := 0) (by simp [oftL]) fun i hi => ?_
  rw [oftL_len] at hi
  rw [oftL_get _ _ _ _ hi, often_succ l m i h]
  generalize rankL (l.getD m []) = q at *
  by_cases e : q = i
  · subst e
    rw [if_pos rfl, List.getD_eq_getElem?_getD, List.getElem?_set_self (by rw [oftL_len]; exact hr)]; rfl
  · rw [if_neg e, List.getD_eq_getElem?_getD, List.getElem?_set_ne e, ← List.getD_eq_getElem?_getD, oftL_get _ _ _ _ hi]; rfl
/-- The counts add up to the list's length. -/
theorem often_sum (l : List Bs) (f : Nat) (hf : ∀ r ∈ l, rankL r < f) : ∀ m, m ≤ l.length → (oftL l f m).sum = (m : Int) := by
  intro m
  induction m with
  | zero => intro _; rw [oftL_zero]; simp
  | succ m ih =>
    intro hm
    have hr := hf _ (getD_memB (show m < l.length by omega))
    have hs : ∀ (L : List Int) (i : Nat) (x : Int), i < L.length → (L.set i (L.getD i 0 + x)).sum = L.sum + x := by
      intro L
      induction L with
      | nil => intro i x h; simp at h
      | cons a L ihL =>
        intro i x h
        cases i with
        | zero => simp only [List.set_cons_zero, List.getD_cons_zero, List.sum_cons]; omega
        | succ i =>
          simp only [List.set_cons_succ, List.getD_cons_succ, List.sum_cons]
          rw [ihL i x (by simpa using h)]; omega
    have := hs (oftL l f m) (rankL (l.getD m [])) 1 (by rw [oftL_len]; exact hr)
    rw [oftL_get _ _ _ _ hr, ih (by omega)] at this
    rw [oftL_succ l f m (by omega) hr, this]; omega
end Go.Proofs.Ytnincmnkdjlndaa
