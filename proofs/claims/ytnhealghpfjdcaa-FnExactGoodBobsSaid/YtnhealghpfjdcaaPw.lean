/-
  Plain lists: layers of rows behind a row, shortest ways. No program.
  Conditions: none.
-/
import Derived.Test.YtnhealghpfjdcaaPv
set_option linter.unusedSimpArgs false
set_option linter.unusedVariables false
set_option linter.defProp false
namespace Go.Proofs.Ytnhealghpfjdcaa
open Go
theorem snoc_ind {p : List Bs → Prop} (base : p []) (step : ∀ l x, p l → p (l ++ [x])) (l : List Bs) : p l := by
  have h : ∀ m : List Bs, p m.reverse := fun m => by
    induction m with
    | nil => exact base
    | cons x m ih => rw [List.reverse_cons]; exact step _ _ ih
  simpa using h l.reverse
/-- The products of the rows of a layer with the heads. -/
def stepsL (hs layer : List Bs) : List Bs := layer.flatMap fun r => hs.map (timesL r)
theorem stepsL_mem (hs layer : List Bs) (x : Bs) : x ∈ stepsL hs layer ↔ ∃ r ∈ layer, ∃ h ∈ hs, x = timesL r h := by
  unfold stepsL
  simp only [List.mem_flatMap, List.mem_map]
  exact ⟨fun ⟨r, hr, h, hh, e⟩ => ⟨r, hr, h, hh, e.symm⟩, fun ⟨r, hr, h, hh, e⟩ => ⟨r, hr, h, hh, e.symm⟩⟩
theorem stepsL_len (hs layer : List Bs) : (stepsL hs layer).length = layer.length * hs.length := by
  unfold stepsL
  induction layer with
  | nil => simp
  | cons r l ih => rw [List.flatMap_cons, List.length_append, ih, List.length_map, List.length_cons, Nat.add_mul]; omega
theorem stepsL_snoc (hs l : List Bs) (k : Nat) (h : k < l.length) : stepsL hs (l.take (k + 1)) = stepsL hs (l.take k) ++ hs.map (timesL (l.getD k [])) := by
  unfold stepsL
  rw [List.take_add_one, List.getElem?_eq_getElem h, List.getD_eq_getElem?_getD, List.getElem?_eq_getElem h, List.flatMap_append]
  simp
/-- The new ones among some rows, each once. -/
def newL (S : List Bs) (l : List Bs) : List Bs := l.foldl (fun acc x => if x ∈ S ∨ x ∈ acc then acc else acc ++ [x]) []
theorem newL_snoc (S l : List Bs) (x : Bs) : newL S (l ++ [x]) = if x ∈ S ∨ x ∈ newL S l then newL S l else newL S l ++ [x] := by
  unfold newL
  rw [List.foldl_append]; rfl
theorem newL_spec (S : List Bs) (l : List Bs) : (newL S l).Nodup ∧ (∀ x, x ∈ newL S l ↔ x ∈ l ∧ x ∉ S) ∧ (newL S l).length ≤ l.length := by
  induction l using snoc_ind with
  | base => simp [newL]
  | step l x ih =>
    obtain ⟨h1, h2, h3⟩ := ih
    rw [newL_snoc]
    split
    · rename_i h
      refine ⟨h1, fun y => ?_, by simp; omega⟩
      rw [h2, List.mem_append, List.mem_singleton]
      constructor
      · exact fun ⟨a, b⟩ => ⟨.inl a, b⟩
      · rintro ⟨a | a, b⟩
        · exact ⟨a, b⟩
        · subst a
          rcases h with h | h
          · exact absurd h b
          · exact (h2 y).1 h
    · rename_i h
      have hS : x ∉ S := fun hh => h (.inl hh)
      have hn : x ∉ newL S l := fun hh => h (.inr hh)
      refine ⟨List.nodup_append.2 ⟨h1, by simp, fun a ha b hb e => hn (by rw [List.mem_singleton.1 hb] at e; exact e ▸ ha)⟩, fun y => ?_, by simp; omega⟩
      rw [List.mem_append, List.mem_singleton, h2, List.mem_append, List.mem_singleton]
      constructor
      · rintro (⟨a, b⟩ | a)
        · exact ⟨.inl a, b⟩
        · subst a; exact ⟨.inr rfl, hS⟩
      · rintro ⟨a | a, b⟩
        · exact .inl ⟨a, b⟩
        · exact .inr a
/-- The next layer behind the rows S. -/
def layNx (S hs layer : List Bs) : List Bs := srt (newL S (stepsL hs layer))
theorem layNx_rise (S hs layer : List Bs) : Rise (layNx S hs layer) := srt_rise (newL_spec S _).1
theorem layNx_mem (S hs layer : List Bs) (x : Bs) : x ∈ layNx S hs layer ↔ (∃ r ∈ layer, ∃ h ∈ hs, x = timesL r h) ∧ x ∉ S := by
  unfold layNx
  rw [srt_mem, (newL_spec S _).2.1, stepsL_mem]
theorem layNx_len (S hs layer : List Bs) : (layNx S hs layer).length ≤ layer.length * hs.length := by
  unfold layNx
  rw [srt_len, ← stepsL_len]
  exact (newL_spec S _).2.2
/-- The same by another way: out of a list in order, whatever is new and not the last that was taken. -/
def uqL (S : List Bs) (l : List Bs) : List Bs := l.foldl (fun acc x => if acc.getLast? = some x ∨ x ∈ S then acc else acc ++ [x]) []
theorem uqL_snoc (S l : List Bs) (x : Bs) : uqL S (l ++ [x]) = if (uqL S l).getLast? = some x ∨ x ∈ S then uqL S l else uqL S l ++ [x] := by
  unfold uqL
  rw [List.foldl_append]; rfl
theorem uqL_len (S l : List Bs) : (uqL S l).length ≤ l.length := by
  induction l using snoc_ind with
  | base => simp [uqL]
  | step l x ih => rw [uqL_snoc]; split <;> simp <;> omega
theorem uqL_spec (S : List Bs) (l : List Bs) (hl : l.Pairwise (· ≤ ·)) : Rise (uqL S l) ∧ (∀ x, x ∈ uqL S l ↔ x ∈ l ∧ x ∉ S) ∧ (uqL S l).length ≤ l.length := by
  induction l using snoc_ind with
  | base => simp [uqL, Rise]
  | step l x ih =>
    obtain ⟨hl1, _, hl2⟩ := List.pairwise_append.1 hl
    obtain ⟨h1, h2, h3⟩ := ih hl1
    have hle : ∀ y ∈ uqL S l, y ≤ x := fun y hy => hl2 y ((h2 y).1 hy).1 x (by simp)
    rw [uqL_snoc]
    split
    · rename_i h
      refine ⟨h1, fun y => ?_, by simp; omega⟩
      rw [h2, List.mem_append, List.mem_singleton]
      constructor
      · exact fun ⟨a, b⟩ => ⟨.inl a, b⟩
      · rintro ⟨a | a, b⟩
        · exact ⟨a, b⟩
        · subst a
          rcases h with h | h
          · exact (h2 y).1 (List.mem_of_getLast? h)
          · exact absurd h b
    · rename_i h
      have hS : x ∉ S := fun hh => h (.inr hh)
      have hlast : ∀ y ∈ uqL S l, y < x := fun y hy => by
        rcases List.le_iff_lt_or_eq.1 (hle y hy) with hlt | e
        · exact hlt
        · exfalso
          subst e
          apply h
          left
          obtain ⟨z, hz⟩ : ∃ z, (uqL S l).getLast? = some z := by
            cases hg : (uqL S l).getLast? with
            | none => rw [List.getLast?_eq_none_iff.1 hg] at hy; cases hy
            | some z => exact ⟨z, rfl⟩
          rw [hz]
          congr 1
          have hzm := List.mem_of_getLast? hz
          obtain ⟨t, ht⟩ := List.getLast?_eq_some_iff.1 hz
          rcases List.mem_append.1 (ht ▸ hy) with hm | hm
          · have h1' : Rise (t ++ [z]) := ht ▸ h1
            have := (List.pairwise_append.1 h1').2.2 y hm z (by simp)
            exact absurd (hle z hzm) (List.not_le.2 this)
          · exact (List.mem_singleton.1 hm).symm
      refine ⟨List.pairwise_append.2 ⟨h1, List.pairwise_singleton _ _, fun a ha b hb => by rw [List.mem_singleton.1 hb]; exact hlast a ha⟩, fun y => ?_, by simp; omega⟩
      rw [List.mem_append, List.mem_singleton, h2, List.mem_append, List.mem_singleton]
      constructor
      · rintro (⟨a, b⟩ | a)
        · exact ⟨.inl a, b⟩
        · subst a; exact ⟨.inr rfl, hS⟩
      · rintro ⟨a | a, b⟩
        · exact .inl ⟨a, b⟩
        · exact .inr a
theorem uqL_nxt (S hs layer : List Bs) : uqL S (srt (stepsL hs layer)) = layNx S hs layer := by
  obtain ⟨h1, h2, _⟩ := uqL_spec S (srt (stepsL hs layer)) (srt_sorted _)
  refine rise_uniq h1 (layNx_rise S hs layer) fun x => ?_
  rw [h2, srt_mem, stepsL_mem, layNx_mem]
/-- The layers up to number k. -/
def lays (hs : List Bs) (f : Bs) : Nat → List (List Bs)
  | 0 => [[f]]
  | k + 1 => lays hs f k ++ [layNx (lays hs f k).flatten hs ((lays hs f k).getD k [])]
def layer (hs : List Bs) (f : Bs) (k : Nat) : List Bs := (lays hs f k).getD k []
theorem lays_len (hs : List Bs) (f : Bs) (k : Nat) : (lays hs f k).length = k + 1 := by
  induction k with
  | zero => rfl
  | succ k ih => rw [lays, List.length_append, ih]; rfl
theorem lays_succ (hs : List Bs) (f : Bs) (k : Nat) : lays hs f (k + 1) = lays hs f k ++ [layer hs f (k + 1)] := by
  have h := lays_len hs f k
  unfold layer
  rw [lays, List.getD_eq_getElem?_getD (i := k + 1), List.getElem?_append_right (by omega), h]
  simp
theorem layer_zero (hs : List Bs) (f : Bs) : layer hs f 0 = [f] := rfl
theorem layer_succ (hs : List Bs) (f : Bs) (k : Nat) : layer hs f (k + 1) = layNx (lays hs f k).flatten hs (layer hs f k) := by
  have h := lays_len hs f k
  rw [layer, lays, List.getD_eq_getElem?_getD (i := k + 1), List.getElem?_append_right (by omega), h]
  simp [layer]
theorem lays_get (hs : List Bs) (f : Bs) (k j : Nat) (h : j ≤ k) : (lays hs f k).getD j [] = layer hs f j := by
  induction k with
  | zero => obtain rfl : j = 0 := by omega
            rfl
  | succ k ih =>
    by_cases he : j = k + 1
    · rw [he]; rfl
    · have := lays_len hs f k
      rw [lays_succ, List.getD_eq_getElem?_getD, List.getElem?_append_left (by omega), ← List.getD_eq_getElem?_getD]
      exact ih (by omega)
theorem lays_mem (hs : List Bs) (f : Bs) (k : Nat) (x : Bs) : x ∈ (lays hs f k).flatten ↔ ∃ j ≤ k, x ∈ layer hs f j := by
  induction k with
  | zero =>
    constructor
    · intro h; exact ⟨0, Nat.le_refl _, by simpa [lays, layer_zero] using h⟩
    · rintro ⟨j, hj, h⟩
      obtain rfl : j = 0 := by omega
      simpa [lays, layer_zero] using h
  | succ k ih =>
    rw [lays_succ, List.flatten_append, List.mem_append, ih]
    constructor
    · rintro (⟨j, hj, h⟩ | h)
      · exact ⟨j, by omega, h⟩
      · exact ⟨k + 1, Nat.le_refl _, by simpa using h⟩
    · rintro ⟨j, hj, h⟩
      by_cases he : j = k + 1
      · subst he; exact .inr (by simpa using h)
      · exact .inl ⟨j, by omega, h⟩
/-- The layers up to the one that has a row: at most m more behind number k. -/
def layGo (hs : List Bs) (f t : Bs) : Nat → Nat → Option Nat
  | 0, _ => none
  | m + 1, k => if 800 < (lays hs f k).flatten.length then none else if t ∈ layer hs f (k + 1) then some (k + 1) else layGo hs f t m (k + 1)
theorem layGo_some {hs : List Bs} {f t : Bs} : ∀ {m k n : Nat}, layGo hs f t m k = some n → k < n ∧ n ≤ k + m ∧ t ∈ layer hs f n ∧ (∀ j, k < j → j < n → t ∉ layer hs f j) ∧ ∀ j, k ≤ j → j < n → (lays hs f j).flatten.length ≤ 800 := by
  intro m
  induction m with
  | zero => intro k n h; cases h
  | succ m ih =>
    intro k n h
    rw [layGo] at h
    split at h
    · cases h
    · rename_i hc
      split at h
      · rename_i ht
        cases h
        refine ⟨by omega, by omega, ht, fun j h1 h2 => by omega, fun j h1 h2 => ?_⟩
        obtain rfl : j = k := by omega
        omega
      · rename_i ht
        obtain ⟨h1, h2, h3, h4, h5⟩ := ih h
        refine ⟨by omega, by omega, h3, fun j a b => ?_, fun j a b => ?_⟩
        · by_cases he : j = k + 1
          · subst he; exact ht
          · exact h4 j (by omega) b
        · by_cases he : j = k
          · subst he; omega
          · exact h5 j (by omega) b
end Go.Proofs.Ytnhealghpfjdcaa
