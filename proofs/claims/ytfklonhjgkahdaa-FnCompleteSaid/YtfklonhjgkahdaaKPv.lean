/-
  Plain lists: the rows that some rows generate. No program.
  Conditions: none.
-/
import Derived.Test.YtfklonhjgkahdaaKPd
import Derived.Test.YtfklonhjgkahdaaKPs
set_option linter.unusedSimpArgs false
set_option linter.unusedVariables false
set_option linter.defProp false
namespace Go.Proofs.Ytfklonhjgkahdaa
open Go
/-- One more row, unless it is there. -/
def put1 (l : List Bs) (x : Bs) : List Bs := if x ∈ l then l else l ++ [x]
theorem put1_mem (l : List Bs) (x y : Bs) : y ∈ put1 l x ↔ y ∈ l ∨ y = x := by
  unfold put1
  split
  · rename_i h
    exact ⟨.inl, fun hh => hh.elim id fun e => e ▸ h⟩
  · simp
theorem snoc_ind {p : List Bs → Prop} (base : p []) (step : ∀ l x, p l → p (l ++ [x])) (l : List Bs) : p l := by
  have h : ∀ m : List Bs, p m.reverse := fun m => by
    induction m with
    | nil => exact base
    | cons x m ih => rw [List.reverse_cons]; exact step _ _ ih
  simpa using h l.reverse
/-- The products of the rows of a layer with the heads. -/
def stepsL (hs layer : List Bs) : List Bs := layer.flatMap fun r => hs.map (timesL r)
theorem stepsL_mem (hs layer : List Bs) (x : Bs) : x ∈ stepsL hs layer ↔ ∃ r ∈ layer, ∃ h ∈ hs, x = timesL r h := by
  unfold stepsL
  simp only [List.mem_flatMap, List.mem_map]
  exact ⟨fun ⟨r, hr, h, hh, e⟩ => ⟨r, hr, h, hh, e.symm⟩, fun ⟨r, hr, h, hh, e⟩ => ⟨r, hr, h, hh, e.symm⟩⟩
/-- The new ones among some rows, each once. -/
def newL (S : List Bs) (l : List Bs) : List Bs := l.foldl (fun acc x => if x ∈ S ∨ x ∈ acc then acc else acc ++ [x]) []
theorem newL_snoc (S l : List Bs) (x : Bs) : newL S (l ++ [x]) = if x ∈ S ∨ x ∈ newL S l then newL S l else newL S l ++ [x] := by
  unfold newL
  rw [List.foldl_append]; rfl
theorem newL_spec (S : List Bs) (l : List Bs) : (newL S l).Nodup ∧ (∀ x, x ∈ newL S l ↔ x ∈ l ∧ x ∉ S) ∧ (newL S l).length ≤ l.length := by
  induction l using snoc_ind with
  | base => simp [newL]
  | step l x ih =>
    obtain ⟨h1, h2, h3⟩ := ih
    rw [newL_snoc]
    split
    · rename_i h
      refine ⟨h1, fun y => ?_, by simp; omega⟩
      rw [h2, List.mem_append, List.mem_singleton]
      constructor
      · exact fun ⟨a, b⟩ => ⟨.inl a, b⟩
      · rintro ⟨a | a, b⟩
        · exact ⟨a, b⟩
        · subst a
          rcases h with h | h
          · exact absurd h b
          · exact (h2 y).1 h
    · rename_i h
      have hS : x ∉ S := fun hh => h (.inl hh)
      have hn : x ∉ newL S l := fun hh => h (.inr hh)
      refine ⟨List.nodup_append.2 ⟨h1, by simp, fun a ha b hb e => hn (by rw [List.mem_singleton.1 hb] at e; exact e ▸ ha)⟩, fun y => ?_, by simp; omega⟩
      rw [List.mem_append, List.mem_singleton, h2, List.mem_append, List.mem_singleton]
      constructor
      · rintro (⟨a, b⟩ | a)
        · exact ⟨.inl a, b⟩
        · subst a; exact ⟨.inr rfl, hS⟩
      · rintro ⟨a | a, b⟩
        · exact .inl ⟨a, b⟩
        · exact .inr a
/-- The next layer behind the rows S. -/
def layNx (S hs layer : List Bs) : List Bs := srt (newL S (stepsL hs layer))
theorem layNx_mem (S hs layer : List Bs) (x : Bs) : x ∈ layNx S hs layer ↔ (∃ r ∈ layer, ∃ h ∈ hs, x = timesL r h) ∧ x ∉ S := by
  unfold layNx
  rw [srt_mem, (newL_spec S _).2.1, stepsL_mem]
/-- The layers up to number k. -/
def lays (hs : List Bs) (f : Bs) : Nat → List (List Bs)
  | 0 => [[f]]
  | k + 1 => lays hs f k ++ [layNx (lays hs f k).flatten hs ((lays hs f k).getD k [])]
def layer (hs : List Bs) (f : Bs) (k : Nat) : List Bs := (lays hs f k).getD k []
theorem lays_len (hs : List Bs) (f : Bs) (k : Nat) : (lays hs f k).length = k + 1 := by
  induction k with
  | zero => rfl
  | succ k ih => rw [lays, List.length_append, ih]; rfl
theorem lays_succ (hs : List Bs) (f : Bs) (k : Nat) : lays hs f (k + 1) = lays hs f k ++ [layer hs f (k + 1)] := by
  have h := lays_len hs f k
  unfold layer
  rw [lays, List.getD_eq_getElem?_getD (i := k + 1), List.getElem?_append_right (by omega), h]
  simp
theorem layer_zero (hs : List Bs) (f : Bs) : layer hs f 0 = [f] := rfl
theorem layer_succ (hs : List Bs) (f : Bs) (k : Nat) : layer hs f (k + 1) = layNx (lays hs f k).flatten hs (layer hs f k) := by
  have h := lays_len hs f k
  rw [layer, lays, List.getD_eq_getElem?_getD (i := k + 1), List.getElem?_append_right (by omega), h]
  simp [layer]
theorem lays_mem (hs : List Bs) (f : Bs) (k : Nat) (x : Bs) : x ∈ (lays hs f k).flatten ↔ ∃ j ≤ k, x ∈ layer hs f j := by
  induction k with
  | zero =>
    constructor
    · intro h; exact ⟨0, Nat.le_refl _, by simpa [lays, layer_zero] using h⟩
    · rintro ⟨j, hj, h⟩
      obtain rfl : j = 0 := by omega
      simpa [lays, layer_zero] using h
  | succ k ih =>
    rw [lays_succ, List.flatten_append, List.mem_append, ih]
    constructor
    · rintro (⟨j, hj, h⟩ | h)
      · exact ⟨j, by omega, h⟩
      · exact ⟨k + 1, Nat.le_refl _, by simpa using h⟩
    · rintro ⟨j, hj, h⟩
      by_cases he : j = k + 1
      · subst he; exact .inr (by simpa using h)
      · exact .inl ⟨j, by omega, h⟩
section
variable (H : UInt8 → Bs)
def hs3 : List Bs := [H 112, H 98, H 115]
/-- The least word of n letters that leads from r to t. -/
def leastT (t : Bs) : Nat → Bs → Option Bs
  | 0, r => if r = t then some [] else none
  | n + 1, r => match leastT t n (timesL r (H 98)) with
    | some x => some (98 :: x)
    | none => match leastT t n (timesL r (H 112)) with
      | some x => some (112 :: x)
      | none => match leastT t n (timesL r (H 115)) with
        | some x => some (115 :: x)
        | none => none
end
section
variable {H : UInt8 → Bs} {t f : Bs}
theorem leastT_b {n : Nat} {r x : Bs} (h : leastT H t n (timesL r (H 98)) = some x) : leastT H t (n + 1) r = some (98 :: x) := by rw [leastT, h]
theorem leastT_p {n : Nat} {r x : Bs} (h1 : leastT H t n (timesL r (H 98)) = none) (h : leastT H t n (timesL r (H 112)) = some x) : leastT H t (n + 1) r = some (112 :: x) := by rw [leastT, h1]; simp only [h]
theorem leastT_s {n : Nat} {r x : Bs} (h1 : leastT H t n (timesL r (H 98)) = none) (h2 : leastT H t n (timesL r (H 112)) = none) (h : leastT H t n (timesL r (H 115)) = some x) : leastT H t (n + 1) r = some (115 :: x) := by rw [leastT, h1]; simp only [h2, h]
theorem leastT_n {n : Nat} {r : Bs} (h1 : leastT H t n (timesL r (H 98)) = none) (h2 : leastT H t n (timesL r (H 112)) = none) (h : leastT H t n (timesL r (H 115)) = none) : leastT H t (n + 1) r = none := by rw [leastT, h1]; simp only [h2, h]
def Rch (H : UInt8 → Bs) (t : Bs) (n : Nat) (r : Bs) : Prop := leastT H t n r ≠ none
theorem rch_zero (r : Bs) : Rch H t 0 r ↔ r = t := by
  unfold Rch leastT
  by_cases h : r = t <;> simp [h]
theorem rch_succ (n : Nat) (r : Bs) : Rch H t (n + 1) r ↔ ∃ h ∈ hs3 H, Rch H t n (timesL r h) := by
  unfold Rch hs3
  simp only [List.mem_cons, List.not_mem_nil, or_false, exists_eq_or_imp, exists_eq_left]
  cases h1 : leastT H t n (timesL r (H 98)) with
  | some x => rw [leastT_b h1]; simp
  | none =>
    cases h2 : leastT H t n (timesL r (H 112)) with
    | some x => rw [leastT_p h1 h2]; simp
    | none =>
      cases h3 : leastT H t n (timesL r (H 115)) with
      | some x => rw [leastT_s h1 h2 h3]; simp
      | none => rw [leastT_n h1 h2 h3]; simp
theorem layer_in {hs : List Bs} {j : Nat} {x h : Bs} (hx : x ∈ layer hs f j) (hh : h ∈ hs) : ∃ i ≤ j + 1, timesL x h ∈ layer hs f i := by
  by_cases hm : timesL x h ∈ (lays hs f j).flatten
  · obtain ⟨i, hi, h2⟩ := (lays_mem hs f j _).1 hm
    exact ⟨i, by omega, h2⟩
  · exact ⟨j + 1, Nat.le_refl _, by rw [layer_succ, layNx_mem]; exact ⟨⟨x, hx, h, hh, rfl⟩, hm⟩⟩
theorem rch_in : ∀ (n j : Nat) (x : Bs), x ∈ layer (hs3 H) f j → Rch H t n x → ∃ i ≤ j + n, t ∈ layer (hs3 H) f i := by
  intro n
  induction n with
  | zero => intro j x hx hr; exact ⟨j, by omega, (rch_zero x).1 hr ▸ hx⟩
  | succ n ih =>
    intro j x hx hr
    obtain ⟨h, hh, hr⟩ := (rch_succ n x).1 hr
    obtain ⟨i, hi, hy⟩ := layer_in hx hh
    obtain ⟨m, hm, hz⟩ := ih i _ hy hr
    exact ⟨m, by omega, hz⟩
/-- t lies first in layer K. -/
def First (H : UInt8 → Bs) (f t : Bs) (K : Nat) : Prop := t ∈ layer (hs3 H) f K ∧ ∀ j < K, t ∉ layer (hs3 H) f j
/-- On a shortest way each step leads to the next layer. -/
theorem First.step {K i n : Nat} (hF : First H f t K) (hi : i + 1 + n = K) {r h : Bs} (hr : r ∈ layer (hs3 H) f i) (hh : h ∈ hs3 H) (hR : Rch H t n (timesL r h)) : timesL r h ∈ layer (hs3 H) f (i + 1) := by
  obtain ⟨j, hj, hx⟩ := layer_in hr hh
  by_cases he : j = i + 1
  · subst he; exact hx
  · obtain ⟨m, hm, ht⟩ := rch_in n j _ hx hR
    exact absurd ht (hF.2 m (by omega))
/-- The rows of layer i from which there are n steps to t. -/
def Good (H : UInt8 → Bs) (f t : Bs) (i n : Nat) (r : Bs) : Prop := r ∈ layer (hs3 H) f i ∧ Rch H t n r
theorem First.good {K i n : Nat} (hF : First H f t K) (hi : i + 1 + n = K) {r : Bs} (hr : r ∈ layer (hs3 H) f i) : Good H f t i (n + 1) r ↔ ∃ h ∈ hs3 H, Good H f t (i + 1) n (timesL r h) := by
  constructor
  · rintro ⟨_, h⟩
    obtain ⟨x, hx, hR⟩ := (rch_succ n r).1 h
    exact ⟨x, hx, hF.step hi hr hx hR, hR⟩
  · rintro ⟨h, hh, _, hR⟩
    exact ⟨hr, (rch_succ n r).2 ⟨h, hh, hR⟩⟩
theorem First.last {K : Nat} (hF : First H f t K) (r : Bs) : Good H f t K 0 r ↔ r = t := by
  constructor
  · rintro ⟨_, h⟩; exact (rch_zero r).1 h
  · rintro rfl; exact ⟨hF.1, (rch_zero r).2 rfl⟩
end
end Go.Proofs.Ytfklonhjgkahdaa
