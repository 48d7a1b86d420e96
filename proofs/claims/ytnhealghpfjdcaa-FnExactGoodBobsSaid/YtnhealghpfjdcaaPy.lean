/-
  Plain lists: the least of the shortest ways through layers. No program.
  Conditions: none.
-/
import Derived.Test.YtnhealghpfjdcaaPw
set_option linter.unusedSimpArgs false
set_option linter.unusedVariables false
set_option linter.defProp false
namespace Go.Proofs.Ytnhealghpfjdcaa
open Go
section
variable (H : UInt8 → Bs)
def hs3 : List Bs := [H 112, H 98, H 115]
/-- The least word of n letters that leads from r to t. -/
def leastT (t : Bs) : Nat → Bs → Option Bs
  | 0, r => if r = t then some [] else none
  | n + 1, r => match leastT t n (timesL r (H 98)) with
    | some x => some (98 :: x)
    | none => match leastT t n (timesL r (H 112)) with
      | some x => some (112 :: x)
      | none => match leastT t n (timesL r (H 115)) with
        | some x => some (115 :: x)
        | none => none
end
section
variable {H : UInt8 → Bs} {t f : Bs}
theorem leastT_b {n : Nat} {r x : Bs} (h : leastT H t n (timesL r (H 98)) = some x) : leastT H t (n + 1) r = some (98 :: x) := by rw [leastT, h]
theorem leastT_p {n : Nat} {r x : Bs} (h1 : leastT H t n (timesL r (H 98)) = none) (h : leastT H t n (timesL r (H 112)) = some x) : leastT H t (n + 1) r = some (112 :: x) := by rw [leastT, h1]; simp only [h]
theorem leastT_s {n : Nat} {r x : Bs} (h1 : leastT H t n (timesL r (H 98)) = none) (h2 : leastT H t n (timesL r (H 112)) = none) (h : leastT H t n (timesL r (H 115)) = some x) : leastT H t (n + 1) r = some (115 :: x) := by rw [leastT, h1]; simp only [h2, h]
theorem leastT_n {n : Nat} {r : Bs} (h1 : leastT H t n (timesL r (H 98)) = none) (h2 : leastT H t n (timesL r (H 112)) = none) (h : leastT H t n (timesL r (H 115)) = none) : leastT H t (n + 1) r = none := by rw [leastT, h1]; simp only [h2, h]
def Rch (H : UInt8 → Bs) (t : Bs) (n : Nat) (r : Bs) : Prop := leastT H t n r ≠ none
theorem rch_zero (r : Bs) : Rch H t 0 r ↔ r = t := by
  unfold Rch leastT
  by_cases h : r = t <;> simp [h]
theorem rch_succ (n : Nat) (r : Bs) : Rch H t (n + 1) r ↔ ∃ h ∈ hs3 H, Rch H t n (timesL r h) := by
  unfold Rch hs3
  simp only [List.mem_cons, List.not_mem_nil, or_false, exists_eq_or_imp, exists_eq_left]
  cases h1 : leastT H t n (timesL r (H 98)) with
  | some x => rw [leastT_b h1]; simp
  | none =>
    cases h2 : leastT H t n (timesL r (H 112)) with
    | some x => rw [leastT_p h1 h2]; simp
    | none =>
      cases h3 : leastT H t n (timesL r (H 115)) with
      | some x => rw [leastT_s h1 h2 h3]; simp
      | none => rw [leastT_n h1 h2 h3]; simp
theorem layer_in {hs : List Bs} {j : Nat} {x h : Bs} (hx : x ∈ layer hs f j) (hh : h ∈ hs) : ∃ i ≤ j + 1, timesL x h ∈ layer hs f i := by
  by_cases hm : timesL x h ∈ (lays hs f j).flatten
  · obtain ⟨i, hi, h2⟩ := (lays_mem hs f j _).1 hm
    exact ⟨i, by omega, h2⟩
  · exact ⟨j + 1, Nat.le_refl _, by rw [layer_succ, layNx_mem]; exact ⟨⟨x, hx, h, hh, rfl⟩, hm⟩⟩
theorem layer_from {hs : List Bs} {j : Nat} {x : Bs} (hx : x ∈ layer hs f (j + 1)) : ∃ r ∈ layer hs f j, ∃ h ∈ hs, x = timesL r h := by
  rw [layer_succ, layNx_mem] at hx
  exact hx.1
theorem rch_in : ∀ (n j : Nat) (x : Bs), x ∈ layer (hs3 H) f j → Rch H t n x → ∃ i ≤ j + n, t ∈ layer (hs3 H) f i := by
  intro n
  induction n with
  | zero => intro j x hx hr; exact ⟨j, by omega, (rch_zero x).1 hr ▸ hx⟩
  | succ n ih =>
    intro j x hx hr
    obtain ⟨h, hh, hr⟩ := (rch_succ n x).1 hr
    obtain ⟨i, hi, hy⟩ := layer_in hx hh
    obtain ⟨m, hm, hz⟩ := ih i _ hy hr
    exact ⟨m, by omega, hz⟩
theorem rch_first : ∀ (j n : Nat) (x : Bs), x ∈ layer (hs3 H) f j → Rch H t n x → Rch H t (n + j) f := by
  intro j
  induction j with
  | zero => intro n x hx hr; rw [layer_zero, List.mem_singleton] at hx; exact hx ▸ hr
  | succ j ih =>
    intro n x hx hr
    obtain ⟨r, h1, h, hh, rfl⟩ := layer_from hx
    have := ih (n + 1) r h1 ((rch_succ n r).2 ⟨h, hh, hr⟩)
    rwa [show n + (j + 1) = n + 1 + j by omega]
/-- t lies first in layer K. -/
def First (H : UInt8 → Bs) (f t : Bs) (K : Nat) : Prop := t ∈ layer (hs3 H) f K ∧ ∀ j < K, t ∉ layer (hs3 H) f j
theorem first_of {m K : Nat} (hne : f ≠ t) (h : layGo (hs3 H) f t m 0 = some K) : First H f t K := by
  obtain ⟨_, _, h3, h4, _⟩ := layGo_some h
  refine ⟨h3, fun j hj ht => ?_⟩
  by_cases h0 : j = 0
  · subst h0
    rw [layer_zero, List.mem_singleton] at ht
    exact hne ht.symm
  · exact h4 j (by omega) hj ht
theorem First.start {K : Nat} (h : First H f t K) : Rch H t K f := by
  have := rch_first K 0 t h.1 ((rch_zero t).2 rfl)
  rwa [Nat.zero_add] at this
/-- On a shortest way each step leads to the next layer. -/
theorem First.step {K i n : Nat} (hF : First H f t K) (hi : i + 1 + n = K) {r h : Bs} (hr : r ∈ layer (hs3 H) f i) (hh : h ∈ hs3 H) (hR : Rch H t n (timesL r h)) : timesL r h ∈ layer (hs3 H) f (i + 1) := by
  obtain ⟨j, hj, hx⟩ := layer_in hr hh
  by_cases he : j = i + 1
  · subst he; exact hx
  · obtain ⟨m, hm, ht⟩ := rch_in n j _ hx hR
    exact absurd ht (hF.2 m (by omega))
/-- The rows of layer i from which there are n steps to t. -/
def Good (H : UInt8 → Bs) (f t : Bs) (i n : Nat) (r : Bs) : Prop := r ∈ layer (hs3 H) f i ∧ Rch H t n r
theorem First.good {K i n : Nat} (hF : First H f t K) (hi : i + 1 + n = K) {r : Bs} (hr : r ∈ layer (hs3 H) f i) : Good H f t i (n + 1) r ↔ ∃ h ∈ hs3 H, Good H f t (i + 1) n (timesL r h) := by
  constructor
  · rintro ⟨_, h⟩
    obtain ⟨x, hx, hR⟩ := (rch_succ n r).1 h
    exact ⟨x, hx, hF.step hi hr hx hR, hR⟩
  · rintro ⟨h, hh, _, hR⟩
    exact ⟨hr, (rch_succ n r).2 ⟨h, hh, hR⟩⟩
theorem First.last {K : Nat} (hF : First H f t K) (r : Bs) : Good H f t K 0 r ↔ r = t := by
  constructor
  · rintro ⟨_, h⟩; exact (rch_zero r).1 h
  · rintro rfl; exact ⟨hF.1, (rch_zero r).2 rfl⟩
/-- One letter of the least way. -/
def letter (H : UInt8 → Bs) (t : Bs) (n : Nat) (r : Bs) : UInt8 := if leastT H t n (timesL r (H 98)) ≠ none then 98 else if leastT H t n (timesL r (H 112)) ≠ none then 112 else 115
theorem least_letter {n : Nat} {r : Bs} (h : Rch H t (n + 1) r) : ∃ x, leastT H t n (timesL r (H (letter H t n r))) = some x ∧ leastT H t (n + 1) r = some (letter H t n r :: x) := by
  unfold letter
  cases h1 : leastT H t n (timesL r (H 98)) with
  | some x => exact ⟨x, by simpa using h1, by rw [leastT_b h1]; simp⟩
  | none =>
    cases h2 : leastT H t n (timesL r (H 112)) with
    | some x => exact ⟨x, by simpa using h2, by rw [leastT_p h1 h2]; simp⟩
    | none =>
      cases h3 : leastT H t n (timesL r (H 115)) with
      | some x => exact ⟨x, by simpa using h3, by rw [leastT_s h1 h2 h3]; simp⟩
      | none => exact absurd (leastT_n h1 h2 h3) h
end
end Go.Proofs.Ytnhealghpfjdcaa
