/-
  The halves of a list. No program.
  Conditions: none.
-/
import Derived.Test.YtfklonhjgkahdaaPn
import Derived.Test.YtfklonhjgkahdaaA22
set_option linter.unusedSimpArgs false
set_option linter.unusedVariables false
set_option linter.defProp false
namespace Go.Proofs.Ytfklonhjgkahdaa
open Go
/-- The last n and the others are both palindromes of odd length. -/
def HalfAt (l : List Bs) (n : Nat) : Prop := n % 2 = 1 ∧ (l.length - n) % 2 = 1 ∧ IsPal (l.take (l.length - n)) ∧ IsPal (l.drop (l.length - n))
instance (l : List Bs) (n : Nat) : Decidable (HalfAt l n) := by unfold HalfAt; infer_instance
def halfG (l : List Bs) : Nat → Nat → Option (List Bs × List Bs)
  | 0, _ => none
  | f + 1, n => if HalfAt l n then some (l.take ((l.length - n + 1) / 2), (l.drop (l.length - n)).take ((n + 1) / 2)) else halfG l f (n + 1)
/-- The halves of a list: the shortest second one. -/
def halvesL (l : List Bs) : Option (List Bs × List Bs) := halfG l (l.length - 1) 1
theorem halfG_yes {l : List Bs} {n : Nat} (hn : n < l.length) (h : HalfAt l n) : halfG l (l.length - n) n = some (l.take ((l.length - n + 1) / 2), (l.drop (l.length - n)).take ((n + 1) / 2)) := by
  obtain ⟨f, hf⟩ : ∃ f, l.length - n = f + 1 := ⟨l.length - n - 1, by omega⟩
  rw [hf, halfG, if_pos h, hf]
theorem halfG_no {l : List Bs} {n : Nat} (h : ¬ HalfAt l n) : halfG l (l.length - n) n = halfG l (l.length - (n + 1)) (n + 1) := by
  by_cases hn : n < l.length
  · obtain ⟨f, hf⟩ : ∃ f, l.length - n = f + 1 := ⟨l.length - n - 1, by omega⟩
    rw [hf, halfG, if_neg h, show l.length - (n + 1) = f by omega]
  · rw [show l.length - n = 0 by omega, show l.length - (n + 1) = 0 by omega]; rfl
theorem halfG_end {l : List Bs} {n : Nat} (h : l.length ≤ n) : halfG l (l.length - n) n = none := by
  rw [show l.length - n = 0 by omega]; rfl
theorem halfG_some {l : List Bs} {r : List Bs × List Bs} : ∀ {f n : Nat}, 1 ≤ n → f + n ≤ l.length → halfG l f n = some r → ∃ m, 1 ≤ m ∧ m < l.length ∧ HalfAt l m ∧ r = (l.take ((l.length - m + 1) / 2), (l.drop (l.length - m)).take ((m + 1) / 2)) := by
  intro f
  induction f with
  | zero => intro n _ _ h; cases h
  | succ f ih =>
    intro n h1 hf h
    rw [halfG] at h
    split at h
    · rename_i hh
      simp only [Option.some.injEq] at h
      exact ⟨n, h1, by omega, hh, h.symm⟩
    · exact ih (by omega) (by omega) h
theorem mirL_rev {l : List Bs} (h : l ≠ []) : (mirL l).reverse = mirL l := by
  unfold mirL
  obtain ⟨d, x, rfl⟩ : ∃ d x, l = d ++ [x] := ⟨l.dropLast, l.getLast h, (List.dropLast_concat_getLast h).symm⟩
  rw [List.dropLast_concat]
  simp
theorem mirL_pal (l : List Bs) : ∀ k, k < (mirL l).length → (mirL l).getD k [] = (mirL l).getD ((mirL l).length - 1 - k) [] := fun k hk => by
  by_cases h : l = []
  · subst h; simp [mirL] at hk
  · have h1 : (mirL l).getD k [] = ((mirL l).reverse).getD k [] := by rw [mirL_rev h]
    rw [h1, List.getD_eq_getElem?_getD, List.getElem?_reverse hk, List.getD_eq_getElem?_getD]
theorem pal_rev {p : List Bs} (hp : IsPal p) : p.reverse = p := by
  apply List.ext_getElem?
  intro i
  by_cases hi : i < p.length
  · rw [List.getElem?_reverse hi]
    have := hp i hi
    rw [List.getD_eq_getElem?_getD, List.getD_eq_getElem?_getD, List.getElem?_eq_getElem hi, List.getElem?_eq_getElem (by omega)] at this
    rw [List.getElem?_eq_getElem hi, List.getElem?_eq_getElem (by omega)]
    simpa using this.symm
  · rw [List.getElem?_eq_none (by simp; omega), List.getElem?_eq_none (by omega)]
theorem mirL_half {p : List Bs} (hp : IsPal p) (ho : p.length % 2 = 1) : mirL (p.take ((p.length + 1) / 2)) = p := by
  have hr := pal_rev hp
  have hm : (p.length + 1) / 2 = p.length / 2 + 1 := by omega
  have hlt : p.length / 2 < p.length := by omega
  unfold mirL
  have e1 : (p.take ((p.length + 1) / 2)).dropLast = p.take (p.length / 2) := by
    rw [List.dropLast_eq_take, List.length_take, List.take_take]
    congr 1
    omega
  have e2 : (p.take (p.length / 2)).reverse = p.drop ((p.length + 1) / 2) := by
    have : p.take (p.length / 2) = (p.reverse).take (p.length / 2) := by rw [hr]
    rw [this, List.take_reverse, List.reverse_reverse]
    congr 1
    omega
  rw [e1, e2, List.take_append_drop]
theorem halvesL_spec {l a b : List Bs} (h : halvesL l = some (a, b)) : mirL a ++ mirL b = l ∧ (1 ≤ a.length ∧ a.length ≤ l.length) ∧ (1 ≤ b.length ∧ b.length ≤ l.length) ∧ (∀ c ∈ a, c ∈ l) ∧ ∀ c ∈ b, c ∈ l := by
  by_cases h0 : l.length = 0
  · rw [halvesL, h0] at h; cases h
  obtain ⟨m, h1, hm, ⟨ho, he, hp, hq⟩, hr⟩ := halfG_some (Nat.le_refl 1) (by omega) h
  simp only [Prod.mk.injEq] at hr
  obtain ⟨rfl, rfl⟩ := hr
  have l1 : (l.take (l.length - m)).length = l.length - m := by rw [List.length_take]; omega
  have l2 : (l.drop (l.length - m)).length = m := by rw [List.length_drop]; omega
  have e1 := mirL_half hp (by rw [l1]; exact he)
  have e2 := mirL_half hq (by rw [l2]; exact ho)
  rw [l1, List.take_take, Nat.min_eq_left (by omega)] at e1
  rw [l2] at e2
  refine ⟨by rw [e1, e2, List.take_append_drop], ?_, ?_, fun c hc => List.mem_of_mem_take hc, fun c hc => List.mem_of_mem_drop (List.mem_of_mem_take hc)⟩
  · rw [List.length_take]; omega
  · rw [List.length_take, l2]; omega
end Go.Proofs.Ytfklonhjgkahdaa
