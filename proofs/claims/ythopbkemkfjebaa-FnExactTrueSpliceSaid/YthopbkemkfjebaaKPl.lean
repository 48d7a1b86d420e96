/-
  Plain lists: pairs of equal rows, how often each row occurs. No program.
  Conditions: none.
-/
import Derived.Test.YthopbkemkfjebaaKPz
set_option linter.unusedSimpArgs false
set_option linter.unusedVariables false
set_option linter.defProp false
namespace Go.Proofs.Ythopbkemkfjebaa
open Go
theorem nodup_iff {l : List Bs} : l.Nodup ↔ ∀ i k, i < k → k < l.length → l.getD k [] ≠ l.getD i [] := by
  rw [List.nodup_iff_pairwise_ne, List.pairwise_iff_getElem]
  constructor
  · intro h i k hik hk e
    rw [List.getD_eq_getElem?_getD, List.getD_eq_getElem?_getD, List.getElem?_eq_getElem hk, List.getElem?_eq_getElem (show i < l.length by omega)] at e
    exact h i k (by omega) hk hik e.symm
  · intro h i k hi hk hik e
    refine h i k hik hk ?_
    rw [List.getD_eq_getElem?_getD, List.getD_eq_getElem?_getD, List.getElem?_eq_getElem hk, List.getElem?_eq_getElem hi, Option.getD_some, Option.getD_some, e]
theorem sorted_nodup {l : List Bs} : (∀ k, k + 1 < (srt l).length → (srt l).getD (k + 1) [] ≠ (srt l).getD k []) ↔ l.Nodup := by
  constructor
  · intro h
    refine (srt_perm l).nodup_iff.1 (Rise.nodup (rise_next fun k hk => ?_))
    rcases List.le_iff_lt_or_eq.1 (sorted_get (srt_sorted l) (Nat.le_succ k) hk) with h1 | h1
    · exact h1
    · exact absurd h1.symm (h k hk)
  · intro h k hk e
    have := rise_get (srt_rise h) k (k + 1) (by omega) hk
    rw [e] at this
    exact List.lt_irrefl _ this
end Go.Proofs.Ythopbkemkfjebaa
