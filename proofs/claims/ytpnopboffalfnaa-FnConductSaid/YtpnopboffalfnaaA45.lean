/-
  Rows and their coursing orders: each the other's inverse.
  Conditions: none.
-/
import Derived.Test.YtpnopboffalfnaaA12
set_option linter.unusedSimpArgs false
set_option linter.unusedVariables false
set_option linter.defProp false
namespace Go.Proofs.Ytpnopboffalfnaa
open Go Go.RowKit
theorem cou_ne : ∀ n < 9, ∀ k < (coursingL n).length, ∀ j < k, (coursingL n).getD j 0 ≠ (coursingL n).getD k 0 := by decide +kernel
theorem cou_all_at : ∀ n < 9, ∀ q < n, 1 ≤ q → ∃ j < n - 1, (coursingL n).getD j 0 = ((q + 1 : Nat) : Int) := by decide +kernel
theorem rocM_at (n f : Nat) (l : List UInt8) (hn : 1 ≤ n ∧ n < 9) (hl : l.length + 1 = n) : ∀ k, k ≤ l.length → (rocM n f l k).getD 0 0 = UInt8.ofNat (48 + f) ∧ ∀ j, j < k → (rocM n f l k).getD ((coursingL n).getD j 0 - 1).toNat 0 = l.getD j 0 := by
  intro k
  induction k with
  | zero =>
    intro _
    refine ⟨?_, fun j hj => absurd hj (Nat.not_lt_zero j)⟩
    rw [rocM, getD_set, if_pos ⟨rfl, by simp; omega⟩]
  | succ k ih =>
    intro hk
    obtain ⟨h0, hj⟩ := ih (by omega)
    have hcl := cou_len n hn.2
    have hin := cou_in n hn.2 k (by omega)
    refine ⟨?_, fun j hjk => ?_⟩
    · rw [rocM, getD_set, if_neg (by omega)]; exact h0
    · rw [rocM, getD_set, rocM_len]
      rcases Nat.lt_succ_iff_lt_or_eq.1 hjk with h | rfl
      · have hne := cou_ne n hn.2 k (by omega) j h
        have hin2 := cou_in n hn.2 j (by omega)
        rw [if_neg (by omega)]
        exact hj j h
      · rw [if_pos ⟨rfl, by omega⟩]
theorem course_roc (n f : Nat) (l : List UInt8) (hn : 1 ≤ n ∧ n < 9) (hl : l.length + 1 = n) : courseL (rocM n f l l.length) = l := by
  have hcl := cou_len n hn.2
  refine ext_getD (d := 0) (by rw [courseL, List.length_map, rocM_len]; omega) fun i hi => ?_
  rw [courseL, List.length_map, rocM_len] at hi
  rw [courseL, rocM_len, getD_map _ 0 _ _ _ hi]
  have := (rocM_at n f l hn hl l.length (Nat.le_refl _)).2 i (by omega)
  rw [← this]
  congr 1
  have hin := cou_in n hn.2 i hi
  omega
theorem roc_course {r : List UInt8} (hr : IsRow r) (h4 : 4 ≤ r.length) : rocM r.length (((r.getD 0 0).toNat : Int) - 48).toNat (courseL r) (courseL r).length = r := by
  have h8 := hr.1
  have hcl := cou_len r.length (by omega)
  have hl : (courseL r).length + 1 = r.length := by rw [courseL, List.length_map, hcl]; omega
  have hat := rocM_at r.length (((r.getD 0 0).toNat : Int) - 48).toNat (courseL r) (by omega) hl _ (Nat.le_refl _)
  refine ext_getD (d := 0) (by rw [rocM_len]) fun q hq => ?_
  rw [rocM_len] at hq
  by_cases h0 : q = 0
  · subst h0
    rw [hat.1]
    have hlow := hr.low (i := 0) (by omega)
    rw [show 48 + (((r.getD 0 0).toNat : Int) - 48).toNat = (r.getD 0 0).toNat by omega]
    exact (u8_eq rfl).symm
  · obtain ⟨j, hj, he⟩ := cou_all_at r.length (by omega) q hq (by omega)
    have := hat.2 j (by omega)
    rw [he, show (((q + 1 : Nat) : Int) - 1).toNat = q by omega] at this
    rw [this, courseL, getD_map _ 0 _ _ _ (by omega), he]
    rfl
end Go.Proofs.Ytpnopboffalfnaa
