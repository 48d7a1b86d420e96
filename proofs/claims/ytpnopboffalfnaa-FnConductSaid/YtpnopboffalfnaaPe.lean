/-
  The rows by rank are rows; patterns that fit.
  Conditions: none.
-/
import Derived.Test.YtpnopboffalfnaaA9
import Derived.Test.YtpnopboffalfnaaA7
set_option linter.unusedSimpArgs false
set_option linter.unusedVariables false
set_option linter.defProp false
namespace Go.Proofs.Ytpnopboffalfnaa
open Go
theorem isRow_iff (l : List UInt8) : IsRow l ↔ (3 ≤ l.length ∧ l.length ≤ 8) ∧ l.Nodup ∧ ∀ x ∈ l, 49 ≤ x.toNat ∧ x.toNat < 49 + l.length := by
  constructor
  · rintro ⟨h, hr⟩
    refine ⟨h, List.nodup_iff_pairwise_ne.2 (List.pairwise_iff_getElem.2 fun i j hi hj hij => ?_), fun x hx => ?_⟩
    · have := (hr j hj).2.2 i hij
      rw [List.getD_eq_getElem?_getD, List.getD_eq_getElem?_getD, List.getElem?_eq_getElem hi, List.getElem?_eq_getElem hj] at this
      exact this
    · obtain ⟨i, hi, rfl⟩ := List.getElem_of_mem hx
      have := hr i hi
      rw [List.getD_eq_getElem?_getD, List.getElem?_eq_getElem hi] at this
      exact ⟨this.1, this.2.1⟩
  · rintro ⟨h, hn, hm⟩
    refine ⟨h, fun i hi => ?_⟩
    have := hm _ (getD_mem 0 hi)
    refine ⟨this.1, this.2, fun j hj => ?_⟩
    have := List.pairwise_iff_getElem.1 (List.nodup_iff_pairwise_ne.1 hn) j i (by omega) hi hj
    rw [List.getD_eq_getElem?_getD, List.getD_eq_getElem?_getD, List.getElem?_eq_getElem hi, List.getElem?_eq_getElem (by omega)]
    exact this
theorem rowGo_perm : ∀ (i : Nat) (l : List UInt8) (k : Nat), l.length = i → k < factL i → (rowGo i l k).Perm l := by
  intro i
  induction i with
  | zero => intro l k hl _; rw [List.length_eq_zero_iff.1 hl]; exact List.Perm.refl _
  | succ i ih =>
    intro l k hl hk
    obtain ⟨hq, hm⟩ := rank_lt i k hk
    rw [rowGo]
    generalize hqe : k / factL i = q at *
    have h1 := ih (l.take q ++ l.drop (q + 1)) (k % factL i) (by simp; omega) hm
    refine (h1.cons _).trans ?_
    have e : l = l.take q ++ (l.getD q 0 :: l.drop (q + 1)) := by
      rw [List.getD_eq_getElem?_getD, List.getElem?_eq_getElem (by omega), Option.getD_some, ← List.drop_eq_getElem_cons (by omega), List.take_append_drop]
    conv => rhs; rw [e]
    exact (List.perm_middle).symm
theorem rowGo_row (n k : Nat) (hn : 3 ≤ n ∧ n ≤ 8) (hk : k < factL n) : IsRow (rowGo n (roundsL n) k) := by
  have hp := rowGo_perm n (roundsL n) k (roundsL_len n) hk
  have hr := (isRow_iff _).1 (roundsL_row n hn)
  rw [isRow_iff, rowGo_len]
  rw [roundsL_len] at hr
  exact ⟨hn, hp.nodup_iff.2 hr.2.1, fun x hx => hr.2.2 x (hp.mem_iff.1 hx)⟩
theorem fitRows_mem {p : List UInt8} {n k : Nat} {r : List UInt8} (hn : 3 ≤ n ∧ n ≤ 8) (hk : k ≤ factL n) (h : r ∈ fitRows p n k) : IsRow r ∧ r.length = n ∧ fitsL p r = true := by
  unfold fitRows at h
  obtain ⟨h1, h2⟩ := List.mem_filter.1 h
  obtain ⟨j, hj, rfl⟩ := List.mem_map.1 h1
  have := List.mem_range.1 hj
  exact ⟨rowGo_row n j hn (by omega), rowGo_len _ _ _, h2⟩
theorem fitAll_rows {p : List UInt8} {n : Int} (h : IsPat p ∧ 3 ≤ n ∧ n ≤ 6) : IsRows (fitAll p n) ∧ countL p (fitAll p n) = (fitAll p n).length := by
  have hf : ∀ m < 7, factL m ≤ 720 := by decide
  rw [fitAll, if_pos h]
  have hl := fitRows_len p n.toNat (factL n.toNat)
  have hb := hf n.toNat (by omega)
  have hmem : ∀ r ∈ fitRows p n.toNat (factL n.toNat), IsRow r ∧ r.length = n.toNat ∧ fitsL p r = true := fun r hr => fitRows_mem (by omega) (Nat.le_refl _) hr
  refine ⟨⟨fun r hr => ⟨(hmem r hr).1, ?_⟩, by omega⟩, ?_⟩
  · have h0 := hmem _ (getD_mem [] (List.length_pos_of_mem hr))
    rw [(hmem r hr).2.1, h0.2.1]
  · unfold countL
    rw [List.filter_eq_self.2 fun r hr => (hmem r hr).2.2]
theorem fits_self : ∀ (r : List UInt8), fitsL r r = true := by
  intro r
  induction r with
  | nil => simp [fitsL]
  | cons c r ih =>
    rw [fitsL]
    split
    · rw [Bool.or_eq_true]
      by_cases h : ∃ d r', r = d :: r'
      · right
        obtain ⟨d, r', rfl⟩ := h
        rw [fitsL, if_pos (by assumption), Bool.or_eq_true]
        exact .inl ih
      · right
        have : r = [] := by cases r with
          | nil => rfl
          | cons d r' => exact absurd ⟨d, r', rfl⟩ h
        subst this
        rw [fitsL, fitsL]
        simp only [Bool.and_eq_true, decide_eq_true_eq, and_true]
        assumption
    · simp [ih]
theorem fits_star : ∀ (r : List UInt8), fitsL [42] r = true := by
  intro r
  induction r with
  | nil => simp [fitsL]
  | cons d r ih => rw [fitsL, if_pos (by decide), ih, Bool.or_true]
theorem fits_around (x y : UInt8) (r : List UInt8) : fitsL [42, y, 42] (x :: y :: r) = true := by
  rw [fitsL, if_pos (by decide), Bool.or_eq_true]
  right
  rw [fitsL, if_pos (by decide), Bool.or_eq_true]
  left
  have : fitsL [42] r = true := fits_star r
  rw [fitsL]
  split
  · rw [Bool.or_eq_true]; left; exact fits_star _
  · simp [fits_star]
theorem isPat_row {r : List UInt8} (h : IsRow r) : IsPat r := ⟨fun i hi => by have := h.2 i hi; have := h.1; unfold PatB; omega, by have := h.1; omega, by have := h.1; omega⟩
theorem isPat_star : IsPat [42] := by decide
theorem isPat_around {r : List UInt8} (h : IsRow r) : IsPat [42, r.getD 1 0, 42] := by
  have h8 := h.1
  have := h.2 1 (by omega)
  refine ⟨fun i hi => ?_, (by decide : 1 ≤ 3), (by decide : 3 ≤ 10)⟩
  have hi3 : i < 3 := hi
  have : i = 0 ∨ i = 1 ∨ i = 2 := by omega
  rcases this with rfl | rfl | rfl
  · exact .inr (.inl rfl)
  · right; right; show 49 ≤ (r.getD 1 0).toNat ∧ (r.getD 1 0).toNat ≤ 56; omega
  · exact .inr (.inl rfl)
theorem fits_row_around {r : List UInt8} (h : IsRow r) : fitsL [42, r.getD 1 0, 42] r = true := by
  have h8 := h.1
  match r, h8 with
  | x :: y :: r, _ => exact fits_around x y r
end Go.Proofs.Ytpnopboffalfnaa
