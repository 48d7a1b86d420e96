/-
  The rows of a course follow each other.
  Conditions: none.
-/
import Derived.Test.YtpnopboffalfnaaA47
set_option linter.unusedSimpArgs false
set_option linter.unusedVariables false
set_option linter.defProp false
namespace Go.Proofs.Ytpnopboffalfnaa
open Go Go.RowKit
theorem leadsL_at (cs : List (List UInt8)) (hL : 0 < cs.length) : ∀ (hs : List (List UInt8)) (n : Nat), n < hs.length * cs.length → (leadsL cs hs).getD n [] = underL (hs.getD (n / cs.length) []) (cs.take (n % cs.length)) := by
  intro hs
  induction hs with
  | nil => intro n h; simp at h
  | cons h hs ih =>
    intro n hn
    have e : leadsL cs (h :: hs) = rowsU h cs cs.length ++ leadsL cs hs := rfl
    rw [e]
    by_cases hlt : n < cs.length
    · rw [List.getD_eq_getElem?_getD, List.getElem?_append_left (by rw [rowsU_len]; exact hlt), ← List.getD_eq_getElem?_getD, rowsU_get _ _ _ _ hlt, Nat.div_eq_of_lt hlt, Nat.mod_eq_of_lt hlt]
      rfl
    · have h1 : n - cs.length < hs.length * cs.length := by rw [List.length_cons, Nat.add_mul] at hn; omega
      have h2 := ih (n - cs.length) h1
      rw [List.getD_eq_getElem?_getD, List.getElem?_append_right (by rw [rowsU_len]; omega), rowsU_len, ← List.getD_eq_getElem?_getD, h2]
      have hd : n / cs.length = (n - cs.length) / cs.length + 1 := by
        rw [Nat.div_eq_sub_div hL (by omega)]
      have hm : n % cs.length = (n - cs.length) % cs.length := by rw [Nat.mod_eq_sub_mod (by omega)]
      rw [hd, hm, List.getD_cons_succ]
/-- Row i of a course. -/
def cT (n : Nat) (cs : List (List UInt8)) (i : Nat) : List UInt8 := underL (powL (hdL n cs) (i / cs.length)) (cs.take (i % cs.length))
theorem courseT_len (n : Nat) (cs : List (List UInt8)) (k : Nat) : (courseT n cs k).length = k * cs.length := by
  rw [courseT, leadsL_len, List.length_map, List.length_range]
theorem courseT_get (n : Nat) (cs : List (List UInt8)) (k i : Nat) (hL : 0 < cs.length) (h : i < k * cs.length) : (courseT n cs k).getD i [] = cT n cs i := by
  have hq : i / cs.length < k := Nat.div_lt_of_lt_mul (by rw [Nat.mul_comm]; exact h)
  rw [courseT, leadsL_at cs hL _ i (by rw [List.length_map, List.length_range]; exact h), getD_map _ 0 _ _ _ (by rw [List.length_range]; exact hq), cT]
  congr 2
  simp [List.getD_eq_getElem?_getD, hq]
theorem cT_row {n : Nat} (hn : 3 ≤ n ∧ n ≤ 8) (cs : List (List UInt8)) (i : Nat) : IsRow (cT n cs i) ∧ (cT n cs i).length = n := by
  have hR := hdL_row hn cs
  exact ⟨underL_row _ (powL_row hR.1 _), by rw [cT, underL_len, powL_len, hR.2]⟩
theorem cT_succ {n : Nat} (hn : 3 ≤ n ∧ n ≤ 8) (cs : List (List UInt8)) (hL : 0 < cs.length) (i : Nat) : cT n cs (i + 1) = applyL (cT n cs i) (cs.getD (i % cs.length) []) := by
  have hlt := Nat.mod_lt i hL
  have hi := Nat.div_add_mod i cs.length
  generalize hq : i / cs.length = q at *
  generalize hr : i % cs.length = r at *
  by_cases h1 : r + 1 < cs.length
  · have e1 : (i + 1) / cs.length = q := by rw [show i + 1 = cs.length * q + (r + 1) by omega, Nat.mul_add_div hL, Nat.div_eq_of_lt h1, Nat.add_zero]
    have e2 : (i + 1) % cs.length = r + 1 := by rw [show i + 1 = cs.length * q + (r + 1) by omega, Nat.mul_add_mod, Nat.mod_eq_of_lt h1]
    rw [cT, cT, e1, e2, hq, hr, underL_snoc _ _ _ hlt]
  · have h2 : r + 1 = cs.length := by omega
    have e0 : i + 1 = cs.length * (q + 1) := by rw [Nat.mul_add, Nat.mul_one]; omega
    have e1 : (i + 1) / cs.length = q + 1 := by rw [e0, Nat.mul_div_cancel_left _ hL]
    have e2 : (i + 1) % cs.length = 0 := by rw [e0, Nat.mul_mod_right]
    rw [cT, cT, e1, e2, hq, hr, ← underL_snoc _ _ _ hlt, h2, List.take_length, powL_head cs hn]
    rfl
theorem course_rows {nm : List UInt8} {n : Nat} {cs : List (List UInt8)} {k : Nat} (h : CrsOk nm n cs k) : IsRows (courseT n cs k) := by
  have h8 : 3 ≤ n ∧ n ≤ 8 := by have := h.1.2.1; omega
  have hcl := h.1.2.2.1
  have key : ∀ i, i < (courseT n cs k).length → (courseT n cs k).getD i [] = cT n cs i := fun i hi => courseT_get n cs k i (by omega) (by rw [courseT_len] at hi; exact hi)
  have all : ∀ r ∈ courseT n cs k, IsRow r ∧ r.length = n := fun r hr => by
    obtain ⟨i, hi, rfl⟩ := List.getElem_of_mem hr
    have := key i hi
    rw [List.getD_eq_getElem?_getD, List.getElem?_eq_getElem hi, Option.getD_some] at this
    rw [this]
    exact cT_row h8 cs i
  refine ⟨fun r hr => ⟨(all r hr).1, ?_⟩, by rw [courseT_len]; exact h.2⟩
  have h0 : 0 < (courseT n cs k).length := List.length_pos_of_mem hr
  rw [(all r hr).2, (all _ (getD_mem [] h0)).2]
theorem course_next {nm : List UInt8} {n : Nat} {cs : List (List UInt8)} {k : Nat} (hm : IsMethod nm n cs) (hO : IsOrd (hdL n cs) k) : NextR (courseT n cs k) := by
  have h8 : 3 ≤ n ∧ n ≤ 8 := by have := hm.2.1; omega
  have hL : 0 < cs.length := by have := hm.2.2.1; omega
  have hR := hdL_row h8 cs
  intro i hi
  rw [courseT_len] at hi
  have hml := Nat.mod_lt i hL
  refine ⟨cs.getD (i % cs.length) [], ?_, ?_⟩
  · rw [courseT_get n cs k i hL hi, (cT_row h8 cs i).2]
    exact hm.2.2.2 _ (getD_mem [] hml)
  · rw [courseT_get n cs k i hL hi, courseT_len, ← cT_succ h8 cs hL]
    by_cases h1 : i + 1 < k * cs.length
    · rw [Nat.mod_eq_of_lt h1, courseT_get n cs k _ hL h1]
    · have e : i + 1 = k * cs.length := by omega
      rw [e, Nat.mod_self, courseT_get n cs k 0 hL (by omega), cT, cT, Nat.zero_div, Nat.zero_mod, Nat.mul_div_cancel _ hL, Nat.mul_mod_left, hO.2.2.1]
      rfl
/-- The reversed changes lead to the inverse lead head. -/
theorem back_head {n : Nat} (hn : 3 ≤ n ∧ n ≤ 8) {cs : List (List UInt8)} (hc : ∀ c ∈ cs, IsChange n c) : underL (roundsL n) cs.reverse = turnL (underL (roundsL n) cs) := by
  have h1 := under_row hn cs
  have h2 := under_row hn cs.reverse
  exact turn_of h1.1 h2.1 h1.2 h2.2 (under_rev hn cs hc)
end Go.Proofs.Ytpnopboffalfnaa
