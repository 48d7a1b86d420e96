/-
  Plain lists: a row's rank tells the row. No program.
  Conditions: none.
-/
import Derived.Test.YthopbkemkfjebaaKPc
set_option linter.unusedSimpArgs false
set_option linter.unusedVariables false
set_option linter.defProp false
namespace Go.Proofs.Ythopbkemkfjebaa
open Go
theorem rankL_lt : ∀ l : List UInt8, rankL l < factL l.length := by
  intro l
  induction l with
  | nil => decide
  | cons x l ih =>
    have h1 : (l.filter fun y => decide (y.toNat < x.toNat)).length ≤ l.length := List.length_filter_le _ _
    have h2 : ((l.filter fun y => decide (y.toNat < x.toNat)).length + 1) * factL l.length ≤ (l.length + 1) * factL l.length := Nat.mul_le_mul_right _ (by omega)
    rw [Nat.add_mul, Nat.one_mul] at h2
    show (l.filter fun y => decide (y.toNat < x.toNat)).length * factL l.length + rankL l < (l.length + 1) * factL l.length
    omega
theorem count_lt {x y : UInt8} (h : x.toNat < y.toNat) : ∀ l : List UInt8, (l.filter fun z => decide (z.toNat < x.toNat)).length ≤ (l.filter fun z => decide (z.toNat < y.toNat)).length := by
  intro l
  induction l with
  | nil => simp
  | cons a l ih =>
    simp only [List.filter_cons]
    by_cases h1 : a.toNat < x.toNat
    · have h2 : a.toNat < y.toNat := by omega
      simp [h1, h2, ih]
    · by_cases h2 : a.toNat < y.toNat
      · simp [h1, h2]; omega
      · simp [h1, h2, ih]
theorem rank_perm : ∀ l m : List UInt8, l.Perm m → rankL l = rankL m → l = m := by
  intro l
  induction l with
  | nil => intro m h _; rw [List.Perm.eq_nil h.symm]
  | cons x l ih =>
    intro m h hr
    cases m with
    | nil => exact absurd h.length_eq (by simp)
    | cons y m =>
      have hlen : l.length = m.length := by simpa using h.length_eq
      have r1 := rankL_lt l
      have r2 := rankL_lt m
      have e : (l.filter fun z => decide (z.toNat < x.toNat)).length * factL l.length + rankL l = (m.filter fun z => decide (z.toNat < y.toNat)).length * factL m.length + rankL m := hr
      rw [← hlen] at e r2
      generalize hq1 : (l.filter fun z => decide (z.toNat < x.toNat)).length = q1 at *
      generalize hq2 : (m.filter fun z => decide (z.toNat < y.toNat)).length = q2 at *
      have hp := factL_pos l.length
      have eq : q1 = q2 := by
        have d1 : (q1 * factL l.length + rankL l) / factL l.length = q1 := by
          rw [Nat.mul_comm, Nat.mul_add_div hp, Nat.div_eq_of_lt r1, Nat.add_zero]
        have d2 : (q2 * factL l.length + rankL m) / factL l.length = q2 := by
          rw [Nat.mul_comm, Nat.mul_add_div hp, Nat.div_eq_of_lt r2, Nat.add_zero]
        rw [← d1, e, d2]
      subst eq
      have c1 : ((x :: l).filter fun z => decide (z.toNat < x.toNat)).length = q1 := by simp [hq1]
      have c2 : ((y :: m).filter fun z => decide (z.toNat < y.toNat)).length = q1 := by simp [hq2]
      have c3 : ((x :: l).filter fun z => decide (z.toNat < y.toNat)).length = q1 := by rw [← c2]; exact (h.filter _).length_eq
      have c4 : ((y :: m).filter fun z => decide (z.toNat < x.toNat)).length = q1 := by rw [← c1]; exact (h.symm.filter _).length_eq
      have exy : x.toNat = y.toNat := by
        rcases Nat.lt_trichotomy x.toNat y.toNat with hlt | he | hlt
        · exfalso
          have := count_lt hlt l
          simp only [List.filter_cons, hlt, decide_true, if_true, List.length_cons] at c3
          omega
        · exact he
        · exfalso
          have := count_lt hlt m
          simp only [List.filter_cons, hlt, decide_true, if_true, List.length_cons] at c4
          omega
      have : x = y := UInt8.toNat_inj.1 exy
      subst this
      rw [ih m (List.Perm.cons_inv h) (by omega)]
theorem isRow_iff2 (l : List UInt8) : IsRow l ↔ (3 ≤ l.length ∧ l.length ≤ 8) ∧ l.Nodup ∧ ∀ x ∈ l, 49 ≤ x.toNat ∧ x.toNat < 49 + l.length := by
  constructor
  · rintro ⟨h, hr⟩
    refine ⟨h, List.nodup_iff_pairwise_ne.2 (List.pairwise_iff_getElem.2 fun i j hi hj hij => ?_), fun x hx => ?_⟩
    · have := (hr j hj).2.2 i hij
      rw [List.getD_eq_getElem?_getD, List.getD_eq_getElem?_getD, List.getElem?_eq_getElem hi, List.getElem?_eq_getElem hj] at this
      exact this
    · obtain ⟨i, hi, rfl⟩ := List.getElem_of_mem hx
      have := hr i hi
      rw [List.getD_eq_getElem?_getD, List.getElem?_eq_getElem hi] at this
      exact ⟨this.1, this.2.1⟩
  · rintro ⟨h, hn, hm⟩
    refine ⟨h, fun i hi => ?_⟩
    have := hm (l.getD i 0) (by rw [List.getD_eq_getElem?_getD, List.getElem?_eq_getElem hi]; exact List.getElem_mem hi)
    refine ⟨this.1, this.2, fun j hj => ?_⟩
    have := List.pairwise_iff_getElem.1 (List.nodup_iff_pairwise_ne.1 hn) j i (by omega) hi hj
    rw [List.getD_eq_getElem?_getD, List.getD_eq_getElem?_getD, List.getElem?_eq_getElem hi, List.getElem?_eq_getElem (by omega)]
    exact this
theorem row_perm {l : List UInt8} (h : IsRow l) : l.Perm (roundsL l.length) := by
  refine (List.perm_ext_iff_of_nodup ((isRow_iff2 l).1 h).2.1 ((isRow_iff2 _).1 (roundsL_row _ h.1)).2.1).2 fun x => ⟨fun hx => ?_, fun hx => ?_⟩
  · obtain ⟨i, hi, e⟩ := List.getElem_of_mem hx
    have hb := h.bell_lt hi
    have hg := h.get hi
    rw [List.getD_eq_getElem?_getD, List.getElem?_eq_getElem hi, Option.getD_some, e] at hg
    rw [hg]
    exact List.mem_map.2 ⟨_, List.mem_range.2 hb, rfl⟩
  · obtain ⟨p, hp, e⟩ := List.mem_map.1 hx
    obtain ⟨i, hi, hb⟩ := h.onto (List.mem_range.1 hp)
    have hg := h.get hi
    rw [hb, e, List.getD_eq_getElem?_getD, List.getElem?_eq_getElem hi, Option.getD_some] at hg
    rw [← hg]
    exact List.getElem_mem hi
theorem rank_inj {l m : List UInt8} (h1 : IsRow l) (h2 : IsRow m) (hl : l.length = m.length) (h : rankL l = rankL m) : l = m :=
  rank_perm l m ((row_perm h1).trans (by rw [hl]; exact (row_perm h2).symm)) h
end Go.Proofs.Ythopbkemkfjebaa
