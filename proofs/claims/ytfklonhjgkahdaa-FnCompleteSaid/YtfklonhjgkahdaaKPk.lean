/-
  Plain lists: all touches of some leads, and what a search with cuts finds. No program.
  Conditions: none.
-/
import Derived.Test.YtfklonhjgkahdaaKA35
import Derived.Test.YtfklonhjgkahdaaKPx
set_option linter.unusedSimpArgs false
set_option linter.unusedVariables false
set_option linter.defProp false
namespace Go.Proofs.Ytfklonhjgkahdaa
open Go Go.RowKit
def extL (t : Bs) : List Bs := [t ++ [98], t ++ [112], t ++ [115]]
/-- All touches of n leads. -/
def allT : Nat → List Bs
  | 0 => [[]]
  | n + 1 => (allT n).flatMap extL
def allX : Nat → Bs → List Bs
  | 0, p => [p]
  | f + 1, p => allX f (p ++ [98]) ++ (allX f (p ++ [112]) ++ allX f (p ++ [115]))
theorem allX_snoc : ∀ (f : Nat) (p : Bs), allX (f + 1) p = (allX f p).flatMap extL
  | 0, p => by simp [allX, extL]
  | f + 1, p => by
    rw [allX, allX_snoc f, allX_snoc f, allX_snoc f, allX, List.flatMap_append, List.flatMap_append]
theorem allT_X : ∀ n : Nat, allT n = allX n []
  | 0 => rfl
  | n + 1 => by rw [allT, allX_snoc, allT_X n]
theorem allT_len : ∀ n : Nat, (allT n).length = 3 ^ n
  | 0 => rfl
  | n + 1 => by
    have : ∀ l : List Bs, (l.flatMap extL).length = 3 * l.length := fun l => by
      induction l with
      | nil => rfl
      | cons a l ih => rw [List.flatMap_cons, List.length_append, ih, List.length_cons]; simp only [extL, List.length_cons, List.length_nil]; omega
    rw [allT, this, allT_len n, Nat.pow_succ]; omega
theorem allX_mem : ∀ {f : Nat} {p t : Bs}, t ∈ allX f p → t.length = p.length + f ∧ t.take p.length = p ∧ ((∀ c ∈ p, IsCall [c]) → ∀ c ∈ t, IsCall [c])
  | 0, p, t, h => by
    rw [allX, List.mem_singleton] at h
    rw [h]; exact ⟨rfl, List.take_length, id⟩
  | f + 1, p, t, h => by
    have go : ∀ x : UInt8, IsCall [x] → t ∈ allX f (p ++ [x]) → t.length = p.length + (f + 1) ∧ t.take p.length = p ∧ ((∀ c ∈ p, IsCall [c]) → ∀ c ∈ t, IsCall [c]) := fun x hx ht => by
      obtain ⟨h1, h2, h3⟩ := allX_mem ht
      rw [List.length_append, List.length_singleton] at h1 h2
      refine ⟨by omega, ?_, fun hp => h3 fun c hc => ?_⟩
      · have := congrArg (List.take p.length) h2
        rwa [List.take_take, Nat.min_eq_left (by omega), List.take_left] at this
      · rcases List.mem_append.1 hc with hc | hc
        · exact hp c hc
        · rw [List.mem_singleton.1 hc]; exact hx
    rw [allX, List.mem_append, List.mem_append] at h
    rcases h with h | h | h
    · exact go _ (by decide) h
    · exact go _ (by decide) h
    · exact go _ (by decide) h
/-- What the search finds below a prefix. -/
def srT (c : Bs → Bool) : Nat → Bs → List Bs
  | 0, p => if c p then [] else [p]
  | f + 1, p => if c p then [] else srT c f (p ++ [98]) ++ (srT c f (p ++ [112]) ++ srT c f (p ++ [115]))
/-- How many prefixes it looks at. -/
def srN (c : Bs → Bool) : Nat → Bs → Nat
  | 0, _ => 1
  | f + 1, p => if c p then 1 else 1 + srN c f (p ++ [98]) + srN c f (p ++ [112]) + srN c f (p ++ [115])
theorem srN_le (c : Bs → Bool) : ∀ (f : Nat) (p : Bs), 2 * srN c f p + 1 ≤ 3 ^ (f + 1)
  | 0, p => by simp [srN]
  | f + 1, p => by
    have h1 := srN_le c f (p ++ [98])
    have h2 := srN_le c f (p ++ [112])
    have h3 := srN_le c f (p ++ [115])
    have e : 3 ^ (f + 1 + 1) = 3 * 3 ^ (f + 1) := by rw [Nat.pow_succ]; omega
    have e2 : 1 ≤ 3 ^ (f + 1) := Nat.one_le_pow _ _ (by decide)
    rw [srN, e]; split <;> omega
theorem srN_pos (c : Bs → Bool) (f : Nat) (p : Bs) : 1 ≤ srN c f p := by
  cases f with
  | zero => simp [srN]
  | succ f => rw [srN]; split <;> omega
theorem srT_len (c : Bs → Bool) : ∀ (f : Nat) (p : Bs), (srT c f p).length ≤ srN c f p
  | 0, p => by rw [srT, srN]; split <;> simp
  | f + 1, p => by
    have h1 := srT_len c f (p ++ [98])
    have h2 := srT_len c f (p ++ [112])
    have h3 := srT_len c f (p ++ [115])
    rw [srT, srN]; split
    · simp
    · rw [List.length_append, List.length_append]; omega
theorem srT_eq (c : Bs → Bool) : ∀ (f : Nat) (p : Bs), srT c f p = (allX f p).filter fun t => (List.range (f + 1)).all fun j => !c (t.take (p.length + j))
  | 0, p => by
    rw [srT, allX, List.filter_cons]
    simp only [Nat.zero_add, List.range_one, List.all_cons, List.all_nil, Nat.add_zero, List.take_length, Bool.and_true, List.filter_nil]
    cases c p <;> simp
  | f + 1, p => by
    rw [srT]
    by_cases hc : c p = true
    · rw [if_pos hc]
      symm
      rw [List.filter_eq_nil_iff]
      intro t ht hh
      have h0 := List.all_eq_true.1 hh 0 (List.mem_range.2 (by omega))
      rw [Nat.add_zero, (allX_mem ht).2.1, hc] at h0
      cases h0
    · rw [if_neg hc, srT_eq c f, srT_eq c f, srT_eq c f, allX, List.filter_append, List.filter_append]
      have go : ∀ x : UInt8, (allX f (p ++ [x])).filter (fun t => (List.range (f + 1)).all fun j => !c (t.take ((p ++ [x]).length + j))) = (allX f (p ++ [x])).filter (fun t => (List.range (f + 1 + 1)).all fun j => !c (t.take (p.length + j))) := fun x => by
        apply List.filter_congr
        intro t ht
        have h2 := (allX_mem ht).2.1
        rw [List.length_append, List.length_singleton] at h2
        have hp : t.take p.length = p := by
          have := congrArg (List.take p.length) h2
          rwa [List.take_take, Nat.min_eq_left (by omega), List.take_left] at this
        rw [Bool.eq_iff_iff, List.all_eq_true, List.all_eq_true]
        constructor
        · intro h j hj
          rcases j with _ | j
          · rw [Nat.add_zero, hp]; simpa using hc
          · have := h j (List.mem_range.2 (by have := List.mem_range.1 hj; omega))
            rw [List.length_append, List.length_singleton] at this
            rwa [show p.length + (j + 1) = p.length + 1 + j by omega]
        · intro h j hj
          have := h (j + 1) (List.mem_range.2 (by have := List.mem_range.1 hj; omega))
          rw [List.length_append, List.length_singleton]
          rwa [show p.length + 1 + j = p.length + (j + 1) by omega]
      rw [go 98, go 112, go 115]
/-- A prefix that is cut. -/
def cutB (st : Nat) (cs : List Bs) (b s : Bs) (n : Nat) (p : Bs) : Bool :=
  if p = [] then decide ¬ (leadR st cs).Nodup
  else if p.length = n then decide (headP st cs b s p p.length ≠ roundsL st)
  else (List.range p.length).any fun i => decide (timesL (turnL (headP st cs b s p i)) (headP st cs b s p p.length) ∈ falseL (leadR st cs) (leadR st cs))
theorem headP_take (st : Nat) (cs : List Bs) (b s t : Bs) {i j : Nat} (h : i ≤ j) : headP st cs b s (t.take j) i = headP st cs b s t i := by
  rw [headP, headP, List.take_take, Nat.min_eq_left h]
theorem pair_heads (st : Nat) (cs : List Bs) (b s t : Bs) (n : Nat) (R : Bs → Bs → Prop) : (headsP st cs b s t n).Pairwise R ↔ ∀ i j, i < j → j < n → R (headP st cs b s t i) (headP st cs b s t j) := by
  rw [List.pairwise_iff_getElem]
  have e : ∀ i (h : i < (headsP st cs b s t n).length), (headsP st cs b s t n)[i] = headP st cs b s t i := fun i h => by
    have := headsP_get st cs b s t n i (by rwa [headsP_len] at h)
    rwa [List.getD_eq_getElem?_getD, List.getElem?_eq_getElem h, Option.getD_some] at this
  constructor
  · intro h i j hij hj
    have hi' : i < (headsP st cs b s t n).length := by rw [headsP_len]; omega
    have hj' : j < (headsP st cs b s t n).length := by rw [headsP_len]; omega
    have := h i j hi' hj' hij
    rwa [e, e] at this
  · intro h i j hi hj hij
    rw [e, e]
    exact h i j hij (by rwa [headsP_len] at hj)
/-- A touch that comes round and is true. -/
def goodB (st : Nat) (cs : List Bs) (b s : Bs) (n : Nat) (t : Bs) : Bool := decide (headP st cs b s t n = roundsL st) && decide (leadsL cs (headsP st cs b s t n)).Nodup
theorem good_iff {nm : Bs} {st : Nat} {cs : List Bs} {b s : Bs} (hM : IsMC nm st cs b s) {n : Nat} (hn : 1 ≤ n) {t : Bs} (ht : t.length = n) : ((List.range (n + 1)).all fun j => !cutB st cs b s n (t.take (0 + j))) = goodB st cs b s n t := by
  have h38 : 3 ≤ st ∧ st ≤ 8 := by have := hM.1.2.1; omega
  have h0 : headsP st cs b s t n ≠ [] := fun e => by
    have h1 := congrArg List.length e
    rw [headsP_len, List.length_nil] at h1; omega
  have hst : ∀ r ∈ headsP st cs b s t n, IsRow r ∧ r.length = st := fun r hr => by
    obtain ⟨i, _, rfl⟩ := List.mem_map.1 hr
    exact headP_row hM t i
  have hT := truth_iff h38 cs _ hst h0
  rw [pair_heads] at hT
  have hl : ∀ j, j ≤ n → (t.take j).length = j := fun j hj => by rw [List.length_take]; omega
  rw [Bool.eq_iff_iff, List.all_eq_true, goodB, Bool.and_eq_true, decide_eq_true_eq, decide_eq_true_eq, hT]
  constructor
  · intro h
    have a0 := h 0 (List.mem_range.2 (by omega))
    have an := h n (List.mem_range.2 (by omega))
    have hne : ∀ j, 1 ≤ j → j ≤ n → t.take j ≠ [] := fun j h1 h2 e => by
      have := hl j h2; rw [e] at this; simp at this; omega
    rw [Nat.zero_add, List.take_zero, cutB, if_pos rfl] at a0
    rw [Nat.zero_add, cutB, if_neg (hne n hn (Nat.le_refl _)), hl n (Nat.le_refl _), if_pos rfl, headP_take _ _ _ _ _ (Nat.le_refl _)] at an
    refine ⟨by simpa using an, by simpa using a0, fun i j hij hj => ?_⟩
    have aj := h j (List.mem_range.2 (by omega))
    rw [Nat.zero_add, cutB, if_neg (hne j (by omega) (by omega)), hl j (by omega), if_neg (by omega)] at aj
    rw [Bool.not_eq_true', List.any_eq_false] at aj
    have := aj i (List.mem_range.2 hij)
    rw [headP_take _ _ _ _ _ (Nat.le_of_lt hij), headP_take _ _ _ _ _ (Nat.le_refl _)] at this
    simpa using this
  · rintro ⟨h1, h2, h3⟩ j hj
    have hj := List.mem_range.1 hj
    rw [Nat.zero_add, cutB]
    by_cases hj0 : j = 0
    · subst hj0; rw [List.take_zero, if_pos rfl]; simpa using h2
    · have hne : t.take j ≠ [] := fun e => by
        have := hl j (by omega); rw [e] at this; simp at this; omega
      rw [if_neg hne, hl j (by omega)]
      by_cases hjn : j = n
      · rw [if_pos hjn, headP_take _ _ _ _ _ (Nat.le_refl _), hjn]; simpa using h1
      · rw [if_neg hjn, Bool.not_eq_true', List.any_eq_false]
        intro i hi
        have hi := List.mem_range.1 hi
        rw [headP_take _ _ _ _ _ (Nat.le_of_lt hi), headP_take _ _ _ _ _ (Nat.le_refl _)]
        simpa using h3 i j hi (by omega)
/-- The search finds as many touches as are true. -/
theorem search_count {nm : Bs} {st : Nat} {cs : List Bs} {b s : Bs} (hM : IsMC nm st cs b s) {n : Nat} (hn : 1 ≤ n) : srT (cutB st cs b s n) n [] = (allT n).filter (goodB st cs b s n) := by
  rw [srT_eq, allT_X]
  apply List.filter_congr
  intro t ht
  exact good_iff hM hn (by rw [(allX_mem ht).1]; simp)
end Go.Proofs.Ytfklonhjgkahdaa
