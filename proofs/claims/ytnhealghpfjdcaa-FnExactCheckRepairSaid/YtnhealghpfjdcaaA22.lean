/-
  Reversed lists, palindromes, turned methods.
  Conditions: none.
-/
import Derived.Test.YtnhealghpfjdcaaA25
set_option linter.unusedSimpArgs false
set_option linter.unusedVariables false
set_option linter.defProp false
namespace Go.Proofs.Ytnhealghpfjdcaa
open Go Go.RowKit
section
variable (P : Program) (k : KT) (e : Env) (w : World)
abbrev b113_1 : X := (.cond (.t 4) (.seq (.reg [2] (.c (.q 2 [] (.mv (.c (.slice none 0 0)))) .nil)) .ret) .skip)
def t113_1 := b113_1
theorem u113_1 : vcK P t113_1 k e w = vcK P b113_1 k e w := rfl
abbrev b113_2 : X := (.seq (.reg [2] (.c (.e (some 5) [] (.bsl 9 1 [])) (.c (.q 6 [] (.mv (.t 0))) (.c (.e (some 7) [] (.app 22 9 1 16 [(S [])] 22 (.t 5) (.t 6))) (.c (.q 2 [] (.mv (.t 7))) .nil))))) .ret)
def t113_2 := b113_2
theorem u113_2 : vcK P t113_2 k e w = vcK P b113_2 k e w := rfl
abbrev b113_3 : X := (.seq (.seq (.reg [0, 4] (.c (.q 3 [] (.mv (.t 0))) (.c (.q 4 [] (.snil false (.t 3) (.c (.slice none 0 0)))) .nil))) t113_1) t113_2)
def t113_3 := b113_3
theorem u113_3 : vcK P t113_3 k e w = vcK P b113_3 k e w := rfl
abbrev b113_0 : X := (.seq (.reg [0] (.c (.q 2 [] (.mv (.c (.slice none 0 0)))) .nil)) t113_3)
def x_xslices_Clone_string_string := b113_0
theorem u113_0 : vcK P x_xslices_Clone_string_string k e w = vcK P b113_0 k e w := rfl
def r_xslices_Clone_string_string : List XO := [(.mv (.t 2))]
theorem c_xslices_Clone_string_string : convF Try.prog [89, 116, 117, 121, 143, 161, 162, 163, 166, 168, 234] Try.f113 [([0], []), ([0, 4], []), ([2], []), ([2], [])] = some (x_xslices_Clone_string_string, r_xslices_Clone_string_string) := by kernel_rfl
def us_xslices_Clone_string_string := aI @u113_0 (aI @u113_1 (aI @u113_2 @u113_3))
end

theorem xslices_Clone_string_string_ok (v : Value) (l : List (List UInt8)) (hl : l.length ≤ 1000000000) (w : World) (h : Sq fS 1 w v l) : Fn 113 [v] w (fun r w' => Own fS 1 9 w.heap.size w' r l) := by
  (refine callsV_of mix Try.func113 c_xslices_Clone_string_string ?_; simp only [↓vsd, vsn, gW, qd, qv, ev, pick, argE, zipE, ne_eq, eq_self, forall_const, implies_true, if_true, if_false, reduceIte, reduceCtorEq, Nat.reduceEqDiff, Nat.reduceAdd, Nat.reduceLT, ↓us_xslices_Clone_string_string, r_xslices_Clone_string_string])
  have hor := h.2.2
  rcases hor with ⟨rfl, h0⟩ | ⟨ad, c, rfl, _, _⟩
  · obtain rfl : l = [] := List.length_eq_zero_iff.1 h0
    simp only [↓vsd, vsn, gW, qd, qv, ev, pick, argE, zipE, ne_eq, eq_self, forall_const, implies_true, if_true, if_false, reduceIte, reduceCtorEq, Nat.reduceEqDiff, Nat.reduceAdd, Nat.reduceLT, ↓us_xslices_Clone_string_string, r_xslices_Clone_string_string]
    exact ⟨fun _ => ⟨Ext.refl _, Own.nil fS_len⟩, fun h => absurd rfl h⟩
  · simp only [↓vsd, vsn, gW, qd, qv, ev, pick, argE, zipE, ne_eq, eq_self, forall_const, implies_true, if_true, if_false, reduceIte, reduceCtorEq, Nat.reduceEqDiff, Nat.reduceAdd, Nat.reduceLT, ↓us_xslices_Clone_string_string, r_xslices_Clone_string_string]
    refine ⟨fun h => (by cases h), fun _ => m_bsl (by simp) ?_⟩
    rintro b w1 hb hblk hx1 hs1
    simp only [↓vsd, vsn, gW, qd, qv, ev, pick, argE, zipE, ne_eq, eq_self, forall_const, implies_true, if_true, if_false, reduceIte, reduceCtorEq, Nat.reduceEqDiff, Nat.reduceAdd, Nat.reduceLT, ↓us_xslices_Clone_string_string, r_xslices_Clone_string_string]
    have ho : Own fS 1 9 w.heap.size w1 (.slice (some ⟨b, 0, none⟩) 0 0) ([] : List (List UInt8)) := (Own.empty fS_len hblk (by omega)).to (by simp)
    refine m_app ho (h.ext hx1) fS_one (by decide) (by simp; omega) (by decide) hx1.size ?_
    rintro x w2 ho2 hg2
    have hx2 := ho.grown hx1 (Nat.le_refl _) hg2
    simp only [↓vsd, vsn, gW, qd, qv, ev, pick, argE, zipE, ne_eq, eq_self, forall_const, implies_true, if_true, if_false, reduceIte, reduceCtorEq, Nat.reduceEqDiff, Nat.reduceAdd, Nat.reduceLT, ↓us_xslices_Clone_string_string, r_xslices_Clone_string_string]
    exact ⟨hx2, ho2.to (by simp)⟩
theorem rev_step {l m : List (List UInt8)} {k q : Nat} (hk : k < q) (hn : k + q + 1 = l.length) (hm : m.length = l.length ∧ ∀ j < l.length, m.getD j [] = if j < k ∨ l.length < j + k + 1 then l.getD (l.length - 1 - j) [] else l.getD j []) :
    ((m.set k (m.getD q [])).set q (m.getD k [])).length = l.length ∧ ∀ j < l.length, ((m.set k (m.getD q [])).set q (m.getD k [])).getD j [] = if j < k + 1 ∨ l.length < j + (k + 1) + 1 then l.getD (l.length - 1 - j) [] else l.getD j [] := by
  obtain ⟨h1, h2⟩ := hm
  refine ⟨by rw [List.length_set, List.length_set, h1], fun j hj => ?_⟩
  rw [getD_set, List.length_set]
  by_cases hjq : j = q
  · subst hjq
    rw [if_pos ⟨rfl, by omega⟩, h2 k (by omega), if_neg (by omega), if_pos (by omega)]
    congr 1; omega
  · rw [if_neg (by omega), getD_set]
    by_cases hjk : j = k
    · subst hjk
      rw [if_pos ⟨rfl, by omega⟩, h2 q (by omega), if_neg (by omega), if_pos (by omega)]
      congr 1; omega
    · rw [if_neg (by omega), h2 j hj]
      by_cases hc : j < k ∨ l.length < j + k + 1
      · rw [if_pos hc, if_pos (by omega)]
      · rw [if_neg hc, if_neg (by omega)]
theorem rev_get (l : List (List UInt8)) (j : Nat) (hj : j < l.length) : l.reverse.getD j [] = l.getD (l.length - 1 - j) [] := by
  rw [List.getD_eq_getElem?_getD, List.getD_eq_getElem?_getD, List.getElem?_reverse hj]
/-- The same both ways. -/
def IsPal (l : List (List UInt8)) : Prop := ∀ i < l.length, l.getD i [] = l.getD (l.length - 1 - i) []
instance (l : List (List UInt8)) : Decidable (IsPal l) := by unfold IsPal; infer_instance
end Go.Proofs.Ytnhealghpfjdcaa
