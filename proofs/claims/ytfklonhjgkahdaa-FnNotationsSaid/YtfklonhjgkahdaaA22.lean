/-
  Reversed lists, palindromes, turned methods.
  Conditions: none.
-/
import Derived.Test.YtfklonhjgkahdaaA25
set_option linter.unusedSimpArgs false
set_option linter.unusedVariables false
set_option linter.defProp false
namespace Go.Proofs.Ytfklonhjgkahdaa
open Go Go.RowKit
section
variable (P : Program) (k : KT) (e : Env) (w : World)
abbrev b75_1 : X := (.cond (.t 4) (.seq (.reg [2] (.c (.q 2 [] (.mv (.c (.slice none 0 0)))) .nil)) .ret) .skip)
def t75_1 := b75_1
theorem u75_1 : vcK P t75_1 k e w = vcK P b75_1 k e w := rfl
abbrev b75_2 : X := (.seq (.reg [2] (.c (.e (some 5) [] (.bsl 9 1 [])) (.c (.q 6 [] (.mv (.t 0))) (.c (.e (some 7) [] (.app 24 9 1 16 [(S [])] 24 (.t 5) (.t 6))) (.c (.q 2 [] (.mv (.t 7))) .nil))))) .ret)
def t75_2 := b75_2
theorem u75_2 : vcK P t75_2 k e w = vcK P b75_2 k e w := rfl
abbrev b75_3 : X := (.seq (.seq (.reg [0, 4] (.c (.q 3 [] (.mv (.t 0))) (.c (.q 4 [] (.snil false (.t 3) (.c (.slice none 0 0)))) .nil))) t75_1) t75_2)
def t75_3 := b75_3
theorem u75_3 : vcK P t75_3 k e w = vcK P b75_3 k e w := rfl
abbrev b75_0 : X := (.seq (.reg [0] (.c (.q 2 [] (.mv (.c (.slice none 0 0)))) .nil)) t75_3)
def x_xslices_Clone_string_string := b75_0
theorem u75_0 : vcK P x_xslices_Clone_string_string k e w = vcK P b75_0 k e w := rfl
def r_xslices_Clone_string_string : List XO := [(.mv (.t 2))]
theorem c_xslices_Clone_string_string : convF Try.prog [38, 39, 41, 42, 49, 54, 55, 57, 58, 59, 79, 81, 84, 87, 139] Try.f75 [([0], []), ([0, 4], []), ([2], []), ([2], [])] = some (x_xslices_Clone_string_string, r_xslices_Clone_string_string) := by kernel_rfl
def us_xslices_Clone_string_string :=  (aI (aI @u75_0 @u75_1) (aI @u75_2 @u75_3))
abbrev b74_1 : X := (.cond (.t 21) (.seq (.reg [2] (.c (.q 2 [] (.mv (.c (.bool false)))) .nil)) .ret) .skip)
def t74_1 := b74_1
theorem u74_1 : vcK P t74_1 k e w = vcK P b74_1 k e w := rfl
abbrev b74_2 : X := (.seq (.drw [0, 5, 6, 21] (.c (.q 9 [] (.mv (.t 0))) (.c (.q 10 [] (.mv (.t 3))) (.c (.q 11 [] (.ia 1 (.t 9) (.t 10))) (.c (.q 12 [] (.ld (.t 11))) (.c (.q 13 [] (.mv (.t 0))) (.c (.q 14 [] (.mv (.t 0))) (.c (.q 15 [] (.lens (.t 14))) (.c (.q 16 [] (.bin .sub (.t 15) (.c (.int .i64 1)))) (.c (.q 17 [] (.mv (.t 3))) (.c (.q 18 [] (.bin .sub (.t 16) (.t 17))) (.c (.q 19 [] (.ia 1 (.t 13) (.t 18))) (.c (.q 20 [] (.ld (.t 19))) (.c (.q 21 [] (.bin .neq (.t 12) (.t 20))) .nil)))))))))))))) t74_1)
def t74_2 := b74_2
theorem u74_2 : vcK P t74_2 k e w = vcK P b74_2 k e w := rfl
abbrev b74_3 : X := (.reg [0, 5, 6] (.c (.q 22 [] (.bin .add (.t 6) (.c (.int .i64 1)))) (.c (.q 6 [] (.mv (.t 22))) .nil)))
def t74_3 := b74_3
theorem u74_3 : vcK P t74_3 k e w = vcK P b74_3 k e w := rfl
abbrev b74_4 : X := (.seq (.blk 1 (.seq (.reg [0, 3, 5, 6] (.c (.q 8 [] (.mv (.t 6))) (.c (.q 3 [] (.mv (.t 8))) .nil))) t74_2)) t74_3)
def t74_4 := b74_4
theorem u74_4 : vcK P t74_4 k e w = vcK P b74_4 k e w := rfl
abbrev b74_5 : X := (.seq (.cond (.t 7) .skip (.exit 0)) t74_4)
def t74_5 := b74_5
theorem u74_5 : vcK P t74_5 k e w = vcK P b74_5 k e w := rfl
abbrev b74_6 : X := (.seq (.reg [0, 5, 6, 7] (.c (.q 7 [] (.bin .lss (.t 6) (.t 5))) .nil)) t74_5)
def t74_6 := b74_6
theorem u74_6 : vcK P t74_6 k e w = vcK P b74_6 k e w := rfl
abbrev b74_7 : X := (.blk 0 (.loop [6] [0, 5] t74_6))
def t74_7 := b74_7
theorem u74_7 : vcK P t74_7 k e w = vcK P b74_7 k e w := rfl
abbrev b74_8 : X := (.seq (.reg [2] (.c (.q 2 [] (.mv (.c (.bool true)))) .nil)) .ret)
def t74_8 := b74_8
theorem u74_8 : vcK P t74_8 k e w = vcK P b74_8 k e w := rfl
abbrev b74_9 : X := (.seq (.seq (.reg [0, 5, 6] (.c (.q 4 [] (.mv (.t 0))) (.c (.q 5 [] (.lens (.t 4))) (.c (.q 6 [] (.mv (.c (.int .i64 0)))) .nil)))) t74_7) t74_8)
def t74_9 := b74_9
theorem u74_9 : vcK P t74_9 k e w = vcK P b74_9 k e w := rfl
abbrev b74_0 : X := (.seq (.reg [0] (.c (.q 2 [] (.mv (.c (.bool false)))) .nil)) t74_9)
def x_isameBothWays := b74_0
theorem u74_0 : vcK P x_isameBothWays k e w = vcK P b74_0 k e w := rfl
def r_isameBothWays : List XO := [(.mv (.t 2))]
theorem c_isameBothWays : convF Try.prog [38, 39, 41, 42, 49, 54, 55, 57, 58, 59, 79, 81, 84, 87, 139] Try.f74 [([0], []), ([0, 5, 6], []), ([6], [0, 5]), ([0, 5, 6, 7], []), ([0, 3, 5, 6], []), ([0, 5, 6, 21], []), ([2], []), ([0, 5, 6], []), ([2], [])] = some (x_isameBothWays, r_isameBothWays) := by kernel_rfl
def us_isameBothWays :=  (aI (aI (aI @u74_0 @u74_1) (aI @u74_2 (aI @u74_3 @u74_4))) (aI (aI @u74_5 @u74_6) (aI @u74_7 (aI @u74_8 @u74_9))))
end

theorem xslices_Clone_string_string_ok (v : Value) (l : List (List UInt8)) (hl : l.length ≤ 1000000000) (w : World) (h : Sq fS 1 w v l) : Fn 75 [v] w (fun r w' => Own fS 1 9 w.heap.size w' r l) := by
  (refine callsV_of mix Try.func75 c_xslices_Clone_string_string ?_; simp only [↓vsd, vsn, gW, qd, qv, ev, pick, argE, zipE, ne_eq, eq_self, forall_const, implies_true, if_true, if_false, reduceIte, reduceCtorEq, Nat.reduceEqDiff, Nat.reduceAdd, Nat.reduceLT, ↓us_xslices_Clone_string_string, r_xslices_Clone_string_string])
  have hor := h.2.2
  rcases hor with ⟨rfl, h0⟩ | ⟨ad, c, rfl, _, _⟩
  · obtain rfl : l = [] := List.length_eq_zero_iff.1 h0
    simp only [↓vsd, vsn, gW, qd, qv, ev, pick, argE, zipE, ne_eq, eq_self, forall_const, implies_true, if_true, if_false, reduceIte, reduceCtorEq, Nat.reduceEqDiff, Nat.reduceAdd, Nat.reduceLT, ↓us_xslices_Clone_string_string, r_xslices_Clone_string_string]
    exact ⟨fun _ => ⟨Ext.refl _, Own.nil fS_len⟩, fun h => absurd rfl h⟩
  · simp only [↓vsd, vsn, gW, qd, qv, ev, pick, argE, zipE, ne_eq, eq_self, forall_const, implies_true, if_true, if_false, reduceIte, reduceCtorEq, Nat.reduceEqDiff, Nat.reduceAdd, Nat.reduceLT, ↓us_xslices_Clone_string_string, r_xslices_Clone_string_string]
    refine ⟨fun h => (by cases h), fun _ => m_bsl (by simp) ?_⟩
    rintro b w1 hb hblk hx1 hs1
    simp only [↓vsd, vsn, gW, qd, qv, ev, pick, argE, zipE, ne_eq, eq_self, forall_const, implies_true, if_true, if_false, reduceIte, reduceCtorEq, Nat.reduceEqDiff, Nat.reduceAdd, Nat.reduceLT, ↓us_xslices_Clone_string_string, r_xslices_Clone_string_string]
    have ho : Own fS 1 9 w.heap.size w1 (.slice (some ⟨b, 0, none⟩) 0 0) ([] : List (List UInt8)) := (Own.empty fS_len hblk (by omega)).to (by simp)
    refine m_app ho (h.ext hx1) fS_one (by decide) (by simp; omega) (by decide) hx1.size ?_
    rintro x w2 ho2 hg2
    have hx2 := ho.grown hx1 (Nat.le_refl _) hg2
    simp only [↓vsd, vsn, gW, qd, qv, ev, pick, argE, zipE, ne_eq, eq_self, forall_const, implies_true, if_true, if_false, reduceIte, reduceCtorEq, Nat.reduceEqDiff, Nat.reduceAdd, Nat.reduceLT, ↓us_xslices_Clone_string_string, r_xslices_Clone_string_string]
    exact ⟨hx2, ho2.to (by simp)⟩
theorem rev_step {l m : List (List UInt8)} {k q : Nat} (hk : k < q) (hn : k + q + 1 = l.length) (hm : m.length = l.length ∧ ∀ j < l.length, m.getD j [] = if j < k ∨ l.length < j + k + 1 then l.getD (l.length - 1 - j) [] else l.getD j []) :
    ((m.set k (m.getD q [])).set q (m.getD k [])).length = l.length ∧ ∀ j < l.length, ((m.set k (m.getD q [])).set q (m.getD k [])).getD j [] = if j < k + 1 ∨ l.length < j + (k + 1) + 1 then l.getD (l.length - 1 - j) [] else l.getD j [] := by
  obtain ⟨h1, h2⟩ := hm
  refine ⟨by rw [List.length_set, List.length_set, h1], fun j hj => ?_⟩
  rw [getD_set, List.length_set]
  by_cases hjq : j = q
  · subst hjq
    rw [if_pos ⟨rfl, by omega⟩, h2 k (by omega), if_neg (by omega), if_pos (by omega)]
    congr 1; omega
  · rw [if_neg (by omega), getD_set]
    by_cases hjk : j = k
    · subst hjk
      rw [if_pos ⟨rfl, by omega⟩, h2 q (by omega), if_neg (by omega), if_pos (by omega)]
      congr 1; omega
    · rw [if_neg (by omega), h2 j hj]
      by_cases hc : j < k ∨ l.length < j + k + 1
      · rw [if_pos hc, if_pos (by omega)]
      · rw [if_neg hc, if_neg (by omega)]
theorem rev_get (l : List (List UInt8)) (j : Nat) (hj : j < l.length) : l.reverse.getD j [] = l.getD (l.length - 1 - j) [] := by
  rw [List.getD_eq_getElem?_getD, List.getD_eq_getElem?_getD, List.getElem?_reverse hj]
/-- The same both ways. -/
def IsPal (l : List (List UInt8)) : Prop := ∀ i < l.length, l.getD i [] = l.getD (l.length - 1 - i) []
instance (l : List (List UInt8)) : Decidable (IsPal l) := by unfold IsPal; infer_instance
theorem isameBothWays_ok (v : Value) (l : List (List UInt8)) (hl : l.length ≤ 1000000000) (w : World) (h : Sq fS 1 w v l) : Fn 74 [v] w (fun r _ => r = .bool (decide (IsPal l))) := by
  (refine callsV_of mix Try.func74 c_isameBothWays ?_; simp only [↓vsd, vsn, gW, qd, qv, ev, pick, argE, zipE, ne_eq, eq_self, forall_const, implies_true, if_true, if_false, reduceIte, reduceCtorEq, Nat.reduceEqDiff, Nat.reduceAdd, Nat.reduceLT, ↓us_isameBothWays, r_isameBothWays])
  simp only [↓vsd, vsn, gW, qd, qv, ev, pick, argE, zipE, ne_eq, eq_self, forall_const, implies_true, if_true, if_false, reduceIte, reduceCtorEq, Nat.reduceEqDiff, Nat.reduceAdd, Nat.reduceLT, ↓us_isameBothWays, r_isameBothWays, h.facts]
  refine m_upto l.length (fun k vs w' => vs = [.int .i64 k] ∧ (∀ i < k, l.getD i [] = l.getD (l.length - 1 - i) []) ∧ Ext w w') ⟨rfl, fun i hi => absurd hi (Nat.not_lt_zero i), Ext.refl _⟩ ?_
  rintro k vs w1 hk ⟨rfl, hall, hx⟩
  have hq := h.ext hx
  by_cases hlt : k < l.length
  · have hltI : (k : Int) < l.length := by omega
    have hltJ : ¬ (l.length : Int) ≤ k := by omega
    obtain ⟨q, hqe⟩ : ∃ q : Nat, (l.length : Int) - 1 - k = q := ⟨l.length - 1 - k, by omega⟩
    have hqn : l.length - 1 - k = q := by omega
    have hqA : q < l.length := by omega
    simp only [↓vsd, vsn, gW, qd, qv, ev, pick, argE, zipE, ne_eq, eq_self, forall_const, implies_true, if_true, if_false, reduceIte, reduceCtorEq, Nat.reduceEqDiff, Nat.reduceAdd, Nat.reduceLT, ↓us_isameBothWays, r_isameBothWays, hltI, hltJ, hqe, hq.facts, hq.at1 [] hlt, hq.at1 [] hqA]
    refine ⟨by omega, inR_i64 (by omega), inR_i64 (by omega), by omega, fun hne => ⟨hx, ?_⟩, fun he => ⟨inR_i64 (by omega), UpTo.next hlt ⟨rfl, fun i hi => ?_, by first | exact hx | exact dr hx⟩⟩⟩
    · rw [decide_eq_false (fun hp : IsPal l => hne (by have := hp k hlt; rwa [hqn] at this))]
    · rcases Nat.lt_succ_iff_lt_or_eq.1 hi with h' | rfl
      · exact hall i h'
      · rw [hqn]; exact he
  · obtain rfl : k = l.length := by omega
    have hltI : ¬ (l.length : Int) < l.length := by omega
    simp only [↓vsd, vsn, gW, qd, qv, ev, pick, argE, zipE, ne_eq, eq_self, forall_const, implies_true, if_true, if_false, reduceIte, reduceCtorEq, Nat.reduceEqDiff, Nat.reduceAdd, Nat.reduceLT, ↓us_isameBothWays, r_isameBothWays, hltI]
    exact ⟨hx, by rw [decide_eq_true (show IsPal l from hall)]⟩
end Go.Proofs.Ytfklonhjgkahdaa
