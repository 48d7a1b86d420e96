/-
  Reversed lists, palindromes, turned methods.
  Conditions: none.
-/
import Derived.Test.YtnincmnkdjlndaaA25
set_option linter.unusedSimpArgs false
set_option linter.unusedVariables false
set_option linter.defProp false
namespace Go.Proofs.Ytnincmnkdjlndaa
open Go Go.RowKit
section
variable (P : Program) (k : KT) (e : Env) (w : World)
abbrev b144_1 : X := (.cond (.t 4) (.seq (.reg [2] (.c (.q 2 [] (.mv (.c (.slice none 0 0)))) .nil)) .ret) .skip)
def t144_1 := b144_1
theorem u144_1 : vcK P t144_1 k e w = vcK P b144_1 k e w := rfl
abbrev b144_2 : X := (.seq (.reg [2] (.c (.e (some 5) [] (.bsl 9 1 [])) (.c (.q 6 [] (.mv (.t 0))) (.c (.e (some 7) [] (.app 24 9 1 16 [(S [])] 24 (.t 5) (.t 6))) (.c (.q 2 [] (.mv (.t 7))) .nil))))) .ret)
def t144_2 := b144_2
theorem u144_2 : vcK P t144_2 k e w = vcK P b144_2 k e w := rfl
abbrev b144_3 : X := (.seq (.seq (.reg [0, 4] (.c (.q 3 [] (.mv (.t 0))) (.c (.q 4 [] (.snil false (.t 3) (.c (.slice none 0 0)))) .nil))) t144_1) t144_2)
def t144_3 := b144_3
theorem u144_3 : vcK P t144_3 k e w = vcK P b144_3 k e w := rfl
abbrev b144_0 : X := (.seq (.reg [0] (.c (.q 2 [] (.mv (.c (.slice none 0 0)))) .nil)) t144_3)
def x_xslices_Clone_string_string := b144_0
theorem u144_0 : vcK P x_xslices_Clone_string_string k e w = vcK P b144_0 k e w := rfl
def r_xslices_Clone_string_string : List XO := [(.mv (.t 2))]
theorem c_xslices_Clone_string_string : convF Try.prog [147, 148, 152, 160, 162, 163, 170, 178, 206, 208, 210, 224, 233, 235, 236, 251, 264, 265, 268, 270, 287, 322] Try.f144 [([0], []), ([0, 4], []), ([2], []), ([2], [])] = some (x_xslices_Clone_string_string, r_xslices_Clone_string_string) := by kernel_rfl
def us_xslices_Clone_string_string :=  (aI (aI @u144_0 @u144_1) (aI @u144_2 @u144_3))
abbrev b276_1 : X := (.cond (.t 9) .skip (.exit 0))
def t276_1 := b276_1
theorem u276_1 : vcK P t276_1 k e w = vcK P b276_1 k e w := rfl
abbrev b276_2 : X := (.reg [0, 2, 3] (.c (.q 10 [] (.mv (.t 2))) (.c (.q 11 [] (.bin .add (.t 10) (.c (.int .i64 1)))) (.c (.q 12 [] (.mv (.t 3))) (.c (.q 13 [] (.bin .sub (.t 12) (.c (.int .i64 1)))) (.c (.q 2 [] (.mv (.t 11))) (.c (.q 3 [] (.mv (.t 13))) .nil)))))))
def t276_2 := b276_2
theorem u276_2 : vcK P t276_2 k e w = vcK P b276_2 k e w := rfl
abbrev b276_3 : X := (.seq (.blk 1 (.drw [0, 2, 3] (.c (.q 14 [] (.mv (.t 0))) (.c (.q 15 [] (.mv (.t 2))) (.c (.q 16 [] (.mv (.t 0))) (.c (.q 17 [] (.mv (.t 3))) (.c (.q 18 [] (.mv (.t 0))) (.c (.q 19 [] (.mv (.t 3))) (.c (.q 20 [] (.ia 1 (.t 18) (.t 19))) (.c (.q 21 [] (.ld (.t 20))) (.c (.q 22 [] (.mv (.t 0))) (.c (.q 23 [] (.mv (.t 2))) (.c (.q 24 [] (.ia 1 (.t 22) (.t 23))) (.c (.q 25 [] (.ld (.t 24))) (.c (.q 26 [] (.ia 1 (.t 14) (.t 15))) (.c (.e none [] (.st 1 (.t 26) (.t 21))) (.c (.q 27 [] (.ia 1 (.t 16) (.t 17))) (.c (.e none [] (.st 1 (.t 27) (.t 25))) .nil)))))))))))))))))) t276_2)
def t276_3 := b276_3
theorem u276_3 : vcK P t276_3 k e w = vcK P b276_3 k e w := rfl
abbrev b276_4 : X := (.seq (.seq (.reg [0, 2, 3, 9] (.c (.q 7 [] (.mv (.t 2))) (.c (.q 8 [] (.mv (.t 3))) (.c (.q 9 [] (.bin .lss (.t 7) (.t 8))) .nil)))) t276_1) t276_3)
def t276_4 := b276_4
theorem u276_4 : vcK P t276_4 k e w = vcK P b276_4 k e w := rfl
abbrev b276_5 : X := (.blk 0 (.loop [2, 3] [0] t276_4))
def t276_5 := b276_5
theorem u276_5 : vcK P t276_5 k e w = vcK P b276_5 k e w := rfl
abbrev b276_0 : X := (.seq (.reg [0, 2, 3] (.c (.q 4 [] (.mv (.t 0))) (.c (.q 5 [] (.lens (.t 4))) (.c (.q 6 [] (.bin .sub (.t 5) (.c (.int .i64 1)))) (.c (.q 2 [] (.mv (.c (.int .i64 0)))) (.c (.q 3 [] (.mv (.t 6))) .nil)))))) t276_5)
def x_xslices_Reverse_string_string := b276_0
theorem u276_0 : vcK P x_xslices_Reverse_string_string k e w = vcK P b276_0 k e w := rfl
def r_xslices_Reverse_string_string : List XO := []
theorem c_xslices_Reverse_string_string : convF Try.prog [147, 148, 152, 160, 162, 163, 170, 178, 206, 208, 210, 224, 233, 235, 236, 251, 264, 265, 268, 270, 287, 322] Try.f276 [([0, 2, 3], []), ([2, 3], [0]), ([0, 2, 3, 9], []), ([0, 2, 3], []), ([0, 2, 3], [])] = some (x_xslices_Reverse_string_string, r_xslices_Reverse_string_string) := by kernel_rfl
def us_xslices_Reverse_string_string :=  (aI (aI @u276_0 (aI @u276_1 @u276_2)) (aI @u276_3 (aI @u276_4 @u276_5)))
abbrev b189_1 : X := (.seq (.reg [2] (.c (.q 8 [] (.mv (.t 3))) (.c (.q 2 [] (.mv (.t 8))) .nil))) .ret)
def t189_1 := b189_1
theorem u189_1 : vcK P t189_1 k e w = vcK P b189_1 k e w := rfl
abbrev b189_2 : X := (.seq (.reg [3] (.c (.q 6 [] (.mv (.t 3))) (.c (.e (some 7) [] (.call false 276 [(.t 6)])) .nil))) t189_1)
def t189_2 := b189_2
theorem u189_2 : vcK P t189_2 k e w = vcK P b189_2 k e w := rfl
abbrev b189_3 : X := (.seq (.reg [3] (.c (.q 4 [] (.mv (.t 0))) (.c (.e (some 5) [] (.call false 144 [(.t 4)])) (.c (.q 3 [] (.mv (.t 5))) .nil)))) t189_2)
def t189_3 := b189_3
theorem u189_3 : vcK P t189_3 k e w = vcK P b189_3 k e w := rfl
abbrev b189_0 : X := (.seq (.reg [0] (.c (.q 2 [] (.mv (.c (.slice none 0 0)))) .nil)) t189_3)
def x_ireversed := b189_0
theorem u189_0 : vcK P x_ireversed k e w = vcK P b189_0 k e w := rfl
def r_ireversed : List XO := [(.mv (.t 2))]
theorem c_ireversed : convF Try.prog [147, 148, 152, 160, 162, 163, 170, 178, 206, 208, 210, 224, 233, 235, 236, 251, 264, 265, 268, 270, 287, 322] Try.f189 [([0], []), ([3], []), ([3], []), ([2], [])] = some (x_ireversed, r_ireversed) := by kernel_rfl
def us_ireversed :=  (aI (aI @u189_0 @u189_1) (aI @u189_2 @u189_3))
abbrev b266_1 : X := (.cond (.t 21) (.seq (.reg [2] (.c (.q 2 [] (.mv (.c (.bool false)))) .nil)) .ret) .skip)
def t266_1 := b266_1
theorem u266_1 : vcK P t266_1 k e w = vcK P b266_1 k e w := rfl
abbrev b266_2 : X := (.seq (.drw [0, 5, 6, 21] (.c (.q 9 [] (.mv (.t 0))) (.c (.q 10 [] (.mv (.t 3))) (.c (.q 11 [] (.ia 1 (.t 9) (.t 10))) (.c (.q 12 [] (.ld (.t 11))) (.c (.q 13 [] (.mv (.t 0))) (.c (.q 14 [] (.mv (.t 0))) (.c (.q 15 [] (.lens (.t 14))) (.c (.q 16 [] (.bin .sub (.t 15) (.c (.int .i64 1)))) (.c (.q 17 [] (.mv (.t 3))) (.c (.q 18 [] (.bin .sub (.t 16) (.t 17))) (.c (.q 19 [] (.ia 1 (.t 13) (.t 18))) (.c (.q 20 [] (.ld (.t 19))) (.c (.q 21 [] (.bin .neq (.t 12) (.t 20))) .nil)))))))))))))) t266_1)
def t266_2 := b266_2
theorem u266_2 : vcK P t266_2 k e w = vcK P b266_2 k e w := rfl
abbrev b266_3 : X := (.reg [0, 5, 6] (.c (.q 22 [] (.bin .add (.t 6) (.c (.int .i64 1)))) (.c (.q 6 [] (.mv (.t 22))) .nil)))
def t266_3 := b266_3
theorem u266_3 : vcK P t266_3 k e w = vcK P b266_3 k e w := rfl
abbrev b266_4 : X := (.seq (.blk 1 (.seq (.reg [0, 3, 5, 6] (.c (.q 8 [] (.mv (.t 6))) (.c (.q 3 [] (.mv (.t 8))) .nil))) t266_2)) t266_3)
def t266_4 := b266_4
theorem u266_4 : vcK P t266_4 k e w = vcK P b266_4 k e w := rfl
abbrev b266_5 : X := (.seq (.cond (.t 7) .skip (.exit 0)) t266_4)
def t266_5 := b266_5
theorem u266_5 : vcK P t266_5 k e w = vcK P b266_5 k e w := rfl
abbrev b266_6 : X := (.seq (.reg [0, 5, 6, 7] (.c (.q 7 [] (.bin .lss (.t 6) (.t 5))) .nil)) t266_5)
def t266_6 := b266_6
theorem u266_6 : vcK P t266_6 k e w = vcK P b266_6 k e w := rfl
abbrev b266_7 : X := (.blk 0 (.loop [6] [0, 5] t266_6))
def t266_7 := b266_7
theorem u266_7 : vcK P t266_7 k e w = vcK P b266_7 k e w := rfl
abbrev b266_8 : X := (.seq (.reg [2] (.c (.q 2 [] (.mv (.c (.bool true)))) .nil)) .ret)
def t266_8 := b266_8
theorem u266_8 : vcK P t266_8 k e w = vcK P b266_8 k e w := rfl
abbrev b266_9 : X := (.seq (.seq (.reg [0, 5, 6] (.c (.q 4 [] (.mv (.t 0))) (.c (.q 5 [] (.lens (.t 4))) (.c (.q 6 [] (.mv (.c (.int .i64 0)))) .nil)))) t266_7) t266_8)
def t266_9 := b266_9
theorem u266_9 : vcK P t266_9 k e w = vcK P b266_9 k e w := rfl
abbrev b266_0 : X := (.seq (.reg [0] (.c (.q 2 [] (.mv (.c (.bool false)))) .nil)) t266_9)
def x_isameBothWays := b266_0
theorem u266_0 : vcK P x_isameBothWays k e w = vcK P b266_0 k e w := rfl
def r_isameBothWays : List XO := [(.mv (.t 2))]
theorem c_isameBothWays : convF Try.prog [147, 148, 152, 160, 162, 163, 170, 178, 206, 208, 210, 224, 233, 235, 236, 251, 264, 265, 268, 270, 287, 322] Try.f266 [([0], []), ([0, 5, 6], []), ([6], [0, 5]), ([0, 5, 6, 7], []), ([0, 3, 5, 6], []), ([0, 5, 6, 21], []), ([2], []), ([0, 5, 6], []), ([2], [])] = some (x_isameBothWays, r_isameBothWays) := by kernel_rfl
def us_isameBothWays :=  (aI (aI (aI @u266_0 @u266_1) (aI @u266_2 (aI @u266_3 @u266_4))) (aI (aI @u266_5 @u266_6) (aI @u266_7 (aI @u266_8 @u266_9))))
abbrev b190_1 : X := (.seq (.reg [2] (.c (.q 3 [] (.fa 2 (.t 1))) (.c (.q 4 [] (.ld (.t 3))) (.c (.q 5 [] (.fa 2 (.t 1))) (.c (.q 6 [] (.ld (.t 5))) (.c (.q 7 [] (.lens (.t 6))) (.c (.q 8 [] (.bin .sub (.t 7) (.c (.int .i64 1)))) (.c (.q 9 [] (.ssl 1 (.t 4) none (some (.t 8)))) (.c (.e (some 10) [] (.call false 266 [(.t 9)])) (.c (.q 2 [] (.mv (.t 10))) .nil)))))))))) .ret)
def t190_1 := b190_1
theorem u190_1 : vcK P t190_1 k e w = vcK P b190_1 k e w := rfl
abbrev b190_0 : X := (.seq (.reg [1] (.c (.e (some 1) [] (.box 26 (.t 0))) (.c (.q 2 [] (.mv (.c (.bool false)))) .nil))) t190_1)
def x_ipalindrome := b190_0
theorem u190_0 : vcK P x_ipalindrome k e w = vcK P b190_0 k e w := rfl
def r_ipalindrome : List XO := [(.mv (.t 2))]
theorem c_ipalindrome : convF Try.prog [147, 148, 152, 160, 162, 163, 170, 178, 206, 208, 210, 224, 233, 235, 236, 251, 264, 265, 268, 270, 287, 322] Try.f190 [([1], []), ([2], [])] = some (x_ipalindrome, r_ipalindrome) := by kernel_rfl
def us_ipalindrome :=  (aI @u190_0 @u190_1)
abbrev b67_1 : X := (.cond (.t 6) (.seq (.reg [2, 3] (.c (.q 2 [] (.mv (.c (.bool false)))) (.c (.q 3 [] (.mv (.c (.bool false)))) .nil))) .ret) .skip)
def t67_1 := b67_1
theorem u67_1 : vcK P t67_1 k e w = vcK P b67_1 k e w := rfl
abbrev b67_2 : X := (.seq (.reg [2, 3] (.c (.q 7 [] (.lda 3 (.t 1))) (.c (.e (some 8) [] (.call false 190 [(.t 7)])) (.c (.q 2 [] (.mv (.t 8))) (.c (.q 3 [] (.mv (.c (.bool true)))) .nil))))) .ret)
def t67_2 := b67_2
theorem u67_2 : vcK P t67_2 k e w = vcK P b67_2 k e w := rfl
abbrev b67_3 : X := (.seq (.seq (.reg [1, 6] (.c (.q 4 [] (.lda 3 (.t 1))) (.c (.e (some 5) [] (.call false 135 [(.t 4)])) (.c (.q 6 [] (.not (.t 5))) .nil)))) t67_1) t67_2)
def t67_3 := b67_3
theorem u67_3 : vcK P t67_3 k e w = vcK P b67_3 k e w := rfl
abbrev b67_0 : X := (.seq (.reg [1] (.c (.e (some 1) [] (.box 26 (.t 0))) (.c (.q 2 [] (.mv (.c (.bool false)))) (.c (.q 3 [] (.mv (.c (.bool false)))) .nil)))) t67_3)
def x_iIsPalindrome := b67_0
theorem u67_0 : vcK P x_iIsPalindrome k e w = vcK P b67_0 k e w := rfl
def r_iIsPalindrome : List XO := [(.mv (.t 2)), (.mv (.t 3))]
theorem c_iIsPalindrome : convF Try.prog [147, 148, 152, 160, 162, 163, 170, 178, 206, 208, 210, 224, 233, 235, 236, 251, 264, 265, 268, 270, 287, 322] Try.f67 [([1], []), ([1, 6], []), ([2, 3], []), ([2, 3], [])] = some (x_iIsPalindrome, r_iIsPalindrome) := by kernel_rfl
def us_iIsPalindrome :=  (aI (aI @u67_0 @u67_1) (aI @u67_2 @u67_3))
abbrev b65_1 : X := (.cond (.t 6) (.seq (.reg [2, 3] (.c (.q 7 [] (.bld [(S []), (.int .i64 0), (.slice none 0 0)] [])) (.c (.e none [] (.st 3 (.t 2) (.t 7))) (.c (.q 3 [] (.mv (.c (.bool false)))) .nil)))) .ret) .skip)
def t65_1 := b65_1
theorem u65_1 : vcK P t65_1 k e w = vcK P b65_1 k e w := rfl
abbrev b65_2 : X := (.seq (.drw [2, 3] (.c (.q 8 [] (.lda 3 (.t 1))) (.c (.q 9 [] (.fa 2 (.t 1))) (.c (.q 10 [] (.ld (.t 9))) (.c (.e (some 11) [] (.call false 189 [(.t 10)])) (.c (.e (some 12) [] (.call false 184 [(.t 8), (.t 11)])) (.c (.e none [] (.st 3 (.t 2) (.t 12))) (.c (.q 3 [] (.mv (.c (.bool true)))) .nil)))))))) .ret)
def t65_2 := b65_2
theorem u65_2 : vcK P t65_2 k e w = vcK P b65_2 k e w := rfl
abbrev b65_3 : X := (.seq (.seq (.reg [1, 2, 6] (.c (.q 4 [] (.lda 3 (.t 1))) (.c (.e (some 5) [] (.call false 135 [(.t 4)])) (.c (.q 6 [] (.not (.t 5))) .nil)))) t65_1) t65_2)
def t65_3 := b65_3
theorem u65_3 : vcK P t65_3 k e w = vcK P b65_3 k e w := rfl
abbrev b65_0 : X := (.seq (.reg [1, 2] (.c (.e (some 1) [] (.box 26 (.t 0))) (.c (.e (some 2) [] (.al 26 [(S []), (.int .i64 0), (.slice none 0 0)])) (.c (.q 3 [] (.mv (.c (.bool false)))) .nil)))) t65_3)
def x_iTurnMethod := b65_0
theorem u65_0 : vcK P x_iTurnMethod k e w = vcK P b65_0 k e w := rfl
def r_iTurnMethod : List XO := [(.lda 3 (.t 2)), (.mv (.t 3))]
theorem c_iTurnMethod : convF Try.prog [147, 148, 152, 160, 162, 163, 170, 178, 206, 208, 210, 224, 233, 235, 236, 251, 264, 265, 268, 270, 287, 322] Try.f65 [([1, 2], []), ([1, 2, 6], []), ([2, 3], []), ([2, 3], [])] = some (x_iTurnMethod, r_iTurnMethod) := by kernel_rfl
def us_iTurnMethod :=  (aI (aI @u65_0 @u65_1) (aI @u65_2 @u65_3))
end

theorem xslices_Clone_string_string_ok (v : Value) (l : List (List UInt8)) (hl : l.length ≤ 1000000000) (w : World) (h : Sq fS 1 w v l) : Fn 144 [v] w (fun r w' => Own fS 1 9 w.heap.size w' r l) := by
  (refine callsV_of mix Try.func144 c_xslices_Clone_string_string ?_; simp only [↓vsd, vsn, gW, qd, qv, ev, pick, argE, zipE, ne_eq, eq_self, forall_const, implies_true, if_true, if_false, reduceIte, reduceCtorEq, Nat.reduceEqDiff, Nat.reduceAdd, Nat.reduceLT, ↓us_xslices_Clone_string_string, r_xslices_Clone_string_string])
  have hor := h.2.2
  rcases hor with ⟨rfl, h0⟩ | ⟨ad, c, rfl, _, _⟩
  · obtain rfl : l = [] := List.length_eq_zero_iff.1 h0
    simp only [↓vsd, vsn, gW, qd, qv, ev, pick, argE, zipE, ne_eq, eq_self, forall_const, implies_true, if_true, if_false, reduceIte, reduceCtorEq, Nat.reduceEqDiff, Nat.reduceAdd, Nat.reduceLT, ↓us_xslices_Clone_string_string, r_xslices_Clone_string_string]
    exact ⟨fun _ => ⟨Ext.refl _, Own.nil fS_len⟩, fun h => absurd rfl h⟩
  · simp only [↓vsd, vsn, gW, qd, qv, ev, pick, argE, zipE, ne_eq, eq_self, forall_const, implies_true, if_true, if_false, reduceIte, reduceCtorEq, Nat.reduceEqDiff, Nat.reduceAdd, Nat.reduceLT, ↓us_xslices_Clone_string_string, r_xslices_Clone_string_string]
    refine ⟨fun h => (by cases h), fun _ => m_bsl (by simp) ?_⟩
    rintro b w1 hb hblk hx1 hs1
    simp only [↓vsd, vsn, gW, qd, qv, ev, pick, argE, zipE, ne_eq, eq_self, forall_const, implies_true, if_true, if_false, reduceIte, reduceCtorEq, Nat.reduceEqDiff, Nat.reduceAdd, Nat.reduceLT, ↓us_xslices_Clone_string_string, r_xslices_Clone_string_string]
    have ho : Own fS 1 9 w.heap.size w1 (.slice (some ⟨b, 0, none⟩) 0 0) ([] : List (List UInt8)) := (Own.empty fS_len hblk (by omega)).to (by simp)
    refine m_app ho (h.ext hx1) fS_one (by decide) (by simp; omega) (by decide) hx1.size ?_
    rintro x w2 ho2 hg2
    have hx2 := ho.grown hx1 (Nat.le_refl _) hg2
    simp only [↓vsd, vsn, gW, qd, qv, ev, pick, argE, zipE, ne_eq, eq_self, forall_const, implies_true, if_true, if_false, reduceIte, reduceCtorEq, Nat.reduceEqDiff, Nat.reduceAdd, Nat.reduceLT, ↓us_xslices_Clone_string_string, r_xslices_Clone_string_string]
    exact ⟨hx2, ho2.to (by simp)⟩
theorem rev_step {l m : List (List UInt8)} {k q : Nat} (hk : k < q) (hn : k + q + 1 = l.length) (hm : m.length = l.length ∧ ∀ j < l.length, m.getD j [] = if j < k ∨ l.length < j + k + 1 then l.getD (l.length - 1 - j) [] else l.getD j []) :
    ((m.set k (m.getD q [])).set q (m.getD k [])).length = l.length ∧ ∀ j < l.length, ((m.set k (m.getD q [])).set q (m.getD k [])).getD j [] = if j < k + 1 ∨ l.length < j + (k + 1) + 1 then l.getD (l.length - 1 - j) [] else l.getD j [] := by
  obtain ⟨h1, h2⟩ := hm
  refine ⟨by rw [List.length_set, List.length_set, h1], fun j hj => ?_⟩
  rw [getD_set, List.length_set]
  by_cases hjq : j = q
  · subst hjq
    rw [if_pos ⟨rfl, by omega⟩, h2 k (by omega), if_neg (by omega), if_pos (by omega)]
    congr 1; omega
  · rw [if_neg (by omega), getD_set]
    by_cases hjk : j = k
    · subst hjk
      rw [if_pos ⟨rfl, by omega⟩, h2 q (by omega), if_neg (by omega), if_pos (by omega)]
      congr 1; omega
    · rw [if_neg (by omega), h2 j hj]
      by_cases hc : j < k ∨ l.length < j + k + 1
      · rw [if_pos hc, if_pos (by omega)]
      · rw [if_neg hc, if_neg (by omega)]
theorem rev_get (l : List (List UInt8)) (j : Nat) (hj : j < l.length) : l.reverse.getD j [] = l.getD (l.length - 1 - j) [] := by
  rw [List.getD_eq_getElem?_getD, List.getD_eq_getElem?_getD, List.getElem?_reverse hj]
theorem xslices_Reverse_string_string_ok (v : Value) (l : List (List UInt8)) (B : Nat) (hl : l.length ≤ 1000000000) (w : World) (h : Own fS 1 9 B w v l) :
    CallsV Try.prog 276 [v] w (fun _ w' => Own fS 1 9 B w' v l.reverse ∧ w.grownBy w' v.ownBlock) := by
  (refine callsV_of mix Try.func276 c_xslices_Reverse_string_string ?_; simp only [↓vsd, vsn, gW, qd, qv, ev, pick, argE, zipE, ne_eq, eq_self, forall_const, implies_true, if_true, if_false, reduceIte, reduceCtorEq, Nat.reduceEqDiff, Nat.reduceAdd, Nat.reduceLT, ↓us_xslices_Reverse_string_string, r_xslices_Reverse_string_string])
  simp only [↓vsd, vsn, gW, qd, qv, ev, pick, argE, zipE, ne_eq, eq_self, forall_const, implies_true, if_true, if_false, reduceIte, reduceCtorEq, Nat.reduceEqDiff, Nat.reduceAdd, Nat.reduceLT, ↓us_xslices_Reverse_string_string, r_xslices_Reverse_string_string, h.sq.facts]
  refine ⟨inR_i64 (by omega), m_upto (l.length / 2) (fun k vs w' => ∃ m : List (List UInt8), vs = [.int .i64 k, .int .i64 ((l.length : Int) - 1 - k)] ∧ (m.length = l.length ∧ ∀ j < l.length, m.getD j [] = if j < k ∨ l.length < j + k + 1 then l.getD (l.length - 1 - j) [] else l.getD j []) ∧ Own fS 1 9 B w' v m ∧ w.grownBy w' v.ownBlock) ⟨l, by rw [show (l.length : Int) - 1 - (0 : Nat) = (l.length : Int) - 1 by omega]; rfl, ⟨rfl, fun j hj => by rw [if_neg (by omega)]⟩, h, grown_refl _ _⟩ ?_⟩
  rintro k vs w1 hk ⟨m, rfl, hm, ho, hg⟩
  by_cases hlt : k < l.length / 2
  · obtain ⟨q, hq⟩ : ∃ q : Nat, (l.length : Int) - 1 - k = q := ⟨l.length - 1 - k, by omega⟩
    have hkq : k < q := by omega
    have hkI : (k : Int) < q := by omega
    have hkA : k < m.length := by have := hm.1; omega
    have hqA : q < m.length := by have := hm.1; omega
    simp only [↓vsd, vsn, gW, qd, qv, ev, pick, argE, zipE, ne_eq, eq_self, forall_const, implies_true, if_true, if_false, reduceIte, reduceCtorEq, Nat.reduceEqDiff, Nat.reduceAdd, Nat.reduceLT, ↓us_xslices_Reverse_string_string, r_xslices_Reverse_string_string, hq, hkI, ho.sq.facts, ho.sq.at1 [] hkA, ho.sq.at1 [] hqA]
    refine ⟨by omega, by omega, by omega, m_set1 k (m.getD q []) (ho.ext (dr (Ext.refl _))) rfl hkA rfl fS_one ?_⟩
    rintro w2 ho2 hg2 _
    simp only [↓vsd, vsn, gW, qd, qv, ev, pick, argE, zipE, ne_eq, eq_self, forall_const, implies_true, if_true, if_false, reduceIte, reduceCtorEq, Nat.reduceEqDiff, Nat.reduceAdd, Nat.reduceLT, ↓us_xslices_Reverse_string_string, r_xslices_Reverse_string_string, ho2.sq.facts, List.length_set]
    refine ⟨by omega, m_set1 q (m.getD k []) ho2 rfl (by rw [List.length_set]; exact hqA) rfl fS_one ?_⟩
    rintro w3 ho3 hg3 _
    simp only [↓vsd, vsn, gW, qd, qv, ev, pick, argE, zipE, ne_eq, eq_self, forall_const, implies_true, if_true, if_false, reduceIte, reduceCtorEq, Nat.reduceEqDiff, Nat.reduceAdd, Nat.reduceLT, ↓us_xslices_Reverse_string_string, r_xslices_Reverse_string_string]
    have hg2' : w1.grownBy w2 v.ownBlock := ⟨hg2.os, hg2.tape, hg2.output, hg2.size, hg2.block⟩
    refine ⟨inR_i64 (by omega), inR_i64 (by omega), UpTo.next hlt ⟨_, by rw [show (q : Int) - 1 = (l.length : Int) - 1 - ((k + 1 : Nat) : Int) by omega]; rfl, rev_step hkq (by omega) hm, ho3, grown_trans hg (grown_trans hg2' hg3)⟩⟩
  · have hkI : ¬ (k : Int) < (l.length : Int) - 1 - k := by omega
    simp only [↓vsd, vsn, gW, qd, qv, ev, pick, argE, zipE, ne_eq, eq_self, forall_const, implies_true, if_true, if_false, reduceIte, reduceCtorEq, Nat.reduceEqDiff, Nat.reduceAdd, Nat.reduceLT, ↓us_xslices_Reverse_string_string, r_xslices_Reverse_string_string, hkI]
    have h1 := hm.1
    refine ⟨ho.to (ext_getD (d := []) (by rw [h1, List.length_reverse]) fun j hj => ?_), hg⟩
    rw [hm.2 j (by omega), rev_get l j (by omega)]
    split
    · rfl
    · rw [show l.length - 1 - j = j by omega]
theorem ireversed_ok (v : Value) (l : List (List UInt8)) (hl : l.length ≤ 1000000000) (w : World) (h : Sq fS 1 w v l) : Fn 189 [v] w (fun r w' => Own fS 1 9 w.heap.size w' r l.reverse) := by
  (refine callsV_of mix Try.func189 c_ireversed ?_; simp only [↓vsd, vsn, gW, qd, qv, ev, pick, argE, zipE, ne_eq, eq_self, forall_const, implies_true, if_true, if_false, reduceIte, reduceCtorEq, Nat.reduceEqDiff, Nat.reduceAdd, Nat.reduceLT, ↓us_ireversed, r_ireversed])
  refine m_call (xslices_Clone_string_string_ok v l hl _ h) ?_
  rintro x w1 hx1 ho1
  simp only [↓vsd, vsn, gW, qd, qv, ev, pick, argE, zipE, ne_eq, eq_self, forall_const, implies_true, if_true, if_false, reduceIte, reduceCtorEq, Nat.reduceEqDiff, Nat.reduceAdd, Nat.reduceLT, ↓us_ireversed, r_ireversed]
  refine m_callw (.inl rfl) (xslices_Reverse_string_string_ok x l _ hl _ ho1) ?_
  rintro _ w2 ⟨ho2, hg2⟩
  simp only [↓vsd, vsn, gW, qd, qv, ev, pick, argE, zipE, ne_eq, eq_self, forall_const, implies_true, if_true, if_false, reduceIte, reduceCtorEq, Nat.reduceEqDiff, Nat.reduceAdd, Nat.reduceLT, ↓us_ireversed, r_ireversed]
  exact ⟨ho1.grown hx1 (Nat.le_refl _) hg2, ho2⟩
/-- The same both ways. -/
def IsPal (l : List (List UInt8)) : Prop := ∀ i < l.length, l.getD i [] = l.getD (l.length - 1 - i) []
instance (l : List (List UInt8)) : Decidable (IsPal l) := by unfold IsPal; infer_instance
theorem isameBothWays_ok (v : Value) (l : List (List UInt8)) (hl : l.length ≤ 1000000000) (w : World) (h : Sq fS 1 w v l) : Fn 266 [v] w (fun r _ => r = .bool (decide (IsPal l))) := by
  (refine callsV_of mix Try.func266 c_isameBothWays ?_; simp only [↓vsd, vsn, gW, qd, qv, ev, pick, argE, zipE, ne_eq, eq_self, forall_const, implies_true, if_true, if_false, reduceIte, reduceCtorEq, Nat.reduceEqDiff, Nat.reduceAdd, Nat.reduceLT, ↓us_isameBothWays, r_isameBothWays])
  simp only [↓vsd, vsn, gW, qd, qv, ev, pick, argE, zipE, ne_eq, eq_self, forall_const, implies_true, if_true, if_false, reduceIte, reduceCtorEq, Nat.reduceEqDiff, Nat.reduceAdd, Nat.reduceLT, ↓us_isameBothWays, r_isameBothWays, h.facts]
  refine m_upto l.length (fun k vs w' => vs = [.int .i64 k] ∧ (∀ i < k, l.getD i [] = l.getD (l.length - 1 - i) []) ∧ Ext w w') ⟨rfl, fun i hi => absurd hi (Nat.not_lt_zero i), Ext.refl _⟩ ?_
  rintro k vs w1 hk ⟨rfl, hall, hx⟩
  have hq := h.ext hx
  by_cases hlt : k < l.length
  · have hltI : (k : Int) < l.length := by omega
    have hltJ : ¬ (l.length : Int) ≤ k := by omega
    obtain ⟨q, hqe⟩ : ∃ q : Nat, (l.length : Int) - 1 - k = q := ⟨l.length - 1 - k, by omega⟩
    have hqn : l.length - 1 - k = q := by omega
    have hqA : q < l.length := by omega
    simp only [↓vsd, vsn, gW, qd, qv, ev, pick, argE, zipE, ne_eq, eq_self, forall_const, implies_true, if_true, if_false, reduceIte, reduceCtorEq, Nat.reduceEqDiff, Nat.reduceAdd, Nat.reduceLT, ↓us_isameBothWays, r_isameBothWays, hltI, hltJ, hqe, hq.facts, hq.at1 [] hlt, hq.at1 [] hqA]
    refine ⟨by omega, inR_i64 (by omega), inR_i64 (by omega), by omega, fun hne => ⟨hx, ?_⟩, fun he => ⟨inR_i64 (by omega), UpTo.next hlt ⟨rfl, fun i hi => ?_, by first | exact hx | exact dr hx⟩⟩⟩
    · rw [decide_eq_false (fun hp : IsPal l => hne (by have := hp k hlt; rwa [hqn] at this))]
    · rcases Nat.lt_succ_iff_lt_or_eq.1 hi with h' | rfl
      · exact hall i h'
      · rw [hqn]; exact he
  · obtain rfl : k = l.length := by omega
    have hltI : ¬ (l.length : Int) < l.length := by omega
    simp only [↓vsd, vsn, gW, qd, qv, ev, pick, argE, zipE, ne_eq, eq_self, forall_const, implies_true, if_true, if_false, reduceIte, reduceCtorEq, Nat.reduceEqDiff, Nat.reduceAdd, Nat.reduceLT, ↓us_isameBothWays, r_isameBothWays, hltI]
    exact ⟨hx, by rw [decide_eq_true (show IsPal l from hall)]⟩
theorem ipalindrome_ok (nm : List UInt8) (st : Int) (v : Value) (cs : List (List UInt8)) (hl : 1 ≤ cs.length ∧ cs.length ≤ 1000000000) (w : World) (h : Sq fS 1 w v cs) : Fn 190 [mV nm st v] w (fun r _ => r = .bool (decide (IsPal (cs.take (cs.length - 1))))) := by
  (refine callsV_of mix Try.func190 c_ipalindrome ?_; simp only [↓vsd, vsn, gW, qd, qv, ev, pick, argE, zipE, ne_eq, eq_self, forall_const, implies_true, if_true, if_false, reduceIte, reduceCtorEq, Nat.reduceEqDiff, Nat.reduceAdd, Nat.reduceLT, ↓us_ipalindrome, r_ipalindrome])
  refine m_al ?_
  rintro b w1 hb hblk hx1 hs1
  have h1 : Blk w1 b (fM nm st v) 26 := hblk
  have hq1 := h.ext hx1
  have hs := hq1.headS .i64 (cs.length - 1) (by omega)
  have e1 : (cs.length : Int) - 1 = (cs.length - 1 : Nat) := by omega
  simp only [↓vsd, vsn, gW, qd, qv, ev, pick, argE, zipE, ne_eq, eq_self, forall_const, implies_true, if_true, if_false, reduceIte, reduceCtorEq, Nat.reduceEqDiff, Nat.reduceAdd, Nat.reduceLT, ↓us_ipalindrome, r_ipalindrome, h1.facts, fMg, hq1.facts, e1, hs.1]
  refine ⟨inR_i64 (by omega), m_call (isameBothWays_ok _ _ (by rw [List.length_take]; omega) _ hs.2) ?_⟩
  rintro _ w2 hx2 rfl
  simp only [↓vsd, vsn, gW, qd, qv, ev, pick, argE, zipE, ne_eq, eq_self, forall_const, implies_true, if_true, if_false, reduceIte, reduceCtorEq, Nat.reduceEqDiff, Nat.reduceAdd, Nat.reduceLT, ↓us_ipalindrome, r_ipalindrome]
  exact hx1.trans hx2
theorem iIsPalindrome_ok (nm : List UInt8) (st : Int) (v : Value) (cs : List (List UInt8)) (hnm : nm.length ≤ 1048576) (hs : ∀ c ∈ cs, c.length ≤ 1048576) (hl : cs.length ≤ 1000000000) (w : World) (h : Sq fS 1 w v cs) : Fn 67 [mV nm st v] w (fun r _ => r = .tuple ⟨[.bool (decide (IsMethod nm st cs ∧ IsPal (cs.take (cs.length - 1)))), .bool (decide (IsMethod nm st cs))]⟩) := by
  (refine callsV_of mix Try.func67 c_iIsPalindrome ?_; simp only [↓vsd, vsn, gW, qd, qv, ev, pick, argE, zipE, ne_eq, eq_self, forall_const, implies_true, if_true, if_false, reduceIte, reduceCtorEq, Nat.reduceEqDiff, Nat.reduceAdd, Nat.reduceLT, ↓us_iIsPalindrome, r_iIsPalindrome])
  refine m_al ?_
  rintro b w1 hb hblk hx1 hs1
  have h1 : Blk w1 b (fM nm st v) 26 := hblk
  simp only [↓vsd, vsn, gW, qd, qv, ev, pick, argE, zipE, ne_eq, eq_self, forall_const, implies_true, if_true, if_false, reduceIte, reduceCtorEq, Nat.reduceEqDiff, Nat.reduceAdd, Nat.reduceLT, ↓us_iIsPalindrome, r_iIsPalindrome, h1.facts, fMg]
  refine m_call (iGoodMethod_ok nm st v cs hnm hs hl _ (h.ext hx1)) ?_
  rintro _ w2 hx2 rfl
  have h2 := h1.ext hx2
  by_cases hm : IsMethod nm st cs
  · simp only [↓vsd, vsn, gW, qd, qv, ev, pick, argE, zipE, ne_eq, eq_self, forall_const, implies_true, if_true, if_false, reduceIte, reduceCtorEq, Nat.reduceEqDiff, Nat.reduceAdd, Nat.reduceLT, ↓us_iIsPalindrome, r_iIsPalindrome, hm, h2.facts, fMg]
    refine m_call (ipalindrome_ok nm st v cs ⟨hm.2.2.1.1, hl⟩ _ ((h.ext hx1).ext hx2)) ?_
    rintro _ w3 hx3 rfl
    simp only [↓vsd, vsn, gW, qd, qv, ev, pick, argE, zipE, ne_eq, eq_self, forall_const, implies_true, if_true, if_false, reduceIte, reduceCtorEq, Nat.reduceEqDiff, Nat.reduceAdd, Nat.reduceLT, ↓us_iIsPalindrome, r_iIsPalindrome]
    exact (hx1.trans hx2).trans hx3
  · simp only [↓vsd, vsn, gW, qd, qv, ev, pick, argE, zipE, ne_eq, eq_self, forall_const, implies_true, if_true, if_false, reduceIte, reduceCtorEq, Nat.reduceEqDiff, Nat.reduceAdd, Nat.reduceLT, ↓us_iIsPalindrome, r_iIsPalindrome, hm]
    exact hx1.trans hx2
theorem iTurnMethod_ok (nm : List UInt8) (st : Int) (v : Value) (cs : List (List UInt8)) (hm : IsMethod nm st cs) (hnm : nm.length ≤ 1048576) (hs : ∀ c ∈ cs, c.length ≤ 1048576) (hl : cs.length ≤ 1000000000) (w : World) (h : Sq fS 1 w v cs) : Fn 65 [mV nm st v] w (fun r w' => ∃ x, r = .tuple ⟨[mV nm st x, .bool true]⟩ ∧ Own fS 1 9 w.heap.size w' x cs.reverse) := by
  (refine callsV_of mix Try.func65 c_iTurnMethod ?_; simp only [↓vsd, vsn, gW, qd, qv, ev, pick, argE, zipE, ne_eq, eq_self, forall_const, implies_true, if_true, if_false, reduceIte, reduceCtorEq, Nat.reduceEqDiff, Nat.reduceAdd, Nat.reduceLT, ↓us_iTurnMethod, r_iTurnMethod])
  refine m_al ?_
  rintro b w1 hb hblk hx1 hs1
  have h1 : Blk w1 b (fM nm st v) 26 := hblk
  simp only [↓vsd, vsn, gW, qd, qv, ev, pick, argE, zipE, ne_eq, eq_self, forall_const, implies_true, if_true, if_false, reduceIte, reduceCtorEq, Nat.reduceEqDiff, Nat.reduceAdd, Nat.reduceLT, ↓us_iTurnMethod, r_iTurnMethod]
  refine m_al ?_
  rintro b0 w0 hb0 hblk0 hx0 hs0
  have h0 := h1.ext hx0
  have hx10 := hx1.trans hx0
  simp only [↓vsd, vsn, gW, qd, qv, ev, pick, argE, zipE, ne_eq, eq_self, forall_const, implies_true, if_true, if_false, reduceIte, reduceCtorEq, Nat.reduceEqDiff, Nat.reduceAdd, Nat.reduceLT, ↓us_iTurnMethod, r_iTurnMethod, h0.facts, fMg]
  refine m_call (iGoodMethod_ok nm st v cs hnm hs hl _ (h.ext hx10)) ?_
  rintro _ w2 hx2 rfl
  have h2 := h0.ext hx2
  have hx12 := hx10.trans hx2
  simp only [↓vsd, vsn, gW, qd, qv, ev, pick, argE, zipE, ne_eq, eq_self, forall_const, implies_true, if_true, if_false, reduceIte, reduceCtorEq, Nat.reduceEqDiff, Nat.reduceAdd, Nat.reduceLT, ↓us_iTurnMethod, r_iTurnMethod, hm, h2.facts, fMg]
  refine m_call (ireversed_ok v cs hl _ (h.ext (dr hx12))) ?_
  rintro x w3 hx3 ho3
  have hx3 := ud hx3
  simp only [↓vsd, vsn, gW, qd, qv, ev, pick, argE, zipE, ne_eq, eq_self, forall_const, implies_true, if_true, if_false, reduceIte, reduceCtorEq, Nat.reduceEqDiff, Nat.reduceAdd, Nat.reduceLT, ↓us_iTurnMethod, r_iTurnMethod]
  refine m_call (iwithChanges_ok nm st v x _ ho3.sq.one' (of_eq_true ho3.sq.oneC)) ?_
  rintro _ w4 hx4 rfl
  simp only [↓vsd, vsn, gW, qd, qv, ev, pick, argE, zipE, ne_eq, eq_self, forall_const, implies_true, if_true, if_false, reduceIte, reduceCtorEq, Nat.reduceEqDiff, Nat.reduceAdd, Nat.reduceLT, ↓us_iTurnMethod, r_iTurnMethod]
  have hx14 := (hx12.trans hx3).trans hx4
  have hs2 : b0 < w2.heap.size := by have := hx2.size; omega
  refine m_st (((hblk0.ext hx2).ext hx3).ext hx4) rfl (Nat.le_refl 3) (fM_one nm st x ho3.sq.one') ?_
  rintro w5 hblk5 hu5
  have h5 : Blk w5 b0 (fM nm st x) 26 := hblk5
  have hx5 : Ext w w5 := hu5.below hx14 (by have := hx1.size; omega)
  simp only [↓vsd, vsn, gW, qd, qv, ev, pick, argE, zipE, ne_eq, eq_self, forall_const, implies_true, if_true, if_false, reduceIte, reduceCtorEq, Nat.reduceEqDiff, Nat.reduceAdd, Nat.reduceLT, ↓us_iTurnMethod, r_iTurnMethod, h5.facts, fMg]
  exact ⟨hx5, x, rfl, ((ho3.ext hx4).upd hu5 (ho3.away' hs2)).mono hx12.size⟩
end Go.Proofs.Ytnincmnkdjlndaa
