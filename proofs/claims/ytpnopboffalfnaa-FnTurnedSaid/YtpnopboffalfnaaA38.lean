/-
  Palindromes and reversed touches.
  Conditions: none.
-/
import Derived.Test.YtpnopboffalfnaaA30
import Derived.Test.YtpnopboffalfnaaA22
import Derived.Test.YtpnopboffalfnaaPt
set_option linter.unusedSimpArgs false
set_option linter.unusedVariables false
set_option linter.defProp false
namespace Go.Proofs.Ytpnopboffalfnaa
open Go Go.RowKit
section
variable (P : Program) (k : KT) (e : Env) (w : World)
abbrev b167_1 : X := (.cond (.t 11) .skip (.exit 0))
def t167_1 := b167_1
theorem u167_1 : vcK P t167_1 k e w = vcK P b167_1 k e w := rfl
abbrev b167_2 : X := (.cond (.t 27) (.seq (.reg [2] (.c (.q 2 [] (.mv (.c (.bool false)))) .nil)) .ret) .skip)
def t167_2 := b167_2
theorem u167_2 : vcK P t167_2 k e w = vcK P b167_2 k e w := rfl
abbrev b167_3 : X := (.reg [1, 3, 4] (.c (.q 12 [] (.mv (.t 4))) (.c (.q 13 [] (.bin .add (.t 12) (.c (.int .i64 1)))) (.c (.q 4 [] (.mv (.t 13))) .nil))))
def t167_3 := b167_3
theorem u167_3 : vcK P t167_3 k e w = vcK P b167_3 k e w := rfl
abbrev b167_4 : X := (.seq (.blk 1 (.seq (.drw [1, 3, 4, 27] (.c (.q 14 [] (.fa 2 (.t 1))) (.c (.q 15 [] (.ld (.t 14))) (.c (.q 16 [] (.mv (.t 4))) (.c (.q 17 [] (.ia 1 (.t 15) (.t 16))) (.c (.q 18 [] (.ld (.t 17))) (.c (.q 19 [] (.fa 2 (.t 1))) (.c (.q 20 [] (.ld (.t 19))) (.c (.q 21 [] (.mv (.t 3))) (.c (.q 22 [] (.bin .sub (.t 21) (.c (.int .i64 1)))) (.c (.q 23 [] (.mv (.t 4))) (.c (.q 24 [] (.bin .sub (.t 22) (.t 23))) (.c (.q 25 [] (.ia 1 (.t 20) (.t 24))) (.c (.q 26 [] (.ld (.t 25))) (.c (.q 27 [] (.bin .neq (.t 18) (.t 26))) .nil))))))))))))))) t167_2)) t167_3)
def t167_4 := b167_4
theorem u167_4 : vcK P t167_4 k e w = vcK P b167_4 k e w := rfl
abbrev b167_5 : X := (.seq (.seq (.reg [1, 3, 4, 11] (.c (.q 9 [] (.mv (.t 4))) (.c (.q 10 [] (.mv (.t 3))) (.c (.q 11 [] (.bin .lss (.t 9) (.t 10))) .nil)))) t167_1) t167_4)
def t167_5 := b167_5
theorem u167_5 : vcK P t167_5 k e w = vcK P b167_5 k e w := rfl
abbrev b167_6 : X := (.blk 0 (.loop [4] [1, 3] t167_5))
def t167_6 := b167_6
theorem u167_6 : vcK P t167_6 k e w = vcK P b167_6 k e w := rfl
abbrev b167_7 : X := (.seq (.reg [2] (.c (.q 2 [] (.mv (.c (.bool true)))) .nil)) .ret)
def t167_7 := b167_7
theorem u167_7 : vcK P t167_7 k e w = vcK P b167_7 k e w := rfl
abbrev b167_8 : X := (.seq (.seq (.reg [1, 3, 4] (.c (.q 4 [] (.mv (.c (.int .i64 0)))) .nil)) t167_6) t167_7)
def t167_8 := b167_8
theorem u167_8 : vcK P t167_8 k e w = vcK P b167_8 k e w := rfl
abbrev b167_9 : X := (.seq (.reg [1, 3] (.c (.q 5 [] (.fa 2 (.t 1))) (.c (.q 6 [] (.ld (.t 5))) (.c (.q 7 [] (.lens (.t 6))) (.c (.q 8 [] (.bin .sub (.t 7) (.c (.int .i64 1)))) (.c (.q 3 [] (.mv (.t 8))) .nil)))))) t167_8)
def t167_9 := b167_9
theorem u167_9 : vcK P t167_9 k e w = vcK P b167_9 k e w := rfl
abbrev b167_0 : X := (.seq (.reg [1] (.c (.e (some 1) [] (.box 41 (.t 0))) (.c (.q 2 [] (.mv (.c (.bool false)))) .nil))) t167_9)
def x_sl4Palindrome := b167_0
theorem u167_0 : vcK P x_sl4Palindrome k e w = vcK P b167_0 k e w := rfl
def r_sl4Palindrome : List XO := [(.mv (.t 2))]
theorem c_sl4Palindrome : convF Try.prog [169, 170, 207, 208, 210, 227, 232, 233, 255, 259, 268, 269, 270, 280, 281, 296, 299, 306, 307, 309] Try.f167 [([1], []), ([1, 3], []), ([1, 3, 4], []), ([4], [1, 3]), ([1, 3, 4, 11], []), ([1, 3, 4, 27], []), ([2], []), ([1, 3, 4], []), ([2], [])] = some (x_sl4Palindrome, r_sl4Palindrome) := by kernel_rfl
def us_sl4Palindrome := aI @u167_0 (aI @u167_1 (aI @u167_2 (aI @u167_3 (aI @u167_4 (aI @u167_5 (aI @u167_6 (aI @u167_7 (aI @u167_8 @u167_9))))))))
abbrev b29_1 : X := (.cond (.t 6) (.seq (.reg [2, 3] (.c (.q 2 [] (.mv (.c (.bool false)))) (.c (.q 3 [] (.mv (.c (.bool false)))) .nil))) .ret) .skip)
def t29_1 := b29_1
theorem u29_1 : vcK P t29_1 k e w = vcK P b29_1 k e w := rfl
abbrev b29_2 : X := (.seq (.reg [2, 3] (.c (.q 7 [] (.lda 3 (.t 1))) (.c (.e (some 8) [] (.call false 167 [(.t 7)])) (.c (.q 2 [] (.mv (.t 8))) (.c (.q 3 [] (.mv (.c (.bool true)))) .nil))))) .ret)
def t29_2 := b29_2
theorem u29_2 : vcK P t29_2 k e w = vcK P b29_2 k e w := rfl
abbrev b29_3 : X := (.seq (.seq (.reg [1, 6] (.c (.q 4 [] (.lda 3 (.t 1))) (.c (.e (some 5) [] (.call false 166 [(.t 4)])) (.c (.q 6 [] (.not (.t 5))) .nil)))) t29_1) t29_2)
def t29_3 := b29_3
theorem u29_3 : vcK P t29_3 k e w = vcK P b29_3 k e w := rfl
abbrev b29_0 : X := (.seq (.reg [1] (.c (.e (some 1) [] (.box 41 (.t 0))) (.c (.q 2 [] (.mv (.c (.bool false)))) (.c (.q 3 [] (.mv (.c (.bool false)))) .nil)))) t29_3)
def x_sIsPalindrome := b29_0
theorem u29_0 : vcK P x_sIsPalindrome k e w = vcK P b29_0 k e w := rfl
def r_sIsPalindrome : List XO := [(.mv (.t 2)), (.mv (.t 3))]
theorem c_sIsPalindrome : convF Try.prog [169, 170, 207, 208, 210, 227, 232, 233, 255, 259, 268, 269, 270, 280, 281, 296, 299, 306, 307, 309] Try.f29 [([1], []), ([1, 6], []), ([2, 3], []), ([2, 3], [])] = some (x_sIsPalindrome, r_sIsPalindrome) := by kernel_rfl
def us_sIsPalindrome := aI @u29_0 (aI @u29_1 (aI @u29_2 @u29_3))
abbrev b168_1 : X := (.reg [0, 3, 7, 8] (.c (.q 11 [] (.mv (.t 0))) (.c (.q 12 [] (.mv (.t 4))) (.c (.q 13 [] (.mv (.t 4))) (.c (.q 14 [] (.bin .add (.t 13) (.c (.int .i64 1)))) (.c (.q 15 [] (.sub (.t 11) (some (.t 12)) (some (.t 14)))) (.c (.q 16 [] (.mv (.t 3))) (.c (.q 17 [] (.bin .add (.t 15) (.t 16))) (.c (.q 3 [] (.mv (.t 17))) .nil)))))))))
def t168_1 := b168_1
theorem u168_1 : vcK P t168_1 k e w = vcK P b168_1 k e w := rfl
abbrev b168_2 : X := (.reg [0, 3, 7, 8] (.c (.q 18 [] (.bin .add (.t 8) (.c (.int .i64 1)))) (.c (.q 8 [] (.mv (.t 18))) .nil)))
def t168_2 := b168_2
theorem u168_2 : vcK P t168_2 k e w = vcK P b168_2 k e w := rfl
abbrev b168_3 : X := (.seq (.blk 1 (.seq (.reg [0, 3, 4, 7, 8] (.c (.q 10 [] (.mv (.t 8))) (.c (.q 4 [] (.mv (.t 10))) .nil))) t168_1)) t168_2)
def t168_3 := b168_3
theorem u168_3 : vcK P t168_3 k e w = vcK P b168_3 k e w := rfl
abbrev b168_4 : X := (.seq (.cond (.t 9) .skip (.exit 0)) t168_3)
def t168_4 := b168_4
theorem u168_4 : vcK P t168_4 k e w = vcK P b168_4 k e w := rfl
abbrev b168_5 : X := (.seq (.reg [0, 3, 7, 8, 9] (.c (.q 9 [] (.bin .lss (.t 8) (.t 7))) .nil)) t168_4)
def t168_5 := b168_5
theorem u168_5 : vcK P t168_5 k e w = vcK P b168_5 k e w := rfl
abbrev b168_6 : X := (.blk 0 (.loop [3, 8] [0, 7] t168_5))
def t168_6 := b168_6
theorem u168_6 : vcK P t168_6 k e w = vcK P b168_6 k e w := rfl
abbrev b168_7 : X := (.seq (.reg [2] (.c (.q 19 [] (.mv (.t 3))) (.c (.q 20 [] (.mv (.t 0))) (.c (.q 21 [] (.mv (.t 0))) (.c (.q 22 [] (.len (.t 21))) (.c (.q 23 [] (.bin .sub (.t 22) (.c (.int .i64 1)))) (.c (.q 24 [] (.sub (.t 20) (some (.t 23)) none)) (.c (.q 25 [] (.bin .add (.t 19) (.t 24))) (.c (.q 2 [] (.mv (.t 25))) .nil))))))))) .ret)
def t168_7 := b168_7
theorem u168_7 : vcK P t168_7 k e w = vcK P b168_7 k e w := rfl
abbrev b168_8 : X := (.seq (.seq (.reg [0, 3, 7, 8] (.c (.q 5 [] (.mv (.t 0))) (.c (.q 6 [] (.len (.t 5))) (.c (.q 7 [] (.bin .sub (.t 6) (.c (.int .i64 1)))) (.c (.q 8 [] (.mv (.c (.int .i64 0)))) .nil))))) t168_6) t168_7)
def t168_8 := b168_8
theorem u168_8 : vcK P t168_8 k e w = vcK P b168_8 k e w := rfl
abbrev b168_9 : X := (.seq (.reg [0, 3] (.c (.q 3 [] (.mv (.s []))) .nil)) t168_8)
def t168_9 := b168_9
theorem u168_9 : vcK P t168_9 k e w = vcK P b168_9 k e w := rfl
abbrev b168_0 : X := (.seq (.reg [0] (.c (.q 2 [] (.mv (.s []))) .nil)) t168_9)
def x_ibackwards := b168_0
theorem u168_0 : vcK P x_ibackwards k e w = vcK P b168_0 k e w := rfl
def r_ibackwards : List XO := [(.mv (.t 2))]
theorem c_ibackwards : convF Try.prog [169, 170, 207, 208, 210, 227, 232, 233, 255, 259, 268, 269, 270, 280, 281, 296, 299, 306, 307, 309] Try.f168 [([0], []), ([0, 3], []), ([0, 3, 7, 8], []), ([3, 8], [0, 7]), ([0, 3, 7, 8, 9], []), ([0, 3, 4, 7, 8], []), ([0, 3, 7, 8], []), ([0, 3, 7, 8], []), ([2], [])] = some (x_ibackwards, r_ibackwards) := by kernel_rfl
def us_ibackwards := aI @u168_0 (aI @u168_1 (aI @u168_2 (aI @u168_3 (aI @u168_4 (aI @u168_5 (aI @u168_6 (aI @u168_7 (aI @u168_8 @u168_9))))))))
abbrev b30_1 : X := (.cond (.t 6) (.seq (.reg [2, 3] (.c (.q 2 [] (.mv (.s []))) (.c (.q 3 [] (.mv (.c (.bool false)))) .nil))) .ret) .skip)
def t30_1 := b30_1
theorem u30_1 : vcK P t30_1 k e w = vcK P b30_1 k e w := rfl
abbrev b30_2 : X := (.seq (.reg [2, 3] (.c (.q 7 [] (.mv (.t 0))) (.c (.e (some 8) [] (.call false 168 [(.t 7)])) (.c (.q 2 [] (.mv (.t 8))) (.c (.q 3 [] (.mv (.c (.bool true)))) .nil))))) .ret)
def t30_2 := b30_2
theorem u30_2 : vcK P t30_2 k e w = vcK P b30_2 k e w := rfl
abbrev b30_3 : X := (.seq (.seq (.reg [0, 6] (.c (.q 4 [] (.mv (.t 0))) (.c (.e (some 5) [] (.call false 82 [(.t 4)])) (.c (.q 6 [] (.not (.t 5))) .nil)))) t30_1) t30_2)
def t30_3 := b30_3
theorem u30_3 : vcK P t30_3 k e w = vcK P b30_3 k e w := rfl
abbrev b30_0 : X := (.seq (.reg [0] (.c (.q 2 [] (.mv (.s []))) (.c (.q 3 [] (.mv (.c (.bool false)))) .nil))) t30_3)
def x_iReverseTouch := b30_0
theorem u30_0 : vcK P x_iReverseTouch k e w = vcK P b30_0 k e w := rfl
def r_iReverseTouch : List XO := [(.mv (.t 2)), (.mv (.t 3))]
theorem c_iReverseTouch : convF Try.prog [169, 170, 207, 208, 210, 227, 232, 233, 255, 259, 268, 269, 270, 280, 281, 296, 299, 306, 307, 309] Try.f30 [([0], []), ([0, 6], []), ([2, 3], []), ([2, 3], [])] = some (x_iReverseTouch, r_iReverseTouch) := by kernel_rfl
def us_iReverseTouch := aI @u30_0 (aI @u30_1 (aI @u30_2 @u30_3))
abbrev b231_1 : X := (.cond (.t 9) .skip (.exit 0))
def t231_1 := b231_1
theorem u231_1 : vcK P t231_1 k e w = vcK P b231_1 k e w := rfl
abbrev b231_2 : X := (.reg [0, 3, 4] (.c (.q 10 [] (.mv (.t 4))) (.c (.q 11 [] (.bin .sub (.t 10) (.c (.int .i64 1)))) (.c (.q 4 [] (.mv (.t 11))) .nil))))
def t231_2 := b231_2
theorem u231_2 : vcK P t231_2 k e w = vcK P b231_2 k e w := rfl
abbrev b231_3 : X := (.seq (.blk 1 (.reg [0, 3, 4] (.c (.q 12 [] (.mv (.t 3))) (.c (.q 13 [] (.mv (.t 0))) (.c (.q 14 [] (.mv (.t 4))) (.c (.q 15 [] (.mv (.t 4))) (.c (.q 16 [] (.bin .add (.t 15) (.c (.int .i64 1)))) (.c (.q 17 [] (.sub (.t 13) (some (.t 14)) (some (.t 16)))) (.c (.q 18 [] (.bin .add (.t 12) (.t 17))) (.c (.q 3 [] (.mv (.t 18))) .nil)))))))))) t231_2)
def t231_3 := b231_3
theorem u231_3 : vcK P t231_3 k e w = vcK P b231_3 k e w := rfl
abbrev b231_4 : X := (.seq (.seq (.reg [0, 3, 4, 9] (.c (.q 8 [] (.mv (.t 4))) (.c (.q 9 [] (.bin .geq (.t 8) (.c (.int .i64 0)))) .nil))) t231_1) t231_3)
def t231_4 := b231_4
theorem u231_4 : vcK P t231_4 k e w = vcK P b231_4 k e w := rfl
abbrev b231_5 : X := (.blk 0 (.loop [3, 4] [0] t231_4))
def t231_5 := b231_5
theorem u231_5 : vcK P t231_5 k e w = vcK P b231_5 k e w := rfl
abbrev b231_6 : X := (.seq (.reg [2] (.c (.q 19 [] (.mv (.t 3))) (.c (.q 20 [] (.mv (.t 0))) (.c (.q 21 [] (.mv (.t 0))) (.c (.q 22 [] (.len (.t 21))) (.c (.q 23 [] (.bin .sub (.t 22) (.c (.int .i64 1)))) (.c (.q 24 [] (.sub (.t 20) (some (.t 23)) none)) (.c (.q 25 [] (.bin .add (.t 19) (.t 24))) (.c (.q 2 [] (.mv (.t 25))) .nil))))))))) .ret)
def t231_6 := b231_6
theorem u231_6 : vcK P t231_6 k e w = vcK P b231_6 k e w := rfl
abbrev b231_7 : X := (.seq (.seq (.reg [0, 3, 4] (.c (.q 5 [] (.mv (.t 0))) (.c (.q 6 [] (.len (.t 5))) (.c (.q 7 [] (.bin .sub (.t 6) (.c (.int .i64 2)))) (.c (.q 4 [] (.mv (.t 7))) .nil))))) t231_5) t231_6)
def t231_7 := b231_7
theorem u231_7 : vcK P t231_7 k e w = vcK P b231_7 k e w := rfl
abbrev b231_8 : X := (.seq (.reg [0, 3] (.c (.q 3 [] (.mv (.s []))) .nil)) t231_7)
def t231_8 := b231_8
theorem u231_8 : vcK P t231_8 k e w = vcK P b231_8 k e w := rfl
abbrev b231_0 : X := (.seq (.reg [0] (.c (.q 2 [] (.mv (.s []))) .nil)) t231_8)
def x_sl9Reverse := b231_0
theorem u231_0 : vcK P x_sl9Reverse k e w = vcK P b231_0 k e w := rfl
def r_sl9Reverse : List XO := [(.mv (.t 2))]
theorem c_sl9Reverse : convF Try.prog [169, 170, 207, 208, 210, 227, 232, 233, 255, 259, 268, 269, 270, 280, 281, 296, 299, 306, 307, 309] Try.f231 [([0], []), ([0, 3], []), ([0, 3, 4], []), ([3, 4], [0]), ([0, 3, 4, 9], []), ([0, 3, 4], []), ([0, 3, 4], []), ([2], [])] = some (x_sl9Reverse, r_sl9Reverse) := by kernel_rfl
def us_sl9Reverse := aI @u231_0 (aI @u231_1 (aI @u231_2 (aI @u231_3 (aI @u231_4 (aI @u231_5 (aI @u231_6 (aI @u231_7 @u231_8)))))))
abbrev b106_1 : X := (.cond (.t 6) (.seq (.reg [2, 3] (.c (.q 2 [] (.mv (.s []))) (.c (.q 3 [] (.mv (.c (.bool false)))) .nil))) .ret) .skip)
def t106_1 := b106_1
theorem u106_1 : vcK P t106_1 k e w = vcK P b106_1 k e w := rfl
abbrev b106_2 : X := (.seq (.reg [2, 3] (.c (.q 7 [] (.mv (.t 0))) (.c (.e (some 8) [] (.call false 231 [(.t 7)])) (.c (.q 2 [] (.mv (.t 8))) (.c (.q 3 [] (.mv (.c (.bool true)))) .nil))))) .ret)
def t106_2 := b106_2
theorem u106_2 : vcK P t106_2 k e w = vcK P b106_2 k e w := rfl
abbrev b106_3 : X := (.seq (.seq (.reg [0, 6] (.c (.q 4 [] (.mv (.t 0))) (.c (.e (some 5) [] (.call false 218 [(.t 4)])) (.c (.q 6 [] (.not (.t 5))) .nil)))) t106_1) t106_2)
def t106_3 := b106_3
theorem u106_3 : vcK P t106_3 k e w = vcK P b106_3 k e w := rfl
abbrev b106_0 : X := (.seq (.reg [0] (.c (.q 2 [] (.mv (.s []))) (.c (.q 3 [] (.mv (.c (.bool false)))) .nil))) t106_3)
def x_sReverseTouch := b106_0
theorem u106_0 : vcK P x_sReverseTouch k e w = vcK P b106_0 k e w := rfl
def r_sReverseTouch : List XO := [(.mv (.t 2)), (.mv (.t 3))]
theorem c_sReverseTouch : convF Try.prog [169, 170, 207, 208, 210, 227, 232, 233, 255, 259, 268, 269, 270, 280, 281, 296, 299, 306, 307, 309] Try.f106 [([0], []), ([0, 6], []), ([2, 3], []), ([2, 3], [])] = some (x_sReverseTouch, r_sReverseTouch) := by kernel_rfl
def us_sReverseTouch := aI @u106_0 (aI @u106_1 (aI @u106_2 @u106_3))
end

theorem pal_take {cs : List (List UInt8)} {n : Nat} (hn : n ≤ cs.length) : IsPal (cs.take n) ↔ ∀ i < n, cs.getD i [] = cs.getD (n - 1 - i) [] := by
  have hl : (cs.take n).length = n := by rw [List.length_take]; omega
  have hg : ∀ i < n, (cs.take n).getD i [] = cs.getD i [] := fun i hi => by rw [List.getD_eq_getElem?_getD, List.getElem?_take, if_pos hi, List.getD_eq_getElem?_getD]
  unfold IsPal
  rw [hl]
  exact ⟨fun h i hi => by have := h i hi; rwa [hg i hi, hg _ (by omega)] at this, fun h i hi => by rw [hg i hi, hg _ (by omega)]; exact h i hi⟩
theorem sl4Palindrome_ok (nm : List UInt8) (st : Int) (v : Value) (cs : List (List UInt8)) (hl : 1 ≤ cs.length ∧ cs.length ≤ 1000000000) (w : World) (h : Sq fS 1 w v cs) : Fn 167 [mV nm st v] w (fun r _ => r = .bool (decide (IsPal (cs.take (cs.length - 1))))) := by
  (refine callsV_of mix Try.func167 c_sl4Palindrome ?_; simp only [↓vsd, vsn, gW, qd, qv, ev, pick, argE, zipE, ne_eq, eq_self, forall_const, implies_true, if_true, if_false, reduceIte, reduceCtorEq, Nat.reduceEqDiff, Nat.reduceAdd, Nat.reduceLT, ↓us_sl4Palindrome, r_sl4Palindrome])
  refine m_al ?_
  rintro b1 w1 hb1 hblk1 hx1 hs1
  have h1 : Blk w1 b1 (fM nm st v) 41 := hblk1
  have hq1 := h.ext hx1
  have hI : ((cs.length : Nat) : Int) - 1 = ((cs.length - 1 : Nat) : Int) := by omega
  have hp := pal_take (cs := cs) (n := cs.length - 1) (by omega)
  simp only [↓vsd, vsn, gW, qd, qv, ev, pick, argE, zipE, ne_eq, eq_self, forall_const, implies_true, if_true, if_false, reduceIte, reduceCtorEq, Nat.reduceEqDiff, Nat.reduceAdd, Nat.reduceLT, ↓us_sl4Palindrome, r_sl4Palindrome, h1.facts, fMg, hq1.facts, hI]
  generalize hn : cs.length - 1 = n at *
  refine ⟨inR_i64 (by omega), m_upto n (fun k vs w' => vs = [.int .i64 k] ∧ (∀ i < k, cs.getD i [] = cs.getD (n - 1 - i) []) ∧ Ext w1 w') ⟨rfl, fun i hi => absurd hi (Nat.not_lt_zero i), Ext.refl _⟩ ?_⟩
  rintro k vs w2 hk ⟨rfl, hall, hx⟩
  have h2 := h1.ext hx
  have hq := hq1.ext hx
  have hx2 := hx1.trans hx
  by_cases hlt : k < n
  · have hltI : (k : Int) < n := by omega
    have hltJ : ¬ (n : Int) ≤ k := by omega
    have hk1 : k < cs.length := by omega
    have hk2 : n - 1 - k < cs.length := by omega
    have e1 : (n : Int) - 1 - k = ((n - 1 - k : Nat) : Int) := by omega
    simp only [↓vsd, vsn, gW, qd, qv, ev, pick, argE, zipE, ne_eq, eq_self, forall_const, implies_true, if_true, if_false, reduceIte, reduceCtorEq, Nat.reduceEqDiff, Nat.reduceAdd, Nat.reduceLT, ↓us_sl4Palindrome, r_sl4Palindrome, hltI, hltJ, h2.facts, fMg, hq.facts, hq.at1 [] hk1, e1, hq.at1 [] hk2]
    refine ⟨by omega, inR_i64 (by omega), inR_i64 (by omega), by omega, fun hne => ⟨hx2, ?_⟩, fun he => ⟨inR_i64 (by omega), UpTo.next hlt ⟨rfl, fun i hi => ?_, by first | exact hx | exact dr hx⟩⟩⟩
    · rw [decide_eq_false (fun hh => hne (hp.1 hh k hlt))]
    · rcases Nat.lt_succ_iff_lt_or_eq.1 hi with h | rfl
      · exact hall i h
      · exact he
  · obtain rfl : k = n := by omega
    have hltI : ¬ (k : Int) < k := by omega
    simp only [↓vsd, vsn, gW, qd, qv, ev, pick, argE, zipE, ne_eq, eq_self, forall_const, implies_true, if_true, if_false, reduceIte, reduceCtorEq, Nat.reduceEqDiff, Nat.reduceAdd, Nat.reduceLT, ↓us_sl4Palindrome, r_sl4Palindrome, hltI]
    exact ⟨hx2, by rw [decide_eq_true (hp.2 hall)]⟩
theorem sIsPalindrome_ok (nm : List UInt8) (st : Int) (v : Value) (cs : List (List UInt8)) (hnm : nm.length ≤ 1048576) (hs : ∀ c ∈ cs, c.length ≤ 1048576) (hl : cs.length ≤ 1000000000) (w : World) (h : Sq fS 1 w v cs) : Fn 29 [mV nm st v] w (fun r _ => r = .tuple ⟨[.bool (decide (IsMethod nm st cs ∧ IsPal (cs.take (cs.length - 1)))), .bool (decide (IsMethod nm st cs))]⟩) := by
  (refine callsV_of mix Try.func29 c_sIsPalindrome ?_; simp only [↓vsd, vsn, gW, qd, qv, ev, pick, argE, zipE, ne_eq, eq_self, forall_const, implies_true, if_true, if_false, reduceIte, reduceCtorEq, Nat.reduceEqDiff, Nat.reduceAdd, Nat.reduceLT, ↓us_sIsPalindrome, r_sIsPalindrome])
  refine m_al ?_
  rintro b1 w1 hb1 hblk1 hx1 hs1
  have h1 : Blk w1 b1 (fM nm st v) 41 := hblk1
  simp only [↓vsd, vsn, gW, qd, qv, ev, pick, argE, zipE, ne_eq, eq_self, forall_const, implies_true, if_true, if_false, reduceIte, reduceCtorEq, Nat.reduceEqDiff, Nat.reduceAdd, Nat.reduceLT, ↓us_sIsPalindrome, r_sIsPalindrome, h1.facts, fMg]
  refine m_call (sl4Good_ok nm st v cs hnm hs hl _ (h.ext hx1)) ?_
  rintro _ w2 hx2 rfl
  have hx12 := hx1.trans hx2
  have h2 := h1.ext hx2
  by_cases hm : IsMethod nm st cs
  · simp only [↓vsd, vsn, gW, qd, qv, ev, pick, argE, zipE, ne_eq, eq_self, forall_const, implies_true, if_true, if_false, reduceIte, reduceCtorEq, Nat.reduceEqDiff, Nat.reduceAdd, Nat.reduceLT, ↓us_sIsPalindrome, r_sIsPalindrome, hm, h2.facts, fMg]
    refine m_call (sl4Palindrome_ok nm st v cs ⟨hm.2.2.1.1, hl⟩ _ (h.ext hx12)) ?_
    rintro _ w3 hx3 rfl
    simp only [↓vsd, vsn, gW, qd, qv, ev, pick, argE, zipE, ne_eq, eq_self, forall_const, implies_true, if_true, if_false, reduceIte, reduceCtorEq, Nat.reduceEqDiff, Nat.reduceAdd, Nat.reduceLT, ↓us_sIsPalindrome, r_sIsPalindrome]
    exact hx12.trans hx3
  · simp only [↓vsd, vsn, gW, qd, qv, ev, pick, argE, zipE, ne_eq, eq_self, forall_const, implies_true, if_true, if_false, reduceIte, reduceCtorEq, Nat.reduceEqDiff, Nat.reduceAdd, Nat.reduceLT, ↓us_sIsPalindrome, r_sIsPalindrome, hm]
    exact hx12
/-- A touch with all calls but the last one reversed. -/
def backL (t : List UInt8) : List UInt8 := (t.take (t.length - 1)).reverse ++ t.drop (t.length - 1)
theorem backL_len (t : List UInt8) : (backL t).length = t.length := by
  unfold backL
  rw [List.length_append, List.length_reverse, List.length_take, List.length_drop]; omega
theorem rev_take_succ (t : List UInt8) (i : Nat) (h : i < t.length) : (t.take (i + 1)).reverse = t.getD i 0 :: (t.take i).reverse := by
  rw [List.take_add_one, List.getElem?_eq_getElem h, List.getD_eq_getElem?_getD, List.getElem?_eq_getElem h, List.reverse_append]
  rfl
theorem ibackwards_ok (t : List UInt8) (ht : 1 ≤ t.length ∧ t.length ≤ 1000000) (w : World) : Fn 168 [S t] w (fun r _ => r = S (backL t)) := by
  (refine callsV_of mix Try.func168 c_ibackwards ?_; simp only [↓vsd, vsn, gW, qd, qv, ev, pick, argE, zipE, ne_eq, eq_self, forall_const, implies_true, if_true, if_false, reduceIte, reduceCtorEq, Nat.reduceEqDiff, Nat.reduceAdd, Nat.reduceLT, ↓us_ibackwards, r_ibackwards])
  have hI : ((t.length : Nat) : Int) - 1 = ((t.length - 1 : Nat) : Int) := by omega
  simp only [↓vsd, vsn, gW, qd, qv, ev, pick, argE, zipE, ne_eq, eq_self, forall_const, implies_true, if_true, if_false, reduceIte, reduceCtorEq, Nat.reduceEqDiff, Nat.reduceAdd, Nat.reduceLT, ↓us_ibackwards, r_ibackwards, hI]
  refine ⟨inR_i64 (by omega), m_upto (t.length - 1) (fun i vs w' => vs = [S (t.take i).reverse, .int .i64 i] ∧ Ext w w') ⟨rfl, Ext.refl _⟩ ?_⟩
  rintro i vs w1 hi ⟨rfl, hx⟩
  have hil : (t.take i).reverse.length ≤ i := by rw [List.length_reverse, List.length_take]; omega
  by_cases hlt : i < t.length - 1
  · have hltI : (i : Int) < ((t.length - 1 : Nat) : Int) := by omega
    have hltJ : ¬ ((t.length - 1 : Nat) : Int) ≤ i := by omega
    have hs1 := sub_one t i (by omega)
    have hr := rev_take_succ t i (by omega)
    simp only [↓vsd, vsn, gW, qd, qv, ev, pick, argE, zipE, ne_eq, eq_self, forall_const, implies_true, if_true, if_false, reduceIte, reduceCtorEq, Nat.reduceEqDiff, Nat.reduceAdd, Nat.reduceLT, ↓us_ibackwards, r_ibackwards, hltI, hltJ]
    rw [hs1]
    exact ⟨inR_i64 (by omega), by omega, by simp only [List.length_cons, List.length_nil]; omega, inR_i64 (by omega), UpTo.next hlt ⟨by rw [hr]; rfl, hx⟩⟩
  · obtain rfl : i = t.length - 1 := by omega
    have hltI : ¬ ((t.length - 1 : Nat) : Int) < ((t.length - 1 : Nat) : Int) := by omega
    simp only [↓vsd, vsn, gW, qd, qv, ev, pick, argE, zipE, ne_eq, eq_self, forall_const, implies_true, if_true, if_false, reduceIte, reduceCtorEq, Nat.reduceEqDiff, Nat.reduceAdd, Nat.reduceLT, ↓us_ibackwards, r_ibackwards, hltI, hI]
    exact ⟨inR_i64 (by omega), by omega, by rw [List.length_drop]; omega, hx, rfl⟩
def revV (t : List UInt8) : Value := if IsTch t then .tuple ⟨[S (backL t), .bool true]⟩ else .tuple ⟨[S [], .bool false]⟩
theorem iReverseTouch_ok (t : List UInt8) (ht : t.length ≤ 1000000) (w : World) : Fn 30 [S t] w (fun r _ => r = revV t) := by
  (refine callsV_of mix Try.func30 c_iReverseTouch ?_; simp only [↓vsd, vsn, gW, qd, qv, ev, pick, argE, zipE, ne_eq, eq_self, forall_const, implies_true, if_true, if_false, reduceIte, reduceCtorEq, Nat.reduceEqDiff, Nat.reduceAdd, Nat.reduceLT, ↓us_iReverseTouch, r_iReverseTouch])
  refine m_call (iGoodTouch_okt t (by omega) _) ?_
  rintro _ w1 hx1 rfl
  by_cases hT : IsTch t
  · simp only [↓vsd, vsn, gW, qd, qv, ev, pick, argE, zipE, ne_eq, eq_self, forall_const, implies_true, if_true, if_false, reduceIte, reduceCtorEq, Nat.reduceEqDiff, Nat.reduceAdd, Nat.reduceLT, ↓us_iReverseTouch, r_iReverseTouch, hT]
    refine m_call (ibackwards_ok t ⟨hT.1.1, ht⟩ _) ?_
    rintro _ w2 hx2 rfl
    simp only [↓vsd, vsn, gW, qd, qv, ev, pick, argE, zipE, ne_eq, eq_self, forall_const, implies_true, if_true, if_false, reduceIte, reduceCtorEq, Nat.reduceEqDiff, Nat.reduceAdd, Nat.reduceLT, ↓us_iReverseTouch, r_iReverseTouch]
    exact ⟨hx1.trans hx2, by rw [revV, if_pos hT]⟩
  · simp only [↓vsd, vsn, gW, qd, qv, ev, pick, argE, zipE, ne_eq, eq_self, forall_const, implies_true, if_true, if_false, reduceIte, reduceCtorEq, Nat.reduceEqDiff, Nat.reduceAdd, Nat.reduceLT, ↓us_iReverseTouch, r_iReverseTouch, hT]
    exact ⟨hx1, by rw [revV, if_neg hT]⟩
theorem sl9Reverse_ok (t : List UInt8) (ht : 1 ≤ t.length ∧ t.length ≤ 1000000) (w : World) : Fn 231 [S t] w (fun r _ => r = S (backL t)) := by
  (refine callsV_of mix Try.func231 c_sl9Reverse ?_; simp only [↓vsd, vsn, gW, qd, qv, ev, pick, argE, zipE, ne_eq, eq_self, forall_const, implies_true, if_true, if_false, reduceIte, reduceCtorEq, Nat.reduceEqDiff, Nat.reduceAdd, Nat.reduceLT, ↓us_sl9Reverse, r_sl9Reverse])
  have hI2 : ((t.length : Nat) : Int) - 2 = ((t.length - 1 : Nat) : Int) - 1 := by omega
  have hI : ((t.length : Nat) : Int) - 1 = ((t.length - 1 : Nat) : Int) := by omega
  simp only [↓vsd, vsn, gW, qd, qv, ev, pick, argE, zipE, ne_eq, eq_self, forall_const, implies_true, if_true, if_false, reduceIte, reduceCtorEq, Nat.reduceEqDiff, Nat.reduceAdd, Nat.reduceLT, ↓us_sl9Reverse, r_sl9Reverse, hI2]
  refine ⟨inR_i64 (by omega), m_loop (fun m vs w' => vs = [S ((t.take (t.length - 1)).drop m).reverse, .int .i64 ((m : Int) - 1)] ∧ m ≤ t.length - 1 ∧ Ext w w') (t.length - 1) ⟨by rw [List.drop_of_length_le (by rw [List.length_take]; omega)]; rfl, Nat.le_refl _, Ext.refl _⟩ ?_⟩
  rintro m vs w1 ⟨rfl, hm, hx⟩
  have hml : ((t.take (t.length - 1)).drop m).reverse.length ≤ t.length := by rw [List.length_reverse, List.length_drop, List.length_take]; omega
  cases m with
  | zero =>
    have h0 : ¬ (0 : Int) ≤ ((0 : Nat) : Int) - 1 := by omega
    simp only [↓vsd, vsn, gW, qd, qv, ev, pick, argE, zipE, ne_eq, eq_self, forall_const, implies_true, if_true, if_false, reduceIte, reduceCtorEq, Nat.reduceEqDiff, Nat.reduceAdd, Nat.reduceLT, ↓us_sl9Reverse, r_sl9Reverse, h0, hI]
    exact ⟨inR_i64 (by omega), by omega, by rw [List.length_drop]; omega, hx, rfl⟩
  | succ m =>
    have h0 : (0 : Int) ≤ ((m + 1 : Nat) : Int) - 1 := by omega
    have e : ((m + 1 : Nat) : Int) - 1 = (m : Nat) := by omega
    have hs1 := sub_one t m (by omega)
    have hd : (t.take (t.length - 1)).drop m = t.getD m 0 :: (t.take (t.length - 1)).drop (m + 1) := by
      rw [List.drop_eq_getElem_cons (by rw [List.length_take]; omega), List.getD_eq_getElem?_getD, List.getElem?_eq_getElem (by omega), List.getElem_take]; rfl
    rw [e] at h0 ⊢
    simp only [↓vsd, vsn, gW, qd, qv, ev, pick, argE, zipE, ne_eq, eq_self, forall_const, implies_true, if_true, if_false, reduceIte, reduceCtorEq, Nat.reduceEqDiff, Nat.reduceAdd, Nat.reduceLT, ↓us_sl9Reverse, r_sl9Reverse, h0]
    rw [hs1]
    refine ⟨inR_i64 (by omega), by omega, by simp only [List.length_cons, List.length_nil]; omega, inR_i64 (by omega), m, by omega, ⟨?_, rfl⟩, by omega, hx⟩
    rw [hd, List.reverse_cons]
theorem sReverseTouch_ok (t : List UInt8) (ht : t.length ≤ 1000000) (w : World) : Fn 106 [S t] w (fun r _ => r = revV t) := by
  (refine callsV_of mix Try.func106 c_sReverseTouch ?_; simp only [↓vsd, vsn, gW, qd, qv, ev, pick, argE, zipE, ne_eq, eq_self, forall_const, implies_true, if_true, if_false, reduceIte, reduceCtorEq, Nat.reduceEqDiff, Nat.reduceAdd, Nat.reduceLT, ↓us_sReverseTouch, r_sReverseTouch])
  refine m_call (sl9Good_okt t (by omega) _) ?_
  rintro _ w1 hx1 rfl
  by_cases hT : IsTch t
  · simp only [↓vsd, vsn, gW, qd, qv, ev, pick, argE, zipE, ne_eq, eq_self, forall_const, implies_true, if_true, if_false, reduceIte, reduceCtorEq, Nat.reduceEqDiff, Nat.reduceAdd, Nat.reduceLT, ↓us_sReverseTouch, r_sReverseTouch, hT]
    refine m_call (sl9Reverse_ok t ⟨hT.1.1, ht⟩ _) ?_
    rintro _ w2 hx2 rfl
    simp only [↓vsd, vsn, gW, qd, qv, ev, pick, argE, zipE, ne_eq, eq_self, forall_const, implies_true, if_true, if_false, reduceIte, reduceCtorEq, Nat.reduceEqDiff, Nat.reduceAdd, Nat.reduceLT, ↓us_sReverseTouch, r_sReverseTouch]
    exact ⟨hx1.trans hx2, by rw [revV, if_pos hT]⟩
  · simp only [↓vsd, vsn, gW, qd, qv, ev, pick, argE, zipE, ne_eq, eq_self, forall_const, implies_true, if_true, if_false, reduceIte, reduceCtorEq, Nat.reduceEqDiff, Nat.reduceAdd, Nat.reduceLT, ↓us_sReverseTouch, r_sReverseTouch, hT]
    exact ⟨hx1, by rw [revV, if_neg hT]⟩
theorem tch_back {t : List UInt8} (h : IsTch t) : IsTch (backL t) := by
  refine ⟨by rw [backL_len]; exact h.1, fun c hc => h.2 c ?_⟩
  rcases List.mem_append.1 hc with hc | hc
  · exact List.mem_of_mem_take (List.mem_reverse.1 hc)
  · exact List.mem_of_mem_drop hc
theorem drop_one {t : List UInt8} (h : 1 ≤ t.length) : ∃ z, t.drop (t.length - 1) = [z] ∧ t = t.take (t.length - 1) ++ [z] := by
  have hl : (t.drop (t.length - 1)).length = 1 := by rw [List.length_drop]; omega
  obtain ⟨z, hz⟩ := List.length_eq_one_iff.1 hl
  exact ⟨z, hz, by rw [← hz, List.take_append_drop]⟩
theorem back_back {t : List UInt8} (h : 1 ≤ t.length) : backL (backL t) = t := by
  obtain ⟨z, hz, ht⟩ := drop_one h
  have hl : (t.take (t.length - 1)).length = t.length - 1 := by rw [List.length_take]; omega
  have e : backL t = (t.take (t.length - 1)).reverse ++ [z] := by rw [backL, hz]
  have e2 : (backL t).take (t.length - 1) = (t.take (t.length - 1)).reverse := by
    rw [e, List.take_left' (by rw [List.length_reverse, hl])]
  have e3 : (backL t).drop (t.length - 1) = [z] := by
    rw [e, List.drop_left' (by rw [List.length_reverse, hl])]
  rw [backL, backL_len, e2, e3, List.reverse_reverse, ← ht]
end Go.Proofs.Ytpnopboffalfnaa
