/-
  The law FnOrbits.
  Conditions: none.
-/
import Derived.Test.YthopbkemkfjebaaKA23
import Derived.Test.YthopbkemkfjebaaKA26
import Derived.Test.YthopbkemkfjebaaKA36
import Derived.Test.YthopbkemkfjebaaKA92
import Derived.Test.YthopbkemkfjebaaKA93
import Derived.Test.YthopbkemkfjebaaKD3
import Derived.Test.YthopbkemkfjebaaKD41
set_option linter.unusedSimpArgs false
set_option linter.unusedVariables false
set_option linter.defProp false
namespace Go.Proofs.Ythopbkemkfjebaa
open Go Go.RowKit
section
variable (P : Program) (k : KT) (e : Env) (w : World)
abbrev b9_1 : X := (.cond (.t 21) (.seq (.reg [2, 3] (.c (.q 23 [] (.mv (.t 5))) (.c (.q 24 [] (.mv (.t 6))) (.c (.q 25 [] (.bin .add (.t 24) (.c (.int .i64 1)))) (.c (.q 2 [] (.mv (.t 23))) (.c (.q 3 [] (.mv (.t 25))) .nil)))))) .ret) .skip)
def t9_1 := b9_1
theorem u9_1 : vcK P t9_1 k e w = vcK P b9_1 k e w := rfl
abbrev b9_2 : X := (.cond (.t 18) (.seq (.reg [2, 3] (.c (.q 20 [] (.mv (.t 6))) (.c (.q 2 [] (.mv (.c (.slice none 0 0)))) (.c (.q 3 [] (.mv (.t 20))) .nil)))) .ret) (.seq (.reg [5, 6, 21] (.c (.q 22 [] (.bin .eql (.t 17) (.c (.int .i64 1)))) (.c (.q 21 [] (.mv (.t 22))) .nil))) t9_1))
def t9_2 := b9_2
theorem u9_2 : vcK P t9_2 k e w = vcK P b9_2 k e w := rfl
abbrev b9_3 : X := (.blk 0 (.seq (.reg [5, 6, 17, 18] (.c (.q 19 [] (.bin .eql (.t 17) (.c (.int .i64 0)))) (.c (.q 18 [] (.mv (.t 19))) .nil))) t9_2))
def t9_3 := b9_3
theorem u9_3 : vcK P t9_3 k e w = vcK P b9_3 k e w := rfl
abbrev b9_4 : X := (.seq (.reg [2, 3] (.c (.q 26 [] (.mv (.t 5))) (.c (.q 27 [] (.mv (.t 6))) (.c (.q 2 [] (.mv (.t 26))) (.c (.q 3 [] (.mv (.t 27))) .nil))))) .ret)
def t9_4 := b9_4
theorem u9_4 : vcK P t9_4 k e w = vcK P b9_4 k e w := rfl
abbrev b9_5 : X := (.seq (.seq (.reg [5, 6, 17] (.c (.q 16 [] (.mv (.t 4))) (.c (.e (some 17) [] (.call true 55 [(.t 16), (.c (.int .i64 10))])) .nil))) t9_3) t9_4)
def t9_5 := b9_5
theorem u9_5 : vcK P t9_5 k e w = vcK P b9_5 k e w := rfl
abbrev b9_6 : X := (.seq (.reg [4, 5, 6] (.c (.q 12 [] (.mv (.t 5))) (.c (.q 13 [] (.ia 1 (.t 12) (.c (.int .i64 0)))) (.c (.q 14 [] (.ld (.t 13))) (.c (.q 15 [] (.len (.t 14))) (.c (.q 6 [] (.mv (.t 15))) .nil)))))) t9_5)
def t9_6 := b9_6
theorem u9_6 : vcK P t9_6 k e w = vcK P b9_6 k e w := rfl
abbrev b9_7 : X := (.seq (.reg [4, 5] (.c (.q 10 [] (.mv (.t 4))) (.c (.e (some 11) [] (.call true 54 [(.t 10)])) (.c (.q 5 [] (.mv (.t 11))) .nil)))) t9_6)
def t9_7 := b9_7
theorem u9_7 : vcK P t9_7 k e w = vcK P b9_7 k e w := rfl
abbrev b9_8 : X := (.seq (.reg [4] (.c (.q 7 [] (.mv (.t 0))) (.c (.q 8 [] (.bld [(.slice none 0 0), (.int .i64 0), (.int .u64 0)] [(0, 0, (.t 7))])) (.c (.e (some 9) [] (.box 80 (.t 8))) (.c (.q 4 [] (.mv (.t 9))) .nil))))) t9_7)
def t9_8 := b9_8
theorem u9_8 : vcK P t9_8 k e w = vcK P b9_8 k e w := rfl
abbrev b9_0 : X := (.seq (.reg [0] (.c (.q 2 [] (.mv (.c (.slice none 0 0)))) (.c (.q 3 [] (.mv (.c (.int .i64 0)))) .nil))) t9_8)
def x_sDrawOrbitsOf := b9_0
theorem u9_0 : vcK P x_sDrawOrbitsOf k e w = vcK P b9_0 k e w := rfl
def r_sDrawOrbitsOf : List XO := [(.mv (.t 2)), (.mv (.t 3))]
theorem c_sDrawOrbitsOf : convF Try.prog [54, 55, 58, 69, 70, 71, 72, 73, 84, 89, 94, 95, 113, 114, 115, 130, 134, 143, 146, 161] Try.f9 [([0], []), ([4], []), ([4, 5], []), ([4, 5, 6], []), ([5, 6, 17], []), ([5, 6, 17, 18], []), ([2, 3], []), ([5, 6, 21], []), ([2, 3], []), ([2, 3], [])] = some (x_sDrawOrbitsOf, r_sDrawOrbitsOf) := by kernel_rfl
def us_sDrawOrbitsOf :=  (aI (aI (aI @u9_0 @u9_1) (aI @u9_2 @u9_3)) (aI (aI @u9_4 @u9_5) (aI @u9_6 (aI @u9_7 @u9_8))))
abbrev b15_1 : X := (.seq (.reg [2] (.c (.q 3 [] (.mv (.t 0))) (.c (.e (some 4) [] (.call false 66 [(.t 3)])) (.c (.q 2 [] (.mv (.t 4))) .nil)))) .ret)
def t15_1 := b15_1
theorem u15_1 : vcK P t15_1 k e w = vcK P b15_1 k e w := rfl
abbrev b15_0 : X := (.seq (.reg [0] (.c (.q 2 [] (.mv (.c (.slice none 0 0)))) .nil)) t15_1)
def x_sDrawSortRows := b15_0
theorem u15_0 : vcK P x_sDrawSortRows k e w = vcK P b15_0 k e w := rfl
def r_sDrawSortRows : List XO := [(.mv (.t 2))]
theorem c_sDrawSortRows : convF Try.prog [54, 55, 58, 69, 70, 71, 72, 73, 84, 89, 94, 95, 113, 114, 115, 130, 134, 143, 146, 161] Try.f15 [([0], []), ([2], [])] = some (x_sDrawSortRows, r_sDrawSortRows) := by kernel_rfl
def us_sDrawSortRows :=  (aI @u15_0 @u15_1)
abbrev b18_1 : X := (.cond (.t 12) (.seq (.reg [2, 3] (.c (.q 13 [] (.mv (.t 4))) (.c (.e (some 14) [] (.call true 71 [(.t 13)])) (.c (.q 15 [] (.mv (.t 4))) (.c (.q 16 [] (.mv (.t 5))) (.c (.e (some 17) [] (.call true 72 [(.t 15), (.t 16), (.c (.int .i64 6))])) (.c (.q 2 [] (.mv (.t 14))) (.c (.q 3 [] (.mv (.t 17))) .nil)))))))) .ret) .skip)
def t18_1 := b18_1
theorem u18_1 : vcK P t18_1 k e w = vcK P b18_1 k e w := rfl
abbrev b18_2 : X := (.seq (.reg [2, 3] (.c (.q 18 [] (.mv (.t 4))) (.c (.q 19 [] (.mv (.t 5))) (.c (.e (some 20) [] (.call true 73 [(.t 18), (.t 19)])) (.c (.q 21 [] (.mv (.t 4))) (.c (.q 22 [] (.mv (.t 5))) (.c (.e (some 23) [] (.call true 72 [(.t 21), (.t 22), (.c (.int .i64 6))])) (.c (.q 2 [] (.mv (.t 20))) (.c (.q 3 [] (.mv (.t 23))) .nil))))))))) .ret)
def t18_2 := b18_2
theorem u18_2 : vcK P t18_2 k e w = vcK P b18_2 k e w := rfl
abbrev b18_3 : X := (.seq (.seq (.reg [4, 5, 12] (.c (.q 11 [] (.mv (.t 4))) (.c (.e (some 12) [] (.call true 70 [(.t 11), (.c (.int .i64 10))])) .nil))) t18_1) t18_2)
def t18_3 := b18_3
theorem u18_3 : vcK P t18_3 k e w = vcK P b18_3 k e w := rfl
abbrev b18_4 : X := (.seq (.reg [4, 5] (.c (.q 9 [] (.mv (.t 4))) (.c (.e (some 10) [] (.call true 69 [(.t 9)])) (.c (.q 5 [] (.mv (.t 10))) .nil)))) t18_3)
def t18_4 := b18_4
theorem u18_4 : vcK P t18_4 k e w = vcK P b18_4 k e w := rfl
abbrev b18_5 : X := (.seq (.reg [4] (.c (.q 6 [] (.mv (.t 0))) (.c (.q 7 [] (.bld [(.slice none 0 0), (.int .i64 0), (.int .u64 0)] [(0, 0, (.t 6))])) (.c (.e (some 8) [] (.box 80 (.t 7))) (.c (.q 4 [] (.mv (.t 8))) .nil))))) t18_4)
def t18_5 := b18_5
theorem u18_5 : vcK P t18_5 k e w = vcK P b18_5 k e w := rfl
abbrev b18_0 : X := (.seq (.reg [0] (.c (.q 2 [] (.mv (.s []))) (.c (.q 3 [] (.mv (.c (.slice none 0 0)))) .nil))) t18_5)
def x_sDrawLeftTimes := b18_0
theorem u18_0 : vcK P x_sDrawLeftTimes k e w = vcK P b18_0 k e w := rfl
def r_sDrawLeftTimes : List XO := [(.mv (.t 2)), (.mv (.t 3))]
theorem c_sDrawLeftTimes : convF Try.prog [54, 55, 58, 69, 70, 71, 72, 73, 84, 89, 94, 95, 113, 114, 115, 130, 134, 143, 146, 161] Try.f18 [([0], []), ([4], []), ([4, 5], []), ([4, 5, 12], []), ([2, 3], []), ([2, 3], [])] = some (x_sDrawLeftTimes, r_sDrawLeftTimes) := by kernel_rfl
def us_sDrawLeftTimes :=  (aI (aI @u18_0 (aI @u18_1 @u18_2)) (aI @u18_3 (aI @u18_4 @u18_5)))
abbrev b12_1 : X := (.cond (.t 10) (.seq (.reg [4] (.c (.q 4 [] (.mv (.c (.bool false)))) .nil)) .ret) .skip)
def t12_1 := b12_1
theorem u12_1 : vcK P t12_1 k e w = vcK P b12_1 k e w := rfl
abbrev b12_2 : X := (.cond (.t 25) (.seq (.reg [4] (.c (.q 4 [] (.mv (.c (.bool false)))) .nil)) .ret) .skip)
def t12_2 := b12_2
theorem u12_2 : vcK P t12_2 k e w = vcK P b12_2 k e w := rfl
abbrev b12_3 : X := (.seq (.drw [0, 1, 12, 13, 25] (.c (.q 16 [] (.mv (.t 0))) (.c (.q 17 [] (.mv (.t 5))) (.c (.q 18 [] (.ia 1 (.t 16) (.t 17))) (.c (.q 19 [] (.ld (.t 18))) (.c (.q 20 [] (.mv (.t 1))) (.c (.q 21 [] (.mv (.t 5))) (.c (.q 22 [] (.ia 1 (.t 20) (.t 21))) (.c (.q 23 [] (.ld (.t 22))) (.c (.e (some 24) [] (.call false 63 [(.t 19), (.t 23)])) (.c (.q 25 [] (.not (.t 24))) .nil))))))))))) t12_2)
def t12_3 := b12_3
theorem u12_3 : vcK P t12_3 k e w = vcK P b12_3 k e w := rfl
abbrev b12_4 : X := (.reg [0, 1, 12, 13] (.c (.q 26 [] (.bin .add (.t 13) (.c (.int .i64 1)))) (.c (.q 13 [] (.mv (.t 26))) .nil)))
def t12_4 := b12_4
theorem u12_4 : vcK P t12_4 k e w = vcK P b12_4 k e w := rfl
abbrev b12_5 : X := (.seq (.blk 1 (.seq (.reg [0, 1, 5, 12, 13] (.c (.q 15 [] (.mv (.t 13))) (.c (.q 5 [] (.mv (.t 15))) .nil))) t12_3)) t12_4)
def t12_5 := b12_5
theorem u12_5 : vcK P t12_5 k e w = vcK P b12_5 k e w := rfl
abbrev b12_6 : X := (.seq (.cond (.t 14) .skip (.exit 0)) t12_5)
def t12_6 := b12_6
theorem u12_6 : vcK P t12_6 k e w = vcK P b12_6 k e w := rfl
abbrev b12_7 : X := (.seq (.reg [0, 1, 12, 13, 14] (.c (.q 14 [] (.bin .lss (.t 13) (.t 12))) .nil)) t12_6)
def t12_7 := b12_7
theorem u12_7 : vcK P t12_7 k e w = vcK P b12_7 k e w := rfl
abbrev b12_8 : X := (.blk 0 (.loop [13] [0, 1, 12] t12_7))
def t12_8 := b12_8
theorem u12_8 : vcK P t12_8 k e w = vcK P b12_8 k e w := rfl
abbrev b12_9 : X := (.seq (.reg [4] (.c (.q 4 [] (.mv (.c (.bool true)))) .nil)) .ret)
def t12_9 := b12_9
theorem u12_9 : vcK P t12_9 k e w = vcK P b12_9 k e w := rfl
abbrev b12_10 : X := (.seq (.seq (.reg [0, 1, 12, 13] (.c (.q 11 [] (.mv (.t 0))) (.c (.q 12 [] (.lens (.t 11))) (.c (.q 13 [] (.mv (.c (.int .i64 0)))) .nil)))) t12_8) t12_9)
def t12_10 := b12_10
theorem u12_10 : vcK P t12_10 k e w = vcK P b12_10 k e w := rfl
abbrev b12_11 : X := (.seq (.seq (.reg [0, 1, 10] (.c (.q 6 [] (.mv (.t 0))) (.c (.q 7 [] (.lens (.t 6))) (.c (.q 8 [] (.mv (.t 1))) (.c (.q 9 [] (.lens (.t 8))) (.c (.q 10 [] (.bin .neq (.t 7) (.t 9))) .nil)))))) t12_1) t12_10)
def t12_11 := b12_11
theorem u12_11 : vcK P t12_11 k e w = vcK P b12_11 k e w := rfl
abbrev b12_0 : X := (.seq (.reg [0, 1] (.c (.q 4 [] (.mv (.c (.bool false)))) .nil)) t12_11)
def x_lsameLists := b12_0
theorem u12_0 : vcK P x_lsameLists k e w = vcK P b12_0 k e w := rfl
def r_lsameLists : List XO := [(.mv (.t 4))]
theorem c_lsameLists : convF Try.prog [54, 55, 58, 69, 70, 71, 72, 73, 84, 89, 94, 95, 113, 114, 115, 130, 134, 143, 146, 161] Try.f12 [([0, 1], []), ([0, 1, 10], []), ([4], []), ([0, 1, 12, 13], []), ([13], [0, 1, 12]), ([0, 1, 12, 13, 14], []), ([0, 1, 5, 12, 13], []), ([0, 1, 12, 13, 25], []), ([4], []), ([0, 1, 12, 13], []), ([4], [])] = some (x_lsameLists, r_lsameLists) := by kernel_rfl
def us_lsameLists :=  (aI (aI (aI @u12_0 (aI @u12_1 @u12_2)) (aI @u12_3 (aI @u12_4 @u12_5))) (aI (aI @u12_6 (aI @u12_7 @u12_8)) (aI @u12_9 (aI @u12_10 @u12_11))))
abbrev b3_1 : X := (.cond (.t 35) (.seq (.reg [4] (.c (.q 4 [] (.mv (.c (.bool true)))) .nil)) .ret) .skip)
def t3_1 := b3_1
theorem u3_1 : vcK P t3_1 k e w = vcK P b3_1 k e w := rfl
abbrev b3_2 : X := (.cond (.t 61) (.seq (.reg [4] (.c (.q 4 [] (.mv (.c (.bool false)))) .nil)) .ret) .skip)
def t3_2 := b3_2
theorem u3_2 : vcK P t3_2 k e w = vcK P b3_2 k e w := rfl
abbrev b3_3 : X := (.cond (.t 103) (.seq (.reg [4] (.c (.q 4 [] (.mv (.c (.bool false)))) .nil)) .ret) .skip)
def t3_3 := b3_3
theorem u3_3 : vcK P t3_3 k e w = vcK P b3_3 k e w := rfl
abbrev b3_4 : X := (.seq (.reg [1, 5, 6, 7, 11, 13, 15, 63, 64, 65, 73, 74, 75, 79, 80, 81, 103] (.c (.q 85 [] (.mv (.t 17))) (.c (.q 86 [] (.bin .lss (.t 85) (.c (.int .i64 1)))) (.c (.q 87 [] (.mv (.t 86))) (.c (.q 88 [(87, false)] (.mv (.t 17))) (.c (.q 89 [(87, false)] (.mv (.t 15))) (.c (.q 90 [(87, false)] (.len (.t 89))) (.c (.q 91 [(87, false)] (.bin .gtr (.t 88) (.t 90))) (.c (.q 92 [] (.pick (.t 87) (.c (.bool true)) (.t 91))) (.c (.q 93 [] (.mv (.t 92))) (.c (.q 94 [(93, false)] (.mv (.t 13))) (.c (.q 95 [(93, false)] (.mv (.t 15))) (.c (.q 96 [(93, false)] (.mv (.t 17))) (.c (.q 97 [(93, false)] (.bin .sub (.t 96) (.c (.int .i64 1)))) (.c (.q 98 [(93, false)] (.idx (.t 95) (.t 97))) (.c (.q 99 [(93, false)] (.bin .sub (.t 98) (.c (.int .u8 48)))) (.c (.q 100 [(93, false)] (.cvi .i64 (.t 99))) (.c (.e (some 101) [(93, false)] (.call false 13 [(.t 94), (.t 100)])) (.c (.q 102 [(93, false)] (.not (.t 101))) (.c (.q 103 [] (.pick (.t 93) (.c (.bool true)) (.t 102))) .nil)))))))))))))))))))) t3_3)
def t3_4 := b3_4
theorem u3_4 : vcK P t3_4 k e w = vcK P b3_4 k e w := rfl
abbrev b3_5 : X := (.reg [1, 5, 6, 7, 11, 13, 15, 63, 64, 65, 73, 74, 75, 79, 80, 81] (.c (.q 104 [] (.bin .add (.t 81) (.c (.int .i64 1)))) (.c (.q 81 [] (.mv (.t 104))) .nil)))
def t3_5 := b3_5
theorem u3_5 : vcK P t3_5 k e w = vcK P b3_5 k e w := rfl
abbrev b3_6 : X := (.seq (.blk 5 (.seq (.reg [1, 5, 6, 7, 11, 13, 15, 17, 63, 64, 65, 73, 74, 75, 79, 80, 81] (.c (.q 83 [] (.ia 1 (.t 79) (.t 81))) (.c (.q 84 [] (.ld (.t 83))) (.c (.q 17 [] (.mv (.t 84))) .nil)))) t3_4)) t3_5)
def t3_6 := b3_6
theorem u3_6 : vcK P t3_6 k e w = vcK P b3_6 k e w := rfl
abbrev b3_7 : X := (.seq (.cond (.t 82) .skip (.exit 4)) t3_6)
def t3_7 := b3_7
theorem u3_7 : vcK P t3_7 k e w = vcK P b3_7 k e w := rfl
abbrev b3_8 : X := (.seq (.reg [1, 5, 6, 7, 11, 13, 15, 63, 64, 65, 73, 74, 75, 79, 80, 81, 82] (.c (.q 82 [] (.bin .lss (.t 81) (.t 80))) .nil)) t3_7)
def t3_8 := b3_8
theorem u3_8 : vcK P t3_8 k e w = vcK P b3_8 k e w := rfl
abbrev b3_9 : X := (.blk 4 (.loop [81] [1, 5, 6, 7, 11, 13, 15, 63, 64, 65, 73, 74, 75, 79, 80] t3_8))
def t3_9 := b3_9
theorem u3_9 : vcK P t3_9 k e w = vcK P b3_9 k e w := rfl
abbrev b3_10 : X := (.seq (.reg [1, 5, 6, 7, 11, 13, 15, 63, 64, 65, 73, 74, 75, 79, 80, 81] (.c (.q 79 [] (.mv (.t 13))) (.c (.q 80 [] (.lens (.t 79))) (.c (.q 81 [] (.mv (.c (.int .i64 0)))) .nil)))) t3_9)
def t3_10 := b3_10
theorem u3_10 : vcK P t3_10 k e w = vcK P b3_10 k e w := rfl
abbrev b3_11 : X := (.reg [1, 5, 6, 7, 11, 13, 63, 64, 65, 73, 74, 75] (.c (.q 105 [] (.bin .add (.t 75) (.c (.int .i64 1)))) (.c (.q 75 [] (.mv (.t 105))) .nil)))
def t3_11 := b3_11
theorem u3_11 : vcK P t3_11 k e w = vcK P b3_11 k e w := rfl
abbrev b3_12 : X := (.seq (.blk 3 (.seq (.reg [1, 5, 6, 7, 11, 13, 15, 63, 64, 65, 73, 74, 75] (.c (.q 77 [] (.ia 1 (.t 73) (.t 75))) (.c (.q 78 [] (.ld (.t 77))) (.c (.q 15 [] (.mv (.t 78))) .nil)))) t3_10)) t3_11)
def t3_12 := b3_12
theorem u3_12 : vcK P t3_12 k e w = vcK P b3_12 k e w := rfl
abbrev b3_13 : X := (.seq (.cond (.t 76) .skip (.exit 2)) t3_12)
def t3_13 := b3_13
theorem u3_13 : vcK P t3_13 k e w = vcK P b3_13 k e w := rfl
abbrev b3_14 : X := (.seq (.reg [1, 5, 6, 7, 11, 13, 63, 64, 65, 73, 74, 75, 76] (.c (.q 76 [] (.bin .lss (.t 75) (.t 74))) .nil)) t3_13)
def t3_14 := b3_14
theorem u3_14 : vcK P t3_14 k e w = vcK P b3_14 k e w := rfl
abbrev b3_15 : X := (.blk 2 (.loop [75] [1, 5, 6, 7, 11, 13, 63, 64, 65, 73, 74] t3_14))
def t3_15 := b3_15
theorem u3_15 : vcK P t3_15 k e w = vcK P b3_15 k e w := rfl
abbrev b3_16 : X := (.seq (.reg [1, 5, 6, 7, 11, 13, 63, 64, 65, 73, 74, 75] (.c (.q 73 [] (.mv (.t 5))) (.c (.q 74 [] (.lens (.t 73))) (.c (.q 75 [] (.mv (.c (.int .i64 0)))) .nil)))) t3_15)
def t3_16 := b3_16
theorem u3_16 : vcK P t3_16 k e w = vcK P b3_16 k e w := rfl
abbrev b3_17 : X := (.seq (.reg [1, 5, 6, 7, 11, 13, 63, 64, 65] (.c (.q 69 [] (.mv (.t 11))) (.c (.q 70 [] (.mv (.t 13))) (.c (.q 71 [] (.lens (.t 70))) (.c (.q 72 [] (.bin .add (.t 69) (.t 71))) (.c (.q 11 [] (.mv (.t 72))) .nil)))))) t3_16)
def t3_17 := b3_17
theorem u3_17 : vcK P t3_17 k e w = vcK P b3_17 k e w := rfl
abbrev b3_18 : X := (.reg [1, 5, 6, 7, 11, 63, 64, 65] (.c (.q 106 [] (.bin .add (.t 65) (.c (.int .i64 1)))) (.c (.q 65 [] (.mv (.t 106))) .nil)))
def t3_18 := b3_18
theorem u3_18 : vcK P t3_18 k e w = vcK P b3_18 k e w := rfl
abbrev b3_19 : X := (.seq (.blk 1 (.seq (.reg [1, 5, 6, 7, 11, 13, 63, 64, 65] (.c (.q 67 [] (.ia 1 (.t 63) (.t 65))) (.c (.q 68 [] (.ld (.t 67))) (.c (.q 13 [] (.mv (.t 68))) .nil)))) t3_17)) t3_18)
def t3_19 := b3_19
theorem u3_19 : vcK P t3_19 k e w = vcK P b3_19 k e w := rfl
abbrev b3_20 : X := (.seq (.cond (.t 66) .skip (.exit 0)) t3_19)
def t3_20 := b3_20
theorem u3_20 : vcK P t3_20 k e w = vcK P b3_20 k e w := rfl
abbrev b3_21 : X := (.seq (.reg [1, 5, 6, 7, 11, 63, 64, 65, 66] (.c (.q 66 [] (.bin .lss (.t 65) (.t 64))) .nil)) t3_20)
def t3_21 := b3_21
theorem u3_21 : vcK P t3_21 k e w = vcK P b3_21 k e w := rfl
abbrev b3_22 : X := (.blk 0 (.loop [11, 65] [1, 5, 6, 7, 63, 64] t3_21))
def t3_22 := b3_22
theorem u3_22 : vcK P t3_22 k e w = vcK P b3_22 k e w := rfl
abbrev b3_23 : X := (.cond (.t 109) (.seq (.reg [4] (.c (.q 4 [] (.mv (.c (.bool false)))) .nil)) .ret) .skip)
def t3_23 := b3_23
theorem u3_23 : vcK P t3_23 k e w = vcK P b3_23 k e w := rfl
abbrev b3_24 : X := (.cond (.t 129) (.seq (.reg [4] (.c (.q 4 [] (.mv (.c (.bool false)))) .nil)) .ret) .skip)
def t3_24 := b3_24
theorem u3_24 : vcK P t3_24 k e w = vcK P b3_24 k e w := rfl
abbrev b3_25 : X := (.seq (.reg [1, 18, 19, 115, 116, 117, 129] (.c (.q 121 [] (.mv (.t 19))) (.c (.q 122 [] (.mv (.t 121))) (.c (.q 123 [(122, true)] (.mv (.t 18))) (.c (.q 124 [(122, true)] (.lens (.t 123))) (.c (.q 125 [(122, true)] (.mv (.t 21))) (.c (.q 126 [(122, true)] (.lens (.t 125))) (.c (.q 127 [(122, true)] (.bin .rem (.t 124) (.t 126))) (.c (.q 128 [(122, true)] (.bin .neq (.t 127) (.c (.int .i64 0)))) (.c (.q 129 [] (.pick (.t 122) (.t 128) (.c (.bool false)))) .nil)))))))))) t3_24)
def t3_25 := b3_25
theorem u3_25 : vcK P t3_25 k e w = vcK P b3_25 k e w := rfl
abbrev b3_26 : X := (.reg [1, 18, 19, 115, 116, 117] (.c (.q 130 [] (.bin .add (.t 117) (.c (.int .i64 1)))) (.c (.q 117 [] (.mv (.t 130))) .nil)))
def t3_26 := b3_26
theorem u3_26 : vcK P t3_26 k e w = vcK P b3_26 k e w := rfl
abbrev b3_27 : X := (.seq (.blk 7 (.seq (.reg [1, 18, 19, 21, 115, 116, 117] (.c (.q 119 [] (.ia 1 (.t 115) (.t 117))) (.c (.q 120 [] (.ld (.t 119))) (.c (.q 21 [] (.mv (.t 120))) .nil)))) t3_25)) t3_26)
def t3_27 := b3_27
theorem u3_27 : vcK P t3_27 k e w = vcK P b3_27 k e w := rfl
abbrev b3_28 : X := (.seq (.cond (.t 118) .skip (.exit 6)) t3_27)
def t3_28 := b3_28
theorem u3_28 : vcK P t3_28 k e w = vcK P b3_28 k e w := rfl
abbrev b3_29 : X := (.seq (.reg [1, 18, 19, 115, 116, 117, 118] (.c (.q 118 [] (.bin .lss (.t 117) (.t 116))) .nil)) t3_28)
def t3_29 := b3_29
theorem u3_29 : vcK P t3_29 k e w = vcK P b3_29 k e w := rfl
abbrev b3_30 : X := (.blk 6 (.loop [117] [1, 18, 19, 115, 116] t3_29))
def t3_30 := b3_30
theorem u3_30 : vcK P t3_30 k e w = vcK P b3_30 k e w := rfl
abbrev b3_31 : X := (.seq (.reg [1, 18, 19, 115, 116, 117] (.c (.q 115 [] (.mv (.t 7))) (.c (.q 116 [] (.lens (.t 115))) (.c (.q 117 [] (.mv (.c (.int .i64 0)))) .nil)))) t3_30)
def t3_31 := b3_31
theorem u3_31 : vcK P t3_31 k e w = vcK P b3_31 k e w := rfl
abbrev b3_32 : X := (.seq (.reg [1, 7, 18, 19] (.c (.q 111 [] (.mv (.t 5))) (.c (.e (some 112) [] (.call false 14 [(.t 111)])) (.c (.q 110 [] (.mv (.t 112))) (.c (.q 113 [] (.ext 0 (.t 110))) (.c (.q 114 [] (.ext 1 (.t 110))) (.c (.q 18 [] (.mv (.t 113))) (.c (.q 19 [] (.mv (.t 114))) .nil)))))))) t3_31)
def t3_32 := b3_32
theorem u3_32 : vcK P t3_32 k e w = vcK P b3_32 k e w := rfl
abbrev b3_33 : X := (.seq (.seq (.reg [1, 5, 7, 109] (.c (.q 107 [] (.mv (.t 11))) (.c (.q 108 [] (.mv (.t 6))) (.c (.q 109 [] (.bin .neq (.t 107) (.t 108))) .nil)))) t3_23) t3_32)
def t3_33 := b3_33
theorem u3_33 : vcK P t3_33 k e w = vcK P b3_33 k e w := rfl
abbrev b3_34 : X := (.seq (.seq (.reg [1, 5, 6, 7, 11, 63, 64, 65] (.c (.q 63 [] (.mv (.t 7))) (.c (.q 64 [] (.lens (.t 63))) (.c (.q 65 [] (.mv (.c (.int .i64 0)))) .nil)))) t3_22) t3_33)
def t3_34 := b3_34
theorem u3_34 : vcK P t3_34 k e w = vcK P b3_34 k e w := rfl
abbrev b3_35 : X := (.cond (.t 62) (.seq (.reg [1, 5, 6, 7, 11] (.c (.q 11 [] (.mv (.c (.int .i64 0)))) .nil)) t3_34) .skip)
def t3_35 := b3_35
theorem u3_35 : vcK P t3_35 k e w = vcK P b3_35 k e w := rfl
abbrev b3_36 : X := (.seq (.reg [4] (.c (.q 160 [] (.mv (.t 24))) (.c (.q 161 [] (.mv (.t 26))) (.c (.q 162 [] (.beq false (.t 160) (.t 161))) (.c (.q 163 [] (.mv (.t 162))) (.c (.q 164 [(163, true)] (.mv (.t 23))) (.c (.q 165 [(163, true)] (.mv (.t 25))) (.c (.e (some 166) [(163, true)] (.call false 21 [(.t 164), (.t 165)])) (.c (.q 167 [] (.pick (.t 163) (.t 166) (.c (.bool false)))) (.c (.q 168 [] (.mv (.t 167))) (.c (.q 169 [(168, true)] (.mv (.t 30))) (.c (.q 170 [(168, true)] (.mv (.t 32))) (.c (.q 171 [(168, true)] (.beq false (.t 169) (.t 170))) (.c (.q 172 [] (.pick (.t 168) (.t 171) (.c (.bool false)))) (.c (.q 173 [] (.mv (.t 172))) (.c (.q 174 [(173, true)] (.mv (.t 29))) (.c (.q 175 [(173, true)] (.mv (.t 31))) (.c (.e (some 176) [(173, true)] (.call false 21 [(.t 174), (.t 175)])) (.c (.q 177 [] (.pick (.t 173) (.t 176) (.c (.bool false)))) (.c (.q 4 [] (.mv (.t 177))) .nil)))))))))))))))))))) .ret)
def t3_36 := b3_36
theorem u3_36 : vcK P t3_36 k e w = vcK P b3_36 k e w := rfl
abbrev b3_37 : X := (.seq (.reg [23, 24, 25, 26, 29, 30, 31, 32] (.c (.q 155 [] (.mv (.t 27))) (.c (.q 156 [] (.mv (.t 28))) (.c (.e (some 157) [] (.call false 20 [(.t 155), (.t 156)])) (.c (.q 154 [] (.mv (.t 157))) (.c (.q 158 [] (.ext 0 (.t 154))) (.c (.q 159 [] (.ext 1 (.t 154))) (.c (.q 31 [] (.mv (.t 158))) (.c (.q 32 [] (.mv (.t 159))) .nil))))))))) t3_36)
def t3_37 := b3_37
theorem u3_37 : vcK P t3_37 k e w = vcK P b3_37 k e w := rfl
abbrev b3_38 : X := (.seq (.reg [23, 24, 25, 26, 27, 28, 29, 30] (.c (.q 149 [] (.mv (.t 27))) (.c (.q 150 [] (.mv (.t 28))) (.c (.e (some 151) [] (.call false 19 [(.t 149), (.t 150)])) (.c (.q 148 [] (.mv (.t 151))) (.c (.q 152 [] (.ext 0 (.t 148))) (.c (.q 153 [] (.ext 1 (.t 148))) (.c (.q 29 [] (.mv (.t 152))) (.c (.q 30 [] (.mv (.t 153))) .nil))))))))) t3_37)
def t3_38 := b3_38
theorem u3_38 : vcK P t3_38 k e w = vcK P b3_38 k e w := rfl
abbrev b3_39 : X := (.seq (.reg [23, 24, 25, 26, 27, 28] (.c (.q 144 [] (.mv (.t 1))) (.c (.e (some 145) [] (.call false 18 [(.t 144)])) (.c (.q 143 [] (.mv (.t 145))) (.c (.q 146 [] (.ext 0 (.t 143))) (.c (.q 147 [] (.ext 1 (.t 143))) (.c (.q 27 [] (.mv (.t 146))) (.c (.q 28 [] (.mv (.t 147))) .nil)))))))) t3_38)
def t3_39 := b3_39
theorem u3_39 : vcK P t3_39 k e w = vcK P b3_39 k e w := rfl
abbrev b3_40 : X := (.seq (.reg [1, 23, 24, 25, 26] (.c (.q 139 [] (.mv (.t 22))) (.c (.e (some 140) [] (.call false 17 [(.t 139)])) (.c (.q 138 [] (.mv (.t 140))) (.c (.q 141 [] (.ext 0 (.t 138))) (.c (.q 142 [] (.ext 1 (.t 138))) (.c (.q 25 [] (.mv (.t 141))) (.c (.q 26 [] (.mv (.t 142))) .nil)))))))) t3_39)
def t3_40 := b3_40
theorem u3_40 : vcK P t3_40 k e w = vcK P b3_40 k e w := rfl
abbrev b3_41 : X := (.seq (.reg [1, 22, 23, 24] (.c (.q 134 [] (.mv (.t 22))) (.c (.e (some 135) [] (.call false 16 [(.t 134)])) (.c (.q 133 [] (.mv (.t 135))) (.c (.q 136 [] (.ext 0 (.t 133))) (.c (.q 137 [] (.ext 1 (.t 133))) (.c (.q 23 [] (.mv (.t 136))) (.c (.q 24 [] (.mv (.t 137))) .nil)))))))) t3_40)
def t3_41 := b3_41
theorem u3_41 : vcK P t3_41 k e w = vcK P b3_41 k e w := rfl
abbrev b3_42 : X := (.seq (.reg [1, 22] (.c (.q 131 [] (.mv (.t 1))) (.c (.e (some 132) [] (.call false 15 [(.t 131)])) (.c (.q 22 [] (.mv (.t 132))) .nil)))) t3_41)
def t3_42 := b3_42
theorem u3_42 : vcK P t3_42 k e w = vcK P b3_42 k e w := rfl
abbrev b3_43 : X := (.seq (.seq (.reg [1, 5, 6, 7, 62] (.c (.q 62 [] (.mv (.t 8))) .nil)) t3_35) t3_42)
def t3_43 := b3_43
theorem u3_43 : vcK P t3_43 k e w = vcK P b3_43 k e w := rfl
abbrev b3_44 : X := (.seq (.seq (.reg [1, 5, 6, 7, 8, 61] (.c (.q 53 [] (.mv (.t 8))) (.c (.q 54 [] (.mv (.t 10))) (.c (.q 55 [] (.beq true (.t 53) (.t 54))) (.c (.q 56 [] (.mv (.t 55))) (.c (.q 57 [(56, false)] (.mv (.t 7))) (.c (.q 58 [(56, false)] (.mv (.t 9))) (.c (.e (some 59) [(56, false)] (.call false 12 [(.t 57), (.t 58)])) (.c (.q 60 [(56, false)] (.not (.t 59))) (.c (.q 61 [] (.pick (.t 56) (.c (.bool true)) (.t 60))) .nil)))))))))) t3_2) t3_43)
def t3_44 := b3_44
theorem u3_44 : vcK P t3_44 k e w = vcK P b3_44 k e w := rfl
abbrev b3_45 : X := (.seq (.reg [1, 5, 6, 7, 8, 9, 10] (.c (.q 48 [] (.mv (.t 5))) (.c (.q 49 [] (.mv (.t 6))) (.c (.e (some 50) [] (.call false 11 [(.t 48), (.t 49)])) (.c (.q 47 [] (.mv (.t 50))) (.c (.q 51 [] (.ext 0 (.t 47))) (.c (.q 52 [] (.ext 1 (.t 47))) (.c (.q 9 [] (.mv (.t 51))) (.c (.q 10 [] (.mv (.t 52))) .nil))))))))) t3_44)
def t3_45 := b3_45
theorem u3_45 : vcK P t3_45 k e w = vcK P b3_45 k e w := rfl
abbrev b3_46 : X := (.seq (.reg [1, 5, 6, 7, 8] (.c (.q 42 [] (.mv (.t 5))) (.c (.q 43 [] (.mv (.t 6))) (.c (.e (some 44) [] (.call false 10 [(.t 42), (.t 43)])) (.c (.q 41 [] (.mv (.t 44))) (.c (.q 45 [] (.ext 0 (.t 41))) (.c (.q 46 [] (.ext 1 (.t 41))) (.c (.q 7 [] (.mv (.t 45))) (.c (.q 8 [] (.mv (.t 46))) .nil))))))))) t3_45)
def t3_46 := b3_46
theorem u3_46 : vcK P t3_46 k e w = vcK P b3_46 k e w := rfl
abbrev b3_47 : X := (.seq (.reg [1, 5, 6] (.c (.q 37 [] (.mv (.t 0))) (.c (.e (some 38) [] (.call false 9 [(.t 37)])) (.c (.q 36 [] (.mv (.t 38))) (.c (.q 39 [] (.ext 0 (.t 36))) (.c (.q 40 [] (.ext 1 (.t 36))) (.c (.q 5 [] (.mv (.t 39))) (.c (.q 6 [] (.mv (.t 40))) .nil)))))))) t3_46)
def t3_47 := b3_47
theorem u3_47 : vcK P t3_47 k e w = vcK P b3_47 k e w := rfl
abbrev b3_48 : X := (.seq (.seq (.reg [0, 1, 35] (.c (.q 33 [] (.mv (.t 0))) (.c (.q 34 [] (.mv (.t 1))) (.c (.e (some 35) [] (.call false 8 [(.t 33), (.t 34)])) .nil)))) t3_1) t3_47)
def t3_48 := b3_48
theorem u3_48 : vcK P t3_48 k e w = vcK P b3_48 k e w := rfl
abbrev b3_0 : X := (.seq (.reg [0, 1] (.c (.q 4 [] (.mv (.c (.bool false)))) .nil)) t3_48)
def x_lFnOrbits := b3_0
theorem u3_0 : vcK P x_lFnOrbits k e w = vcK P b3_0 k e w := rfl
def r_lFnOrbits : List XO := [(.mv (.t 4))]
theorem c_lFnOrbits : convF Try.prog [54, 55, 58, 69, 70, 71, 72, 73, 84, 89, 94, 95, 113, 114, 115, 130, 134, 143, 146, 161] Try.f3 [([0, 1], []), ([0, 1, 35], []), ([4], []), ([1, 5, 6], []), ([1, 5, 6, 7, 8], []), ([1, 5, 6, 7, 8, 9, 10], []), ([1, 5, 6, 7, 8, 61], []), ([4], []), ([1, 5, 6, 7, 62], []), ([1, 5, 6, 7, 11], []), ([1, 5, 6, 7, 11, 63, 64, 65], []), ([11, 65], [1, 5, 6, 7, 63, 64]), ([1, 5, 6, 7, 11, 63, 64, 65, 66], []), ([1, 5, 6, 7, 11, 13, 63, 64, 65], []), ([1, 5, 6, 7, 11, 13, 63, 64, 65], []), ([1, 5, 6, 7, 11, 13, 63, 64, 65, 73, 74, 75], []), ([75], [1, 5, 6, 7, 11, 13, 63, 64, 65, 73, 74]), ([1, 5, 6, 7, 11, 13, 63, 64, 65, 73, 74, 75, 76], []), ([1, 5, 6, 7, 11, 13, 15, 63, 64, 65, 73, 74, 75], []), ([1, 5, 6, 7, 11, 13, 15, 63, 64, 65, 73, 74, 75, 79, 80, 81], []), ([81], [1, 5, 6, 7, 11, 13, 15, 63, 64, 65, 73, 74, 75, 79, 80]), ([1, 5, 6, 7, 11, 13, 15, 63, 64, 65, 73, 74, 75, 79, 80, 81, 82], []), ([1, 5, 6, 7, 11, 13, 15, 17, 63, 64, 65, 73, 74, 75, 79, 80, 81], []), ([1, 5, 6, 7, 11, 13, 15, 63, 64, 65, 73, 74, 75, 79, 80, 81, 103], []), ([4], []), ([1, 5, 6, 7, 11, 13, 15, 63, 64, 65, 73, 74, 75, 79, 80, 81], []), ([1, 5, 6, 7, 11, 13, 63, 64, 65, 73, 74, 75], []), ([1, 5, 6, 7, 11, 63, 64, 65], []), ([1, 5, 7, 109], []), ([4], []), ([1, 7, 18, 19], []), ([1, 18, 19, 115, 116, 117], []), ([117], [1, 18, 19, 115, 116]), ([1, 18, 19, 115, 116, 117, 118], []), ([1, 18, 19, 21, 115, 116, 117], []), ([1, 18, 19, 115, 116, 117, 129], []), ([4], []), ([1, 18, 19, 115, 116, 117], []), ([1, 22], []), ([1, 22, 23, 24], []), ([1, 23, 24, 25, 26], []), ([23, 24, 25, 26, 27, 28], []), ([23, 24, 25, 26, 27, 28, 29, 30], []), ([23, 24, 25, 26, 29, 30, 31, 32], []), ([4], [])] = some (x_lFnOrbits, r_lFnOrbits) := by kernel_rfl
def us_lFnOrbits :=  (aI (aI (aI (aI (aI @u3_0 (aI @u3_1 @u3_2)) (aI @u3_3 (aI @u3_4 @u3_5))) (aI (aI @u3_6 (aI @u3_7 @u3_8)) (aI @u3_9 (aI @u3_10 @u3_11)))) (aI (aI (aI @u3_12 (aI @u3_13 @u3_14)) (aI @u3_15 (aI @u3_16 @u3_17))) (aI (aI @u3_18 (aI @u3_19 @u3_20)) (aI @u3_21 (aI @u3_22 @u3_23))))) (aI (aI (aI (aI @u3_24 (aI @u3_25 @u3_26)) (aI @u3_27 (aI @u3_28 @u3_29))) (aI (aI @u3_30 (aI @u3_31 @u3_32)) (aI @u3_33 (aI @u3_34 @u3_35)))) (aI (aI (aI @u3_36 (aI @u3_37 @u3_38)) (aI @u3_39 (aI @u3_40 @u3_41))) (aI (aI @u3_42 (aI @u3_43 @u3_44)) (aI (aI @u3_45 @u3_46) (aI @u3_47 @u3_48))))))
end
theorem lsameLists_ok (v u : Value) (A : List (List Int)) (hl : A.length ≤ 1000000) (hs : ∀ x ∈ A, x.length ≤ 1000000) (w : World) (h : Sq2 fI w v A) (h' : Sq2 fI w u A) : Fn 12 [v, u] w (fun r _ => r = .bool true) := by
  (refine callsV_of mix Try.func12 c_lsameLists ?_; simp only [↓vsd, vsn, gW, qd, qv, ev, pick, argE, zipE, ne_eq, eq_self, forall_const, implies_true, if_true, if_false, reduceIte, reduceCtorEq, Nat.reduceEqDiff, Nat.reduceAdd, Nat.reduceLT, ↓us_lsameLists, r_lsameLists])
  simp only [↓vsd, vsn, gW, qd, qv, ev, pick, argE, zipE, ne_eq, eq_self, forall_const, implies_true, if_true, if_false, reduceIte, reduceCtorEq, Nat.reduceEqDiff, Nat.reduceAdd, Nat.reduceLT, ↓us_lsameLists, r_lsameLists, h.facts, h'.facts]
  refine m_upto A.length (fun k vs w' => vs = [.int .i64 k] ∧ Ext w w') ⟨rfl, Ext.refl _⟩ ?_
  rintro k vs w1 hk ⟨rfl, hx1⟩
  have hq := h.ext hx1
  have hq' := h'.ext hx1
  by_cases hlt : k < A.length
  · have hltI : (k : Int) < A.length := by omega
    have hltJ : ¬ (A.length : Int) ≤ k := by omega
    obtain ⟨y, hy, qy⟩ := hq.at hlt
    obtain ⟨z, hz, qz⟩ := hq'.at hlt
    have hyl := hs _ (getD_mem (l := A) (k := k) [] hlt)
    simp only [↓vsd, vsn, gW, qd, qv, ev, pick, argE, zipE, ne_eq, eq_self, forall_const, implies_true, if_true, if_false, reduceIte, reduceCtorEq, Nat.reduceEqDiff, Nat.reduceAdd, Nat.reduceLT, ↓us_lsameLists, r_lsameLists, hltI, hq.facts, hq'.facts, hy, hz]
    refine ⟨by omega, by omega, m_call (lsameInts_ok y z _ _ _ (by first | exact qy | exact qy.ext (dr (Ext.refl _))) (by first | exact qz | exact qz.ext (dr (Ext.refl _))) (by omega)) ?_⟩
    rintro _ w2 hx2 rfl
    have hx2 : Ext w1 w2 := by first | exact hx2 | exact ud hx2 | exact ud (ud hx2)
    simp only [↓vsd, vsn, gW, qd, qv, ev, pick, argE, zipE, ne_eq, eq_self, forall_const, implies_true, if_true, if_false, reduceIte, reduceCtorEq, Nat.reduceEqDiff, Nat.reduceAdd, Nat.reduceLT, ↓us_lsameLists, r_lsameLists]
    exact ⟨inR_i64 (by omega), UpTo.next hlt ⟨rfl, hx1.trans hx2⟩⟩
  · obtain rfl : k = A.length := by omega
    have hltI : ¬ (A.length : Int) < A.length := by omega
    simp only [↓vsd, vsn, gW, qd, qv, ev, pick, argE, zipE, ne_eq, eq_self, forall_const, implies_true, if_true, if_false, reduceIte, reduceCtorEq, Nat.reduceEqDiff, Nat.reduceAdd, Nat.reduceLT, ↓us_lsameLists, r_lsameLists, hltI]
    exact hx1
theorem sDrawOrbitsOf_ok (v : Value) (code : List UInt8) (hl : code.length ≤ 1048576) (w : World) (h : Sq fU 1 w v code) : Fn 9 [v] w (fun r w' => ∃ y l, ∃ n : Int, r = .tuple ⟨[y, .int .i64 n]⟩ ∧ Sq fS 1 w' y l ∧ l.length ≤ 2) := by
  (refine callsV_of mix Try.func9 c_sDrawOrbitsOf ?_; simp only [↓vsd, vsn, gW, qd, qv, ev, pick, argE, zipE, ne_eq, eq_self, forall_const, implies_true, if_true, if_false, reduceIte, reduceCtorEq, Nat.reduceEqDiff, Nat.reduceAdd, Nat.reduceLT, ↓us_sDrawOrbitsOf, r_sDrawOrbitsOf])
  simp only [↓vsd, vsn, gW, qd, qv, ev, pick, argE, zipE, ne_eq, eq_self, forall_const, implies_true, if_true, if_false, reduceIte, reduceCtorEq, Nat.reduceEqDiff, Nat.reduceAdd, Nat.reduceLT, ↓us_sDrawOrbitsOf, r_sDrawOrbitsOf, h.facts]
  refine m_al ?_
  rintro b w1 hb hblk hx1 hs1
  have hc := Cur.new h hl hb hblk hx1
  have hlt := hc.lt
  simp only [↓vsd, vsn, gW, qd, qv, ev, pick, argE, zipE, ne_eq, eq_self, forall_const, implies_true, if_true, if_false, reduceIte, reduceCtorEq, Nat.reduceEqDiff, Nat.reduceAdd, Nat.reduceLT, ↓us_sDrawOrbitsOf, r_sDrawOrbitsOf]
  refine m_callw (by first | exact .inl rfl | exact .inr rfl) (sl1Cur_gens_ok w b _ w1 (by omega) hc) ?_
  rintro y w2 ⟨hc2, hg2, l, ho2, hl2, m, hm, hr⟩
  have f2 := ho2.sq.facts
  have b2 := ho2.sq.at0 [] (show 0 < l.length by omega)
  have z2 : (0 : Int) < l.length := by omega
  have hr0 := hr _ (getD_mem (k := 0) [] (show 0 < l.length by omega))
  simp only [↓vsd, vsn, gW, qd, qv, ev, pick, argE, zipE, ne_eq, eq_self, forall_const, implies_true, if_true, if_false, reduceIte, reduceCtorEq, Nat.reduceEqDiff, Nat.reduceAdd, Nat.reduceLT, ↓us_sDrawOrbitsOf, r_sDrawOrbitsOf, f2, b2, z2]
  refine ⟨by decide, ?_⟩
  refine m_callw (by first | exact .inl rfl | exact .inr rfl) (sl1Cur_pick_ok w b 40 10 (by omega) _ (by omega) (by first | exact hc2.mono (by omega) | exact (hc2.ext (dr (Ext.refl _))).mono (by omega))) ?_
  rintro _ w3 ⟨hc3, hg3, p, rfl, hp⟩
  have hg3 : w2.grownBy w3 (some b) := by first | exact hg3 | exact gud hg3
  have ho3 := ho2.keep hg3 (fun c hc => by rw [← Option.some.inj hc]; exact hlt.2)
  by_cases h0 : p = 0
  · have p0 : (p : Int) = 0 := by omega
    simp only [↓vsd, vsn, gW, qd, qv, ev, pick, argE, zipE, ne_eq, eq_self, forall_const, implies_true, if_true, if_false, reduceIte, reduceCtorEq, Nat.reduceEqDiff, Nat.reduceAdd, Nat.reduceLT, ↓us_sDrawOrbitsOf, r_sDrawOrbitsOf, p0]
    exact ⟨hc3.base, _, [], _, rfl, (Own.nil (E := 9) (B := 0) fS_len).sq, by simp⟩
  · by_cases h1 : p = 1
    · have p0 : ¬ (1 : Int) = 0 := by decide
      have p1 : (p : Int) = 1 := by omega
      simp only [↓vsd, vsn, gW, qd, qv, ev, pick, argE, zipE, ne_eq, eq_self, forall_const, implies_true, if_true, if_false, reduceIte, reduceCtorEq, Nat.reduceEqDiff, Nat.reduceAdd, Nat.reduceLT, ↓us_sDrawOrbitsOf, r_sDrawOrbitsOf, p1, p0]
      refine ⟨inR_i64 (by omega), hc3.base, y, l, _, rfl, ho3.sq, by omega⟩
    · have p0 : ¬ (p : Int) = 0 := by omega
      have p1 : ¬ (p : Int) = 1 := by omega
      simp only [↓vsd, vsn, gW, qd, qv, ev, pick, argE, zipE, ne_eq, eq_self, forall_const, implies_true, if_true, if_false, reduceIte, reduceCtorEq, Nat.reduceEqDiff, Nat.reduceAdd, Nat.reduceLT, ↓us_sDrawOrbitsOf, r_sDrawOrbitsOf, p0, p1]
      exact ⟨hc3.base, y, l, _, rfl, ho3.sq, by omega⟩
theorem sDrawSortRows_ok (v : Value) (code : List UInt8) (hl : code.length ≤ 1048576) (w : World) (h : Sq fU 1 w v code) : Fn 15 [v] w (fun r w' => ∃ l : List Bs, Sq fS 1 w' r l ∧ l.length ≤ 101) := by
  (refine callsV_of mix Try.func15 c_sDrawSortRows ?_; simp only [↓vsd, vsn, gW, qd, qv, ev, pick, argE, zipE, ne_eq, eq_self, forall_const, implies_true, if_true, if_false, reduceIte, reduceCtorEq, Nat.reduceEqDiff, Nat.reduceAdd, Nat.reduceLT, ↓us_sDrawSortRows, r_sDrawSortRows])
  refine m_call (sDrawGoodRows_ok v code hl _ h) ?_
  rintro r w1 hx1 hr
  simp only [↓vsd, vsn, gW, qd, qv, ev, pick, argE, zipE, ne_eq, eq_self, forall_const, implies_true, if_true, if_false, reduceIte, reduceCtorEq, Nat.reduceEqDiff, Nat.reduceAdd, Nat.reduceLT, ↓us_sDrawSortRows, r_sDrawSortRows]
  exact ⟨hx1, hr⟩
theorem sDrawLeftTimes_ok (v : Value) (code : List UInt8) (hl : code.length ≤ 1048576) (w : World) (h : Sq fU 1 w v code) : Fn 18 [v] w (fun r w' => ∃ (a : Bs) (y : Value) (l : List Bs), r = .tuple ⟨[S a, y]⟩ ∧ Sq fS 1 w' y l ∧ l.length ≤ 100) := by
  (refine callsV_of mix Try.func18 c_sDrawLeftTimes ?_; simp only [↓vsd, vsn, gW, qd, qv, ev, pick, argE, zipE, ne_eq, eq_self, forall_const, implies_true, if_true, if_false, reduceIte, reduceCtorEq, Nat.reduceEqDiff, Nat.reduceAdd, Nat.reduceLT, ↓us_sDrawLeftTimes, r_sDrawLeftTimes])
  simp only [↓vsd, vsn, gW, qd, qv, ev, pick, argE, zipE, ne_eq, eq_self, forall_const, implies_true, if_true, if_false, reduceIte, reduceCtorEq, Nat.reduceEqDiff, Nat.reduceAdd, Nat.reduceLT, ↓us_sDrawLeftTimes, r_sDrawLeftTimes, h.facts]
  refine m_al ?_
  rintro b w1 hb hblk hx1 hs1
  have hc := Cur.new h hl hb hblk hx1
  simp only [↓vsd, vsn, gW, qd, qv, ev, pick, argE, zipE, ne_eq, eq_self, forall_const, implies_true, if_true, if_false, reduceIte, reduceCtorEq, Nat.reduceEqDiff, Nat.reduceAdd, Nat.reduceLT, ↓us_sDrawLeftTimes, r_sDrawLeftTimes]
  refine m_callw (by first | exact .inl rfl | exact .inr rfl) (sl1Cur_stage_ok w b _ w1 (by omega) hc) ?_
  rintro _ w2 ⟨hc2, hg2, n, rfl, hn⟩
  simp only [↓vsd, vsn, gW, qd, qv, ev, pick, argE, zipE, ne_eq, eq_self, forall_const, implies_true, if_true, if_false, reduceIte, reduceCtorEq, Nat.reduceEqDiff, Nat.reduceAdd, Nat.reduceLT, ↓us_sDrawLeftTimes, r_sDrawLeftTimes]
  refine m_callw (by first | exact .inl rfl | exact .inr rfl) (sl1Cur_one_ok w b _ 10 (by omega) _ (by omega) hc2) ?_
  rintro _ w3 ⟨hc3, hg3, z, rfl⟩
  cases z
  · simp only [↓vsd, vsn, gW, qd, qv, ev, pick, argE, zipE, ne_eq, eq_self, forall_const, implies_true, if_true, if_false, reduceIte, reduceCtorEq, Nat.reduceEqDiff, Nat.reduceAdd, Nat.reduceLT, ↓us_sDrawLeftTimes, r_sDrawLeftTimes]
    refine m_callw (by first | exact .inl rfl | exact .inr rfl) (sl1Cur_row_ok w b (0 + 2 + 2) n hn _ (by omega) (by first | exact hc3 | exact hc3.ext (dr (Ext.refl _)))) ?_
    rintro _ w4 ⟨hc4, hg4, a, rfl, ha⟩
    simp only [↓vsd, vsn, gW, qd, qv, ev, pick, argE, zipE, ne_eq, eq_self, forall_const, implies_true, if_true, if_false, reduceIte, reduceCtorEq, Nat.reduceEqDiff, Nat.reduceAdd, Nat.reduceLT, ↓us_sDrawLeftTimes, r_sDrawLeftTimes]
    refine m_callw (by first | exact .inl rfl | exact .inr rfl) (sl1Cur_rowsOf_ok w b (0 + 2 + 2 + 2) n hn 6 (by omega) _ (by omega) (by first | exact hc4 | exact hc4.ext (dr (Ext.refl _)))) ?_
    rintro y w5 ⟨hc5, hg5, l, ho5, hl5⟩
    simp only [↓vsd, vsn, gW, qd, qv, ev, pick, argE, zipE, ne_eq, eq_self, forall_const, implies_true, if_true, if_false, reduceIte, reduceCtorEq, Nat.reduceEqDiff, Nat.reduceAdd, Nat.reduceLT, ↓us_sDrawLeftTimes, r_sDrawLeftTimes]
    exact ⟨hc5.base, a, y, l, rfl, ho5.sq, hl5⟩
  · simp only [↓vsd, vsn, gW, qd, qv, ev, pick, argE, zipE, ne_eq, eq_self, forall_const, implies_true, if_true, if_false, reduceIte, reduceCtorEq, Nat.reduceEqDiff, Nat.reduceAdd, Nat.reduceLT, ↓us_sDrawLeftTimes, r_sDrawLeftTimes]
    refine m_callw (by first | exact .inl rfl | exact .inr rfl) (sl1Cur_anyRow_ok w b (0 + 2 + 2) _ (by omega) (by first | exact hc3 | exact hc3.ext (dr (Ext.refl _)))) ?_
    rintro _ w4 ⟨hc4, hg4, a, rfl, ha⟩
    simp only [↓vsd, vsn, gW, qd, qv, ev, pick, argE, zipE, ne_eq, eq_self, forall_const, implies_true, if_true, if_false, reduceIte, reduceCtorEq, Nat.reduceEqDiff, Nat.reduceAdd, Nat.reduceLT, ↓us_sDrawLeftTimes, r_sDrawLeftTimes]
    refine m_callw (by first | exact .inl rfl | exact .inr rfl) (sl1Cur_rowsOf_ok w b (0 + 2 + 2 + 40) n hn 6 (by omega) _ (by omega) (by first | exact hc4 | exact hc4.ext (dr (Ext.refl _)))) ?_
    rintro y w5 ⟨hc5, hg5, l, ho5, hl5⟩
    simp only [↓vsd, vsn, gW, qd, qv, ev, pick, argE, zipE, ne_eq, eq_self, forall_const, implies_true, if_true, if_false, reduceIte, reduceCtorEq, Nat.reduceEqDiff, Nat.reduceAdd, Nat.reduceLT, ↓us_sDrawLeftTimes, r_sDrawLeftTimes]
    exact ⟨hc5.base, a, y, l, rfl, ho5.sq, hl5⟩
theorem metK_succ (O : List (List Int)) (k : Nat) (h : k < O.length) : metK O (k + 1) = metK O k + (O.getD k []).length := by
  unfold metK
  rw [List.take_add_one, List.getElem?_eq_getElem h, List.map_append, List.sum_append, List.getD_eq_getElem?_getD, List.getElem?_eq_getElem h]; simp
/-- What is said of an orbit. -/
theorem orb_at {P : List Nat} {n i : Nat} (hi : i < (orbK P n n).length) : ∃ c, c < n ∧ clsN P n c ≠ [] ∧ (orbK P n n).getD i [] = clsL P n c := by
  have hm : (orbK P n n).getD i [] ∈ orbK P n n := getD_mem [] hi
  obtain ⟨c, h1, h2, h3⟩ := orbK_mem hm
  exact ⟨c, h1, h2, h3⟩
theorem cls_at {P : List Nat} {n c j : Nat} (hj : j < (clsL P n c).length) : ∃ q : Nat, (clsL P n c).getD j 0 = (q : Int) + 1 ∧ q < n ∧ P.getD q 0 = c := by
  have hj' : j < (clsN P n c).length := by unfold clsL at hj; rwa [List.length_map] at hj
  refine ⟨(clsN P n c)[j], ?_, (clsN_mem _ _ _ _).1 (List.getElem_mem hj')⟩
  unfold clsL
  rw [List.getD_eq_getElem?_getD, List.getElem?_map, List.getElem?_eq_getElem hj']; rfl
theorem cls_len (P : List Nat) (n c : Nat) : (clsL P n c).length ≤ n := by
  unfold clsL clsN
  rw [List.length_map]
  refine Nat.le_trans (List.length_filter_le _ _) ?_
  rw [List.length_range]; exact Nat.le_refl _
theorem orb_len (P : List Nat) (n : Nat) : ∀ k, (orbK P n k).length ≤ k
  | 0 => by simp [orbK]
  | k + 1 => by
    have := orb_len P n k
    rw [orbK_succ, List.length_append]
    split <;> simp <;> omega
/-- The size of an orbit divides the order of the closure. -/
theorem orb_mod {l : List Bs} {n : Nat} (hn : 3 ≤ n ∧ n ≤ 8) (hg : RowN n l) (h0 : 0 < l.length) (hc : CloseOk l) {c : Nat} (hne : clsN (labF l n) n c ≠ []) : (closeL l).length % (clsL (labF l n) n c).length = 0 := by
  have hst : stgL l = n := (hg _ (getD_mem (k := 0) [] h0)).2
  have hok := hc.2.2
  rw [hst] at hok
  have hcl : closeL l = genV l (roundsL n) 800 := by rw [closeL, if_pos ⟨hc.1, hc.2.1⟩, hst]
  have hG := genV_grp hn hg hok
  have hlen := genV_len l (roundsL n) 800
  have hfew := (gen_few hlen).1 ⟨hok, Nat.le_refl _⟩
  obtain ⟨q, hq⟩ := List.exists_mem_of_ne_nil _ hne
  obtain ⟨hq1, hq2⟩ := (clsN_mem _ _ _ _).1 hq
  have := orb_dvd hn hg hG (fun g hgm => (genV_mem hok g).2 (gen_has hg hok hgm)) (fun x hx => by rw [← (gen_mono hfew hlen).2]; exact (genV_mem hok x).1 hx) hq1
  rw [hq2] at this
  rw [hcl, clsL, List.length_map]
  exact Nat.mod_eq_zero_of_dvd this
set_option maxHeartbeats 4000000 in
theorem lFnOrbits_ok (v u : Value) (code more : List UInt8) (hcl : code.length ≤ 9223372036854775807) (hml : more.length ≤ 9223372036854775807) (w : World) (h : Sq fU 1 w v code) (h' : Sq fU 1 w u more) : Fn 3 [v, u] w (fun r _ => r = .bool true) := by
  (refine callsV_of mix Try.func3 c_lFnOrbits ?_; simp only [↓vsd, vsn, gW, qd, qv, ev, pick, argE, zipE, ne_eq, eq_self, forall_const, implies_true, if_true, if_false, reduceIte, reduceCtorEq, Nat.reduceEqDiff, Nat.reduceAdd, Nat.reduceLT, ↓us_lFnOrbits, r_lFnOrbits])
  refine m_call (lbig_ok v u code more hcl hml _ h h') ?_
  rintro _ w0 hx0 rfl
  simp only [↓vsd, vsn, gW, qd, qv, ev, pick, argE, zipE, ne_eq, eq_self, forall_const, implies_true, if_true, if_false, reduceIte, reduceCtorEq, Nat.reduceEqDiff, Nat.reduceAdd, Nat.reduceLT, ↓us_lFnOrbits, r_lFnOrbits]
  refine ⟨fun _ => hx0, fun hsm => ?_⟩
  have hlen : code.length ≤ 1048576 ∧ more.length ≤ 1048576 := by omega
  refine m_call (sDrawOrbitsOf_ok v code hlen.1 _ (h.ext hx0)) ?_
  rintro _ w1 hx1 ⟨y, l, n, rfl, hq1, hl⟩
  simp only [↓vsd, vsn, gW, qd, qv, ev, pick, argE, zipE, ne_eq, eq_self, forall_const, implies_true, if_true, if_false, reduceIte, reduceCtorEq, Nat.reduceEqDiff, Nat.reduceAdd, Nat.reduceLT, ↓us_lFnOrbits, r_lFnOrbits]
  refine m_call (iOrbitsOf_ok y l n (by omega) _ hq1) ?_
  rintro _ w2 hx2 ⟨r2, rfl, ho2⟩
  simp only [↓vsd, vsn, gW, qd, qv, ev, pick, argE, zipE, ne_eq, eq_self, forall_const, implies_true, if_true, if_false, reduceIte, reduceCtorEq, Nat.reduceEqDiff, Nat.reduceAdd, Nat.reduceLT, ↓us_lFnOrbits, r_lFnOrbits]
  refine m_call (sOrbitsOf_ok y l n (by omega) _ (hq1.ext hx2)) ?_
  rintro _ w3 hx3 ⟨r3, rfl, ho3⟩
  have hx03 := ((hx0.trans hx1).trans hx2).trans hx3
  have hol : (orbV l n).length ≤ 8 ∧ ∀ x ∈ orbV l n, x.length ≤ 8 := by
    unfold orbV
    split
    · rename_i hh
      have := hh.1
      refine ⟨Nat.le_trans (orb_len _ _ _) (by omega), fun x hx => ?_⟩
      obtain ⟨c, _, _, rfl⟩ := orbK_mem hx
      exact Nat.le_trans (cls_len _ _ _) (by omega)
    · simp
  have ho2 := ho2.ext hx3
  simp only [↓vsd, vsn, gW, qd, qv, ev, pick, argE, zipE, ne_eq, eq_self, forall_const, implies_true, if_true, if_false, reduceIte, reduceCtorEq, Nat.reduceEqDiff, Nat.reduceAdd, Nat.reduceLT, ↓us_lFnOrbits, r_lFnOrbits]
  refine m_call (lsameLists_ok r2 r3 _ (by omega) (fun x hx => by have := hol.2 x hx; omega) _ ho2 ho3) ?_
  rintro _ w4 hx4 rfl
  have hx04 := hx03.trans (by first | exact hx4 | exact ud hx4)
  have ho4 : Sq2 fI w4 r2 (orbV l n) := by first | exact ho2.ext hx4 | exact ho2.ext (ud hx4)
  have hq4 : Sq fS 1 w4 y l := by first | exact ((hq1.ext hx2).ext hx3).ext hx4 | exact ((hq1.ext hx2).ext hx3).ext (ud hx4)
  by_cases hok : OrbOk l n
  · obtain ⟨n, rfl⟩ : ∃ m : Nat, n = m := ⟨n.toNat, by have := hok.1; omega⟩
    have h38 : 3 ≤ n ∧ n ≤ 8 := by have := hok.1; omega
    have hg := hok.2.n
    have hokd := decide_eq_true hok
    rw [orbV, if_pos hok, Int.toNat_natCast] at ho4 hol
    have hsum := orb_sum hg
    have hmet : metK (orbK (labF l n) n n) (orbK (labF l n) n n).length = n := by rw [metK, List.take_length]; exact hsum
    have hat := @orb_at (labF l n) n
    have hmod := fun h0 hc c hne => @orb_mod l n h38 hg h0 hc c hne
    generalize hO : orbK (labF l n) n n = O at *
    simp only [↓vsd, vsn, gW, qd, qv, ev, pick, argE, zipE, ne_eq, eq_self, forall_const, implies_true, if_true, if_false, reduceIte, reduceCtorEq, Nat.reduceEqDiff, Nat.reduceAdd, Nat.reduceLT, ↓us_lFnOrbits, r_lFnOrbits, hokd, ho4.facts]
    refine m_upto O.length (fun k vs w' => vs = [.int .i64 (metK O k : Nat), .int .i64 k] ∧ metK O k ≤ 8 * k ∧ Ext w4 w') ⟨rfl, Nat.zero_le _, Ext.refl _⟩ ?_
    rintro k vs w5 hk ⟨rfl, hmk, hx5⟩
    have ho5 := ho4.ext hx5
    have hq5 := hq4.ext hx5
    by_cases hlk : k < O.length
    · have hlkI : (k : Int) < O.length := by omega
      have hlkJ : ¬ (O.length : Int) ≤ k := by omega
      obtain ⟨z, hz, qz⟩ := ho5.at hlk
      have hms := metK_succ O k hlk
      have hzl := hol.2 _ (getD_mem [] hlk)
      obtain ⟨c, hc1, hc2, hc3⟩ := hat hlk
      rw [hc3] at qz hms hzl
      have qzf := qz.facts
      simp only [↓vsd, vsn, gW, qd, qv, ev, pick, argE, zipE, ne_eq, eq_self, forall_const, implies_true, if_true, if_false, reduceIte, reduceCtorEq, Nat.reduceEqDiff, Nat.reduceAdd, Nat.reduceLT, ↓us_lFnOrbits, r_lFnOrbits, hlkI, hlkJ, ho5.facts, hz, qzf, hq5.facts]
      refine ⟨by omega, inR_i64 (by omega), ?_⟩
      have em : ((metK O k : Nat) : Int) + ((clsL (labF l n) n c).length : Nat) = ((metK O (k + 1) : Nat) : Int) := by omega
      rw [em]
      refine m_upto l.length (fun j vs w' => vs = [.int .i64 j] ∧ Ext w5 w') ⟨rfl, by first | exact Ext.refl _ | exact dr (Ext.refl _)⟩ ?_
      rintro j vs w6 hj ⟨rfl, hx6⟩
      have hq6 := hq5.ext hx6
      have qz6 := qz.ext hx6
      by_cases hlj : j < l.length
      · have hljI : (j : Int) < l.length := by omega
        have hljJ : ¬ (l.length : Int) ≤ j := by omega
        have a6 := hq6.at1 [] hlj
        have hgm := getD_mem [] hlj
        have hgr := hg _ hgm
        generalize l.getD j [] = g at *
        simp only [↓vsd, vsn, gW, qd, qv, ev, pick, argE, zipE, ne_eq, eq_self, forall_const, implies_true, if_true, if_false, reduceIte, reduceCtorEq, Nat.reduceEqDiff, Nat.reduceAdd, Nat.reduceLT, ↓us_lFnOrbits, r_lFnOrbits, hljI, hljJ, hq6.facts, a6, qz6.facts]
        refine ⟨by omega, ?_⟩
        refine m_upto (clsL (labF l n) n c).length (fun p vs w' => vs = [.int .i64 p] ∧ Ext w6 w') ⟨rfl, by first | exact Ext.refl _ | exact dr (Ext.refl _)⟩ ?_
        rintro p vs w7 hp ⟨rfl, hx7⟩
        have qz7 := qz6.ext hx7
        by_cases hlp : p < (clsL (labF l n) n c).length
        · have hlpI : (p : Int) < ((clsL (labF l n) n c).length : Nat) := by omega
          have hlpJ : ¬ (((clsL (labF l n) n c).length : Nat) : Int) ≤ p := by omega
          have b7 := qz7.at1 0 hlp
          obtain ⟨q, hq1', hq2', hq3'⟩ := cls_at hlp
          rw [hq1'] at b7
          have hlow := hgr.1.low (i := q) (by rw [hgr.2]; exact hq2')
          have hx256 : (g.getD q 0).toNat < 256 := (g.getD q 0).toNat_lt
          have hbl : bell g q < n := edge_lt hg hgm hq2'
          have hbI : ((g.getD q 0).toNat : Int) - 48 = ((bell g q + 1 : Nat) : Int) := by unfold bell; omega
          have hgl : g.length = n := hgr.2
          have e0 : ¬ (q : Int) + 1 < 1 := by omega
          have e1 : ¬ (g.length : Int) < (q : Int) + 1 := by omega
          have e2 : (q : Int) + 1 - 1 = (q : Int) := by omega
          have hin : decide (((bell g q + 1 : Nat) : Int) ∈ clsL (labF l n) n c) = true := by
            refine decide_eq_true (List.mem_map.2 ⟨bell g q, (clsN_mem _ _ _ _).2 ⟨hbl, ?_⟩, by omega⟩)
            rw [labF_step hg hgm hq2', hq3']
          simp only [↓vsd, vsn, gW, qd, qv, ev, pick, argE, zipE, ne_eq, eq_self, forall_const, implies_true, if_true, if_false, reduceIte, reduceCtorEq, Nat.reduceEqDiff, Nat.reduceAdd, Nat.reduceLT, ↓us_lFnOrbits, r_lFnOrbits, hlpI, hlpJ, qz7.facts, b7, e0, e1, e2, hbI]
          refine ⟨by omega, inR_i64 (by omega), ⟨by omega, by omega⟩, inR_u8 (by omega), inR_i64 (by omega), m_call (lhas_ok z (clsL (labF l n) n c) ((bell g q + 1 : Nat) : Int) (by omega) _ (by first | exact qz7 | exact qz7.ext (dr (Ext.refl _)))) ?_⟩
          rintro _ w8 hx8 rfl
          have hx8 : Ext w7 w8 := by first | exact hx8 | exact ud hx8 | exact ud (ud hx8)
          simp only [↓vsd, vsn, gW, qd, qv, ev, pick, argE, zipE, ne_eq, eq_self, forall_const, implies_true, if_true, if_false, reduceIte, reduceCtorEq, Nat.reduceEqDiff, Nat.reduceAdd, Nat.reduceLT, ↓us_lFnOrbits, r_lFnOrbits, hin]
          exact ⟨inR_i64 (by omega), UpTo.next hlp ⟨rfl, hx7.trans hx8⟩⟩
        · obtain rfl : p = (clsL (labF l n) n c).length := by omega
          have hlpI : ¬ (((clsL (labF l n) n c).length : Nat) : Int) < ((clsL (labF l n) n c).length : Nat) := by omega
          simp only [↓vsd, vsn, gW, qd, qv, ev, pick, argE, zipE, ne_eq, eq_self, forall_const, implies_true, if_true, if_false, reduceIte, reduceCtorEq, Nat.reduceEqDiff, Nat.reduceAdd, Nat.reduceLT, ↓us_lFnOrbits, r_lFnOrbits, hlpI]
          exact ⟨inR_i64 (by omega), UpTo.next hlj ⟨rfl, hx6.trans hx7⟩⟩
      · obtain rfl : j = l.length := by omega
        have hljI : ¬ ((l.length : Nat) : Int) < l.length := by omega
        simp only [↓vsd, vsn, gW, qd, qv, ev, pick, argE, zipE, ne_eq, eq_self, forall_const, implies_true, if_true, if_false, reduceIte, reduceCtorEq, Nat.reduceEqDiff, Nat.reduceAdd, Nat.reduceLT, ↓us_lFnOrbits, r_lFnOrbits, hljI]
        exact ⟨inR_i64 (by omega), UpTo.next hlk ⟨rfl, by omega, hx5.trans hx6⟩⟩
    · obtain rfl : k = O.length := by omega
      have hlkI : ¬ ((O.length : Nat) : Int) < O.length := by omega
      have hmI : ((metK O O.length : Nat) : Int) = (n : Int) := by omega
      simp only [↓vsd, vsn, gW, qd, qv, ev, pick, argE, zipE, ne_eq, eq_self, forall_const, implies_true, if_true, if_false, reduceIte, reduceCtorEq, Nat.reduceEqDiff, Nat.reduceAdd, Nat.reduceLT, ↓us_lFnOrbits, r_lFnOrbits, hlkI, hmI]
      refine m_call (iCloseRows_ok y l (by omega) _ hq5) ?_
      rintro _ w6 hx6 ⟨z, rfl, hoz⟩
      have ho6 := ho5.ext hx6
      have hzq := hoz.sq
      have hx46 := hx5.trans hx6
      simp only [↓vsd, vsn, gW, qd, qv, ev, pick, argE, zipE, ne_eq, eq_self, forall_const, implies_true, if_true, if_false, reduceIte, reduceCtorEq, Nat.reduceEqDiff, Nat.reduceAdd, Nat.reduceLT, ↓us_lFnOrbits, r_lFnOrbits, ho6.facts]
      refine m_upto O.length (fun k vs w' => vs = [.int .i64 k] ∧ Ext w6 w') ⟨rfl, by first | exact Ext.refl _ | exact dr (Ext.refl _)⟩ ?_
      rintro k vs w7 hk ⟨rfl, hx7⟩
      have ho7 := ho6.ext hx7
      have hz7 := hzq.ext hx7
      by_cases hlk : k < O.length
      · have hlkI : (k : Int) < O.length := by omega
        have hlkJ : ¬ (O.length : Int) ≤ k := by omega
        obtain ⟨z', hz', qz⟩ := ho7.at hlk
        obtain ⟨c, hc1, hc2, hc3⟩ := hat hlk
        rw [hc3] at qz
        have qzf := qz.facts
        by_cases hC : CloseOk l
        · have hCd := decide_eq_true hC
          have hm0 := hmod hC.1 hC c hc2
          have hcl0 : 0 < (clsL (labF l n) n c).length := by
            unfold clsL; rw [List.length_map]; exact List.length_pos_iff.2 hc2
          have hmI0 : (((closeL l).length : Nat) : Int).tmod ((clsL (labF l n) n c).length : Nat) = 0 := by
            have : (((closeL l).length : Nat) : Int).tmod ((clsL (labF l n) n c).length : Nat) = (((closeL l).length % (clsL (labF l n) n c).length : Nat) : Int) := rfl
            rw [this, hm0]; rfl
          simp only [↓vsd, vsn, gW, qd, qv, ev, pick, argE, zipE, ne_eq, eq_self, forall_const, implies_true, if_true, if_false, reduceIte, reduceCtorEq, Nat.reduceEqDiff, Nat.reduceAdd, Nat.reduceLT, ↓us_lFnOrbits, r_lFnOrbits, hlkI, hlkJ, ho7.facts, hz', qzf, hz7.facts, hCd, hmI0]
          exact ⟨by omega, by omega, inR_i64 (by omega), UpTo.next hlk ⟨rfl, by first | exact hx7 | exact dr hx7⟩⟩
        · have hCd := decide_eq_false hC
          simp only [↓vsd, vsn, gW, qd, qv, ev, pick, argE, zipE, ne_eq, eq_self, forall_const, implies_true, if_true, if_false, reduceIte, reduceCtorEq, Nat.reduceEqDiff, Nat.reduceAdd, Nat.reduceLT, ↓us_lFnOrbits, r_lFnOrbits, hlkI, hlkJ, ho7.facts, hz', qzf, hz7.facts, hCd]
          exact ⟨by omega, inR_i64 (by omega), UpTo.next hlk ⟨rfl, by first | exact hx7 | exact dr hx7⟩⟩
      · obtain rfl : k = O.length := by omega
        have hlkI : ¬ ((O.length : Nat) : Int) < O.length := by omega
        have hxL := hx04.trans (hx46.trans hx7)
        simp only [↓vsd, vsn, gW, qd, qv, ev, pick, argE, zipE, ne_eq, eq_self, forall_const, implies_true, if_true, if_false, reduceIte, reduceCtorEq, Nat.reduceEqDiff, Nat.reduceAdd, Nat.reduceLT, ↓us_lFnOrbits, r_lFnOrbits, hlkI]
        refine m_call (sDrawSortRows_ok u more hlen.2 _ (by first | exact h'.ext hxL | exact (h'.ext hxL).ext (dr (Ext.refl _)))) ?_
        rintro s8 w8 hx8 ⟨ls, hqs, hls⟩
        simp only [↓vsd, vsn, gW, qd, qv, ev, pick, argE, zipE, ne_eq, eq_self, forall_const, implies_true, if_true, if_false, reduceIte, reduceCtorEq, Nat.reduceEqDiff, Nat.reduceAdd, Nat.reduceLT, ↓us_lFnOrbits, r_lFnOrbits]
        refine m_call (iSortRows_ok s8 ls (by omega) _ hqs) ?_
        rintro _ w9 hx9 ⟨t9, rfl, hot9⟩
        simp only [↓vsd, vsn, gW, qd, qv, ev, pick, argE, zipE, ne_eq, eq_self, forall_const, implies_true, if_true, if_false, reduceIte, reduceCtorEq, Nat.reduceEqDiff, Nat.reduceAdd, Nat.reduceLT, ↓us_lFnOrbits, r_lFnOrbits]
        refine m_call (sSortRows_ok s8 ls (by omega) _ (hqs.ext hx9)) ?_
        rintro _ w10 hx10 ⟨t10, rfl, hot10⟩
        have hxL10 := ((hxL.trans (by first | exact hx8 | exact ud hx8)).trans hx9).trans hx10
        simp only [↓vsd, vsn, gW, qd, qv, ev, pick, argE, zipE, ne_eq, eq_self, forall_const, implies_true, if_true, if_false, reduceIte, reduceCtorEq, Nat.reduceEqDiff, Nat.reduceAdd, Nat.reduceLT, ↓us_lFnOrbits, r_lFnOrbits]
        refine m_call (sDrawLeftTimes_ok u more hlen.2 _ (by first | exact h'.ext hxL10 | exact h'.ext (dr hxL10))) ?_
        rintro _ w11 hx11 ⟨aa, ya, la, rfl, hqa, hla⟩
        simp only [↓vsd, vsn, gW, qd, qv, ev, pick, argE, zipE, ne_eq, eq_self, forall_const, implies_true, if_true, if_false, reduceIte, reduceCtorEq, Nat.reduceEqDiff, Nat.reduceAdd, Nat.reduceLT, ↓us_lFnOrbits, r_lFnOrbits]
        refine m_call (iLeftTimes_ok aa ya la (by omega) _ hqa) ?_
        rintro _ w12 hx12 ⟨t12, rfl, hot12⟩
        simp only [↓vsd, vsn, gW, qd, qv, ev, pick, argE, zipE, ne_eq, eq_self, forall_const, implies_true, if_true, if_false, reduceIte, reduceCtorEq, Nat.reduceEqDiff, Nat.reduceAdd, Nat.reduceLT, ↓us_lFnOrbits, r_lFnOrbits]
        refine m_call (sLeftTimes_ok aa ya la (by omega) _ (hqa.ext hx12)) ?_
        rintro _ w13 hx13 ⟨t13, rfl, hot13⟩
        have hsl : (sortV ls).length ≤ 101 := by
          unfold sortV; split
          · rw [srt_len]; exact hls
          · simp
        have hll : (ltV aa la).length ≤ 100 := by
          unfold ltV; split
          · rw [List.length_map]; exact hla
          · simp
        have hx1013 := (hx11.trans hx12).trans hx13
        simp only [↓vsd, vsn, gW, qd, qv, ev, pick, argE, zipE, ne_eq, eq_self, forall_const, implies_true, if_true, if_false, reduceIte, reduceCtorEq, Nat.reduceEqDiff, Nat.reduceAdd, Nat.reduceLT, ↓us_lFnOrbits, r_lFnOrbits]
        refine m_call (lsameTexts_ok t9 t10 _ _ _ (by first | exact ((hot9.ext hx10).ext hx1013).sq | exact ((hot9.ext hx10).ext hx1013).sq.ext (dr (Ext.refl _))) (by first | exact (hot10.ext hx1013).sq | exact (hot10.ext hx1013).sq.ext (dr (Ext.refl _))) (by omega)) ?_
        rintro _ w14 hx14 rfl
        have hx14 : Ext w13 w14 := by first | exact hx14 | exact ud hx14 | exact ud (ud hx14)
        simp only [↓vsd, vsn, gW, qd, qv, ev, pick, argE, zipE, ne_eq, eq_self, forall_const, implies_true, if_true, if_false, reduceIte, reduceCtorEq, Nat.reduceEqDiff, Nat.reduceAdd, Nat.reduceLT, ↓us_lFnOrbits, r_lFnOrbits]
        refine m_call (lsameTexts_ok t12 t13 _ _ _ (by first | exact ((hot12.ext hx13).ext hx14).sq | exact ((hot12.ext hx13).ext hx14).sq.ext (dr (Ext.refl _))) (by first | exact (hot13.ext hx14).sq | exact (hot13.ext hx14).sq.ext (dr (Ext.refl _))) (by omega)) ?_
        rintro _ w15 hx15 rfl
        simp only [↓vsd, vsn, gW, qd, qv, ev, pick, argE, zipE, ne_eq, eq_self, forall_const, implies_true, if_true, if_false, reduceIte, reduceCtorEq, Nat.reduceEqDiff, Nat.reduceAdd, Nat.reduceLT, ↓us_lFnOrbits, r_lFnOrbits]
        exact ((hxL10.trans hx1013).trans hx14).trans (by first | exact hx15 | exact ud hx15 | exact ud (ud hx15))
  · have hokd := decide_eq_false hok
    have hxL := hx04
    simp only [↓vsd, vsn, gW, qd, qv, ev, pick, argE, zipE, ne_eq, eq_self, forall_const, implies_true, if_true, if_false, reduceIte, reduceCtorEq, Nat.reduceEqDiff, Nat.reduceAdd, Nat.reduceLT, ↓us_lFnOrbits, r_lFnOrbits, hokd]
    refine m_call (sDrawSortRows_ok u more hlen.2 _ (by first | exact h'.ext hxL | exact (h'.ext hxL).ext (dr (Ext.refl _)))) ?_
    rintro s8 w8 hx8 ⟨ls, hqs, hls⟩
    simp only [↓vsd, vsn, gW, qd, qv, ev, pick, argE, zipE, ne_eq, eq_self, forall_const, implies_true, if_true, if_false, reduceIte, reduceCtorEq, Nat.reduceEqDiff, Nat.reduceAdd, Nat.reduceLT, ↓us_lFnOrbits, r_lFnOrbits]
    refine m_call (iSortRows_ok s8 ls (by omega) _ hqs) ?_
    rintro _ w9 hx9 ⟨t9, rfl, hot9⟩
    simp only [↓vsd, vsn, gW, qd, qv, ev, pick, argE, zipE, ne_eq, eq_self, forall_const, implies_true, if_true, if_false, reduceIte, reduceCtorEq, Nat.reduceEqDiff, Nat.reduceAdd, Nat.reduceLT, ↓us_lFnOrbits, r_lFnOrbits]
    refine m_call (sSortRows_ok s8 ls (by omega) _ (hqs.ext hx9)) ?_
    rintro _ w10 hx10 ⟨t10, rfl, hot10⟩
    have hxL10 := ((hxL.trans (by first | exact hx8 | exact ud hx8)).trans hx9).trans hx10
    simp only [↓vsd, vsn, gW, qd, qv, ev, pick, argE, zipE, ne_eq, eq_self, forall_const, implies_true, if_true, if_false, reduceIte, reduceCtorEq, Nat.reduceEqDiff, Nat.reduceAdd, Nat.reduceLT, ↓us_lFnOrbits, r_lFnOrbits]
    refine m_call (sDrawLeftTimes_ok u more hlen.2 _ (by first | exact h'.ext hxL10 | exact h'.ext (dr hxL10))) ?_
    rintro _ w11 hx11 ⟨aa, ya, la, rfl, hqa, hla⟩
    simp only [↓vsd, vsn, gW, qd, qv, ev, pick, argE, zipE, ne_eq, eq_self, forall_const, implies_true, if_true, if_false, reduceIte, reduceCtorEq, Nat.reduceEqDiff, Nat.reduceAdd, Nat.reduceLT, ↓us_lFnOrbits, r_lFnOrbits]
    refine m_call (iLeftTimes_ok aa ya la (by omega) _ hqa) ?_
    rintro _ w12 hx12 ⟨t12, rfl, hot12⟩
    simp only [↓vsd, vsn, gW, qd, qv, ev, pick, argE, zipE, ne_eq, eq_self, forall_const, implies_true, if_true, if_false, reduceIte, reduceCtorEq, Nat.reduceEqDiff, Nat.reduceAdd, Nat.reduceLT, ↓us_lFnOrbits, r_lFnOrbits]
    refine m_call (sLeftTimes_ok aa ya la (by omega) _ (hqa.ext hx12)) ?_
    rintro _ w13 hx13 ⟨t13, rfl, hot13⟩
    have hsl : (sortV ls).length ≤ 101 := by
      unfold sortV; split
      · rw [srt_len]; exact hls
      · simp
    have hll : (ltV aa la).length ≤ 100 := by
      unfold ltV; split
      · rw [List.length_map]; exact hla
      · simp
    have hx1013 := (hx11.trans hx12).trans hx13
    simp only [↓vsd, vsn, gW, qd, qv, ev, pick, argE, zipE, ne_eq, eq_self, forall_const, implies_true, if_true, if_false, reduceIte, reduceCtorEq, Nat.reduceEqDiff, Nat.reduceAdd, Nat.reduceLT, ↓us_lFnOrbits, r_lFnOrbits]
    refine m_call (lsameTexts_ok t9 t10 _ _ _ (by first | exact ((hot9.ext hx10).ext hx1013).sq | exact ((hot9.ext hx10).ext hx1013).sq.ext (dr (Ext.refl _))) (by first | exact (hot10.ext hx1013).sq | exact (hot10.ext hx1013).sq.ext (dr (Ext.refl _))) (by omega)) ?_
    rintro _ w14 hx14 rfl
    have hx14 : Ext w13 w14 := by first | exact hx14 | exact ud hx14 | exact ud (ud hx14)
    simp only [↓vsd, vsn, gW, qd, qv, ev, pick, argE, zipE, ne_eq, eq_self, forall_const, implies_true, if_true, if_false, reduceIte, reduceCtorEq, Nat.reduceEqDiff, Nat.reduceAdd, Nat.reduceLT, ↓us_lFnOrbits, r_lFnOrbits]
    refine m_call (lsameTexts_ok t12 t13 _ _ _ (by first | exact ((hot12.ext hx13).ext hx14).sq | exact ((hot12.ext hx13).ext hx14).sq.ext (dr (Ext.refl _))) (by first | exact (hot13.ext hx14).sq | exact (hot13.ext hx14).sq.ext (dr (Ext.refl _))) (by omega)) ?_
    rintro _ w15 hx15 rfl
    simp only [↓vsd, vsn, gW, qd, qv, ev, pick, argE, zipE, ne_eq, eq_self, forall_const, implies_true, if_true, if_false, reduceIte, reduceCtorEq, Nat.reduceEqDiff, Nat.reduceAdd, Nat.reduceLT, ↓us_lFnOrbits, r_lFnOrbits]
    exact ((hxL10.trans hx1013).trans hx14).trans (by first | exact hx15 | exact ud hx15 | exact ud (ud hx15))
end Go.Proofs.Ythopbkemkfjebaa
