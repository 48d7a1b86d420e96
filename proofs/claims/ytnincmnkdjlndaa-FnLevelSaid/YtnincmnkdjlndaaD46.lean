/-
  The drawing of level lists, and the call of the law FnLevel.
  Conditions: none.
-/
import Derived.Test.YtnincmnkdjlndaaA77
import Derived.Test.YtnincmnkdjlndaaA36
import Derived.Test.YtnincmnkdjlndaaD14
import Derived.Test.YtnincmnkdjlndaaD30
import Derived.Test.YtnincmnkdjlndaaA46
set_option linter.unusedSimpArgs false
set_option linter.unusedVariables false
set_option linter.defProp false
namespace Go.Proofs.Ytnincmnkdjlndaa
open Go Go.RowKit
section
variable (P : Program) (k : KT) (e : Env) (w : World)
abbrev b170_1 : X := (.cond (.t 11) (.reg [0, 3, 4] (.c (.q 12 [] (.mv (.t 4))) (.c (.q 13 [] (.ssl 1 (.t 12) none (some (.c (.int .i64 200))))) (.c (.q 4 [] (.mv (.t 13))) .nil)))) .skip)
def t170_1 := b170_1
theorem u170_1 : vcK P t170_1 k e w = vcK P b170_1 k e w := rfl
abbrev b170_2 : X := (.cond (.t 31) (.reg [4] (.c (.q 33 [] (.mv (.t 0))) (.c (.q 34 [] (.fa 1 (.t 3))) (.c (.q 35 [] (.ld (.t 34))) (.c (.e (some 36) [] (.call true 233 [(.t 33), (.t 35), (.c (.int .i64 8))])) (.c (.q 4 [] (.mv (.t 36))) .nil)))))) .skip)
def t170_2 := b170_2
theorem u170_2 : vcK P t170_2 k e w = vcK P b170_2 k e w := rfl
abbrev b170_3 : X := (.cond (.t 22) (.reg [4] (.c (.q 24 [] (.mv (.t 4))) (.c (.q 25 [] (.mv (.t 0))) (.c (.q 26 [] (.mv (.t 4))) (.c (.q 27 [] (.lens (.t 26))) (.c (.e (some 28) [] (.call true 148 [(.t 25), (.t 27)])) (.c (.q 29 [] (.bin .add (.c (.int .i64 1)) (.t 28))) (.c (.q 30 [] (.ssl 1 (.t 24) none (some (.t 29)))) (.c (.q 4 [] (.mv (.t 30))) .nil))))))))) (.seq (.reg [0, 3, 4, 31] (.c (.q 32 [] (.bin .eql (.t 15) (.c (.int .i64 2)))) (.c (.q 31 [] (.mv (.t 32))) .nil))) t170_2))
def t170_3 := b170_3
theorem u170_3 : vcK P t170_3 k e w = vcK P b170_3 k e w := rfl
abbrev b170_4 : X := (.cond (.t 16) (.reg [4] (.c (.q 18 [] (.mv (.t 4))) (.c (.e (some 19) [] (.call false 183 [(.t 18)])) (.c (.q 20 [] (.mv (.t 4))) (.c (.e (some 21) [] (.app 24 9 1 16 [(S [])] 24 (.t 19) (.t 20))) (.c (.q 4 [] (.mv (.t 21))) .nil)))))) (.seq (.reg [0, 3, 4, 15, 22] (.c (.q 23 [] (.bin .eql (.t 15) (.c (.int .i64 1)))) (.c (.q 22 [] (.mv (.t 23))) .nil))) t170_3))
def t170_4 := b170_4
theorem u170_4 : vcK P t170_4 k e w = vcK P b170_4 k e w := rfl
abbrev b170_5 : X := (.blk 0 (.seq (.reg [0, 3, 4, 15, 16] (.c (.q 17 [] (.bin .eql (.t 15) (.c (.int .i64 0)))) (.c (.q 16 [] (.mv (.t 17))) .nil))) t170_4))
def t170_5 := b170_5
theorem u170_5 : vcK P t170_5 k e w = vcK P b170_5 k e w := rfl
abbrev b170_6 : X := (.seq (.reg [2] (.c (.q 37 [] (.mv (.t 4))) (.c (.q 2 [] (.mv (.t 37))) .nil))) .ret)
def t170_6 := b170_6
theorem u170_6 : vcK P t170_6 k e w = vcK P b170_6 k e w := rfl
abbrev b170_7 : X := (.seq (.seq (.reg [0, 3, 4, 15] (.c (.q 14 [] (.mv (.t 0))) (.c (.e (some 15) [] (.call true 148 [(.t 14), (.c (.int .i64 6))])) .nil))) t170_5) t170_6)
def t170_7 := b170_7
theorem u170_7 : vcK P t170_7 k e w = vcK P b170_7 k e w := rfl
abbrev b170_8 : X := (.seq (.seq (.reg [0, 3, 4, 11] (.c (.q 9 [] (.mv (.t 4))) (.c (.q 10 [] (.lens (.t 9))) (.c (.q 11 [] (.bin .gtr (.t 10) (.c (.int .i64 200)))) .nil)))) t170_1) t170_7)
def t170_8 := b170_8
theorem u170_8 : vcK P t170_8 k e w = vcK P b170_8 k e w := rfl
abbrev b170_9 : X := (.seq (.reg [0, 3, 4] (.c (.q 7 [] (.lda 3 (.t 3))) (.c (.e (some 8) [] (.call false 273 [(.t 7)])) (.c (.q 4 [] (.mv (.t 8))) .nil)))) t170_8)
def t170_9 := b170_9
theorem u170_9 : vcK P t170_9 k e w = vcK P b170_9 k e w := rfl
abbrev b170_10 : X := (.seq (.reg [0, 3] (.c (.q 5 [] (.mv (.t 0))) (.c (.e (some 6) [] (.call true 147 [(.t 5)])) (.c (.e (some 3) [] (.al 26 [(S []), (.int .i64 0), (.slice none 0 0)])) (.c (.e none [] (.st 3 (.t 3) (.t 6))) .nil))))) t170_9)
def t170_10 := b170_10
theorem u170_10 : vcK P t170_10 k e w = vcK P b170_10 k e w := rfl
abbrev b170_0 : X := (.seq (.reg [0] (.c (.q 2 [] (.mv (.c (.slice none 0 0)))) .nil)) t170_10)
def x_sl1Cur_rung := b170_0
theorem u170_0 : vcK P x_sl1Cur_rung k e w = vcK P b170_0 k e w := rfl
def r_sl1Cur_rung : List XO := [(.mv (.t 2))]
theorem c_sl1Cur_rung : convF Try.prog [147, 148, 152, 160, 162, 163, 170, 178, 206, 208, 210, 224, 233, 235, 236, 251, 264, 265, 268, 270, 287, 322] Try.f170 [([0], []), ([0, 3], []), ([0, 3, 4], []), ([0, 3, 4, 11], []), ([0, 3, 4], []), ([0, 3, 4, 15], []), ([0, 3, 4, 15, 16], []), ([4], []), ([0, 3, 4, 15, 22], []), ([4], []), ([0, 3, 4, 31], []), ([4], []), ([2], [])] = some (x_sl1Cur_rung, r_sl1Cur_rung) := by kernel_rfl
def us_sl1Cur_rung :=  (aI (aI (aI @u170_0 @u170_1) (aI @u170_2 (aI @u170_3 @u170_4))) (aI (aI @u170_5 (aI @u170_6 @u170_7)) (aI @u170_8 (aI @u170_9 @u170_10))))
abbrev b45_1 : X := (.seq (.reg [2] (.c (.q 7 [] (.mv (.t 3))) (.c (.e (some 8) [] (.call true 170 [(.t 7)])) (.c (.q 2 [] (.mv (.t 8))) .nil)))) .ret)
def t45_1 := b45_1
theorem u45_1 : vcK P t45_1 k e w = vcK P b45_1 k e w := rfl
abbrev b45_2 : X := (.seq (.reg [3] (.c (.q 4 [] (.mv (.t 0))) (.c (.q 5 [] (.bld [(.slice none 0 0), (.int .i64 0), (.int .u64 0)] [(0, 0, (.t 4))])) (.c (.e (some 6) [] (.box 121 (.t 5))) (.c (.q 3 [] (.mv (.t 6))) .nil))))) t45_1)
def t45_2 := b45_2
theorem u45_2 : vcK P t45_2 k e w = vcK P b45_2 k e w := rfl
abbrev b45_0 : X := (.seq (.reg [0] (.c (.q 2 [] (.mv (.c (.slice none 0 0)))) .nil)) t45_2)
def x_sDrawIsTrueList := b45_0
theorem u45_0 : vcK P x_sDrawIsTrueList k e w = vcK P b45_0 k e w := rfl
def r_sDrawIsTrueList : List XO := [(.mv (.t 2))]
theorem c_sDrawIsTrueList : convF Try.prog [147, 148, 152, 160, 162, 163, 170, 178, 206, 208, 210, 224, 233, 235, 236, 251, 264, 265, 268, 270, 287, 322] Try.f45 [([0], []), ([3], []), ([2], [])] = some (x_sDrawIsTrueList, r_sDrawIsTrueList) := by kernel_rfl
def us_sDrawIsTrueList :=  (aI @u45_0 (aI @u45_1 @u45_2))
abbrev b26_1 : X := (.cond (.t 10) (.seq (.reg [4] (.c (.q 4 [] (.mv (.c (.bool false)))) .nil)) .ret) .skip)
def t26_1 := b26_1
theorem u26_1 : vcK P t26_1 k e w = vcK P b26_1 k e w := rfl
abbrev b26_2 : X := (.cond (.t 24) (.seq (.reg [4] (.c (.q 4 [] (.mv (.c (.bool false)))) .nil)) .ret) .skip)
def t26_2 := b26_2
theorem u26_2 : vcK P t26_2 k e w = vcK P b26_2 k e w := rfl
abbrev b26_3 : X := (.seq (.drw [0, 1, 12, 13, 24] (.c (.q 16 [] (.mv (.t 0))) (.c (.q 17 [] (.mv (.t 5))) (.c (.q 18 [] (.ia 1 (.t 16) (.t 17))) (.c (.q 19 [] (.ld (.t 18))) (.c (.q 20 [] (.mv (.t 1))) (.c (.q 21 [] (.mv (.t 5))) (.c (.q 22 [] (.ia 1 (.t 20) (.t 21))) (.c (.q 23 [] (.ld (.t 22))) (.c (.q 24 [] (.bin .neq (.t 19) (.t 23))) .nil)))))))))) t26_2)
def t26_3 := b26_3
theorem u26_3 : vcK P t26_3 k e w = vcK P b26_3 k e w := rfl
abbrev b26_4 : X := (.reg [0, 1, 12, 13] (.c (.q 25 [] (.bin .add (.t 13) (.c (.int .i64 1)))) (.c (.q 13 [] (.mv (.t 25))) .nil)))
def t26_4 := b26_4
theorem u26_4 : vcK P t26_4 k e w = vcK P b26_4 k e w := rfl
abbrev b26_5 : X := (.seq (.blk 1 (.seq (.reg [0, 1, 5, 12, 13] (.c (.q 15 [] (.mv (.t 13))) (.c (.q 5 [] (.mv (.t 15))) .nil))) t26_3)) t26_4)
def t26_5 := b26_5
theorem u26_5 : vcK P t26_5 k e w = vcK P b26_5 k e w := rfl
abbrev b26_6 : X := (.seq (.cond (.t 14) .skip (.exit 0)) t26_5)
def t26_6 := b26_6
theorem u26_6 : vcK P t26_6 k e w = vcK P b26_6 k e w := rfl
abbrev b26_7 : X := (.seq (.reg [0, 1, 12, 13, 14] (.c (.q 14 [] (.bin .lss (.t 13) (.t 12))) .nil)) t26_6)
def t26_7 := b26_7
theorem u26_7 : vcK P t26_7 k e w = vcK P b26_7 k e w := rfl
abbrev b26_8 : X := (.blk 0 (.loop [13] [0, 1, 12] t26_7))
def t26_8 := b26_8
theorem u26_8 : vcK P t26_8 k e w = vcK P b26_8 k e w := rfl
abbrev b26_9 : X := (.seq (.reg [4] (.c (.q 4 [] (.mv (.c (.bool true)))) .nil)) .ret)
def t26_9 := b26_9
theorem u26_9 : vcK P t26_9 k e w = vcK P b26_9 k e w := rfl
abbrev b26_10 : X := (.seq (.seq (.reg [0, 1, 12, 13] (.c (.q 11 [] (.mv (.t 0))) (.c (.q 12 [] (.lens (.t 11))) (.c (.q 13 [] (.mv (.c (.int .i64 0)))) .nil)))) t26_8) t26_9)
def t26_10 := b26_10
theorem u26_10 : vcK P t26_10 k e w = vcK P b26_10 k e w := rfl
abbrev b26_11 : X := (.seq (.seq (.reg [0, 1, 10] (.c (.q 6 [] (.mv (.t 0))) (.c (.q 7 [] (.lens (.t 6))) (.c (.q 8 [] (.mv (.t 1))) (.c (.q 9 [] (.lens (.t 8))) (.c (.q 10 [] (.bin .neq (.t 7) (.t 9))) .nil)))))) t26_1) t26_10)
def t26_11 := b26_11
theorem u26_11 : vcK P t26_11 k e w = vcK P b26_11 k e w := rfl
abbrev b26_0 : X := (.seq (.reg [0, 1] (.c (.q 4 [] (.mv (.c (.bool false)))) .nil)) t26_11)
def x_lsameInts := b26_0
theorem u26_0 : vcK P x_lsameInts k e w = vcK P b26_0 k e w := rfl
def r_lsameInts : List XO := [(.mv (.t 4))]
theorem c_lsameInts : convF Try.prog [147, 148, 152, 160, 162, 163, 170, 178, 206, 208, 210, 224, 233, 235, 236, 251, 264, 265, 268, 270, 287, 322] Try.f26 [([0, 1], []), ([0, 1, 10], []), ([4], []), ([0, 1, 12, 13], []), ([13], [0, 1, 12]), ([0, 1, 12, 13, 14], []), ([0, 1, 5, 12, 13], []), ([0, 1, 12, 13, 24], []), ([4], []), ([0, 1, 12, 13], []), ([4], [])] = some (x_lsameInts, r_lsameInts) := by kernel_rfl
def us_lsameInts :=  (aI (aI (aI @u26_0 (aI @u26_1 @u26_2)) (aI @u26_3 (aI @u26_4 @u26_5))) (aI (aI @u26_6 (aI @u26_7 @u26_8)) (aI @u26_9 (aI @u26_10 @u26_11))))
abbrev b71_1 : X := (.cond (.t 17) (.reg [4] (.c (.q 18 [] (.mv (.t 4))) (.c (.q 19 [] (.mv (.t 4))) (.c (.e (some 20) [] (.app 24 9 1 16 [(S [])] 24 (.t 18) (.t 19))) (.c (.q 4 [] (.mv (.t 20))) .nil))))) .skip)
def t71_1 := b71_1
theorem u71_1 : vcK P t71_1 k e w = vcK P b71_1 k e w := rfl
abbrev b71_2 : X := (.seq (.reg [2] (.c (.q 21 [] (.mv (.t 4))) (.c (.q 2 [] (.mv (.t 21))) .nil))) .ret)
def t71_2 := b71_2
theorem u71_2 : vcK P t71_2 k e w = vcK P b71_2 k e w := rfl
abbrev b71_3 : X := (.seq (.seq (.reg [4, 17] (.c (.q 16 [] (.mv (.t 3))) (.c (.e (some 17) [] (.call true 160 [(.t 16), (.c (.int .i64 2))])) .nil))) t71_1) t71_2)
def t71_3 := b71_3
theorem u71_3 : vcK P t71_3 k e w = vcK P b71_3 k e w := rfl
abbrev b71_4 : X := (.cond (.t 10) (.seq (.reg [3, 4] (.c (.e (some 12) [] (.bsl 9 1 [(.s [50, 49, 51]), (.s [49, 51, 50])])) (.c (.e (some 13) [] (.call false 194 [(.t 12)])) (.c (.q 11 [] (.mv (.t 13))) (.c (.q 14 [] (.ext 0 (.t 11))) (.c (.q 15 [] (.ext 1 (.t 11))) (.c (.q 4 [] (.mv (.t 14))) (.c (.q 5 [] (.mv (.t 15))) .nil)))))))) t71_3) .skip)
def t71_4 := b71_4
theorem u71_4 : vcK P t71_4 k e w = vcK P b71_4 k e w := rfl
abbrev b71_5 : X := (.seq (.reg [2] (.c (.q 22 [] (.mv (.t 3))) (.c (.e (some 23) [] (.call true 170 [(.t 22)])) (.c (.q 2 [] (.mv (.t 23))) .nil)))) .ret)
def t71_5 := b71_5
theorem u71_5 : vcK P t71_5 k e w = vcK P b71_5 k e w := rfl
abbrev b71_6 : X := (.seq (.seq (.reg [3, 10] (.c (.q 9 [] (.mv (.t 3))) (.c (.e (some 10) [] (.call true 160 [(.t 9), (.c (.int .i64 3))])) .nil))) t71_4) t71_5)
def t71_6 := b71_6
theorem u71_6 : vcK P t71_6 k e w = vcK P b71_6 k e w := rfl
abbrev b71_7 : X := (.seq (.reg [3] (.c (.q 6 [] (.mv (.t 0))) (.c (.q 7 [] (.bld [(.slice none 0 0), (.int .i64 0), (.int .u64 0)] [(0, 0, (.t 6))])) (.c (.e (some 8) [] (.box 121 (.t 7))) (.c (.q 3 [] (.mv (.t 8))) .nil))))) t71_6)
def t71_7 := b71_7
theorem u71_7 : vcK P t71_7 k e w = vcK P b71_7 k e w := rfl
abbrev b71_0 : X := (.seq (.reg [0] (.c (.q 2 [] (.mv (.c (.slice none 0 0)))) .nil)) t71_7)
def x_sDrawIsLevel := b71_0
theorem u71_0 : vcK P x_sDrawIsLevel k e w = vcK P b71_0 k e w := rfl
def r_sDrawIsLevel : List XO := [(.mv (.t 2))]
theorem c_sDrawIsLevel : convF Try.prog [147, 148, 152, 160, 162, 163, 170, 178, 206, 208, 210, 224, 233, 235, 236, 251, 264, 265, 268, 270, 287, 322] Try.f71 [([0], []), ([3], []), ([3, 10], []), ([3, 4], []), ([4, 17], []), ([4], []), ([2], []), ([2], [])] = some (x_sDrawIsLevel, r_sDrawIsLevel) := by kernel_rfl
def us_sDrawIsLevel :=  (aI (aI (aI @u71_0 @u71_1) (aI @u71_2 @u71_3)) (aI (aI @u71_4 @u71_5) (aI @u71_6 @u71_7)))
abbrev b78_1 : X := (.seq (.reg [2] (.c (.q 3 [] (.mv (.t 0))) (.c (.e (some 4) [] (.call false 45 [(.t 3)])) (.c (.q 2 [] (.mv (.t 4))) .nil)))) .ret)
def t78_1 := b78_1
theorem u78_1 : vcK P t78_1 k e w = vcK P b78_1 k e w := rfl
abbrev b78_0 : X := (.seq (.reg [0] (.c (.q 2 [] (.mv (.c (.slice none 0 0)))) .nil)) t78_1)
def x_sDrawAreNext := b78_0
theorem u78_0 : vcK P x_sDrawAreNext k e w = vcK P b78_0 k e w := rfl
def r_sDrawAreNext : List XO := [(.mv (.t 2))]
theorem c_sDrawAreNext : convF Try.prog [147, 148, 152, 160, 162, 163, 170, 178, 206, 208, 210, 224, 233, 235, 236, 251, 264, 265, 268, 270, 287, 322] Try.f78 [([0], []), ([2], [])] = some (x_sDrawAreNext, r_sDrawAreNext) := by kernel_rfl
def us_sDrawAreNext :=  (aI @u78_0 @u78_1)
abbrev b7_1 : X := (.cond (.t 33) (.seq (.reg [4] (.c (.q 4 [] (.mv (.c (.bool true)))) .nil)) .ret) .skip)
def t7_1 := b7_1
theorem u7_1 : vcK P t7_1 k e w = vcK P b7_1 k e w := rfl
abbrev b7_2 : X := (.cond (.t 105) (.seq (.reg [4] (.c (.q 4 [] (.mv (.c (.bool false)))) .nil)) .ret) .skip)
def t7_2 := b7_2
theorem u7_2 : vcK P t7_2 k e w = vcK P b7_2 k e w := rfl
abbrev b7_3 : X := (.cond (.t 117) (.reg [1, 5, 6, 14, 18, 19, 107, 108, 109] (.c (.q 118 [] (.mv (.t 19))) (.c (.q 119 [] (.bin .add (.t 118) (.c (.int .i64 1)))) (.c (.q 19 [] (.mv (.t 119))) .nil)))) .skip)
def t7_3 := b7_3
theorem u7_3 : vcK P t7_3 k e w = vcK P b7_3 k e w := rfl
abbrev b7_4 : X := (.seq (.reg [1, 5, 6, 14, 18, 19, 107, 108, 109, 117] (.c (.q 116 [] (.mv (.t 21))) (.c (.q 117 [] (.bin .eql (.t 116) (.c (.int .i64 0)))) .nil))) t7_3)
def t7_4 := b7_4
theorem u7_4 : vcK P t7_4 k e w = vcK P b7_4 k e w := rfl
abbrev b7_5 : X := (.seq (.reg [1, 5, 6, 14, 18, 19, 21, 107, 108, 109] (.c (.q 113 [] (.mv (.t 18))) (.c (.q 114 [] (.mv (.t 21))) (.c (.q 115 [] (.bin .add (.t 113) (.t 114))) (.c (.q 18 [] (.mv (.t 115))) .nil))))) t7_4)
def t7_5 := b7_5
theorem u7_5 : vcK P t7_5 k e w = vcK P b7_5 k e w := rfl
abbrev b7_6 : X := (.reg [1, 5, 6, 14, 18, 19, 107, 108, 109] (.c (.q 120 [] (.bin .add (.t 109) (.c (.int .i64 1)))) (.c (.q 109 [] (.mv (.t 120))) .nil)))
def t7_6 := b7_6
theorem u7_6 : vcK P t7_6 k e w = vcK P b7_6 k e w := rfl
abbrev b7_7 : X := (.seq (.blk 1 (.seq (.reg [1, 5, 6, 14, 18, 19, 21, 107, 108, 109] (.c (.q 111 [] (.ia 1 (.t 107) (.t 109))) (.c (.q 112 [] (.ld (.t 111))) (.c (.q 21 [] (.mv (.t 112))) .nil)))) t7_5)) t7_6)
def t7_7 := b7_7
theorem u7_7 : vcK P t7_7 k e w = vcK P b7_7 k e w := rfl
abbrev b7_8 : X := (.seq (.cond (.t 110) .skip (.exit 0)) t7_7)
def t7_8 := b7_8
theorem u7_8 : vcK P t7_8 k e w = vcK P b7_8 k e w := rfl
abbrev b7_9 : X := (.seq (.reg [1, 5, 6, 14, 18, 19, 107, 108, 109, 110] (.c (.q 110 [] (.bin .lss (.t 109) (.t 108))) .nil)) t7_8)
def t7_9 := b7_9
theorem u7_9 : vcK P t7_9 k e w = vcK P b7_9 k e w := rfl
abbrev b7_10 : X := (.blk 0 (.loop [18, 19, 109] [1, 5, 6, 14, 107, 108] t7_9))
def t7_10 := b7_10
theorem u7_10 : vcK P t7_10 k e w = vcK P b7_10 k e w := rfl
abbrev b7_11 : X := (.cond (.t 137) (.seq (.reg [4] (.c (.q 4 [] (.mv (.c (.bool false)))) .nil)) .ret) .skip)
def t7_11 := b7_11
theorem u7_11 : vcK P t7_11 k e w = vcK P b7_11 k e w := rfl
abbrev b7_12 : X := (.seq (.reg [1, 137] (.c (.q 121 [] (.mv (.t 18))) (.c (.q 122 [] (.mv (.t 5))) (.c (.q 123 [] (.lens (.t 122))) (.c (.q 124 [] (.bin .neq (.t 121) (.t 123))) (.c (.q 125 [] (.mv (.t 124))) (.c (.q 126 [(125, false)] (.mv (.t 19))) (.c (.q 127 [(125, false)] (.mv (.t 14))) (.c (.q 128 [(125, false)] (.lens (.t 127))) (.c (.q 129 [(125, false)] (.bin .neq (.t 126) (.t 128))) (.c (.q 130 [] (.pick (.t 125) (.c (.bool true)) (.t 129))) (.c (.q 131 [] (.mv (.t 130))) (.c (.q 132 [(131, false)] (.mv (.t 6))) (.c (.q 133 [(131, false)] (.mv (.t 132))) (.c (.q 134 [(133, true), (131, false)] (.mv (.t 19))) (.c (.q 135 [(133, true), (131, false)] (.bin .gtr (.t 134) (.c (.int .i64 0)))) (.c (.q 136 [(131, false)] (.pick (.t 133) (.t 135) (.c (.bool false)))) (.c (.q 137 [] (.pick (.t 131) (.c (.bool true)) (.t 136))) .nil)))))))))))))))))) t7_11)
def t7_12 := b7_12
theorem u7_12 : vcK P t7_12 k e w = vcK P b7_12 k e w := rfl
abbrev b7_13 : X := (.seq (.seq (.reg [1, 5, 6, 14, 18, 19, 107, 108, 109] (.c (.q 107 [] (.mv (.t 10))) (.c (.q 108 [] (.lens (.t 107))) (.c (.q 109 [] (.mv (.c (.int .i64 0)))) .nil)))) t7_10) t7_12)
def t7_13 := b7_13
theorem u7_13 : vcK P t7_13 k e w = vcK P b7_13 k e w := rfl
abbrev b7_14 : X := (.cond (.t 106) (.seq (.reg [1, 5, 6, 10, 14, 18, 19] (.c (.q 18 [] (.mv (.c (.int .i64 0)))) (.c (.q 19 [] (.mv (.c (.int .i64 0)))) .nil))) t7_13) .skip)
def t7_14 := b7_14
theorem u7_14 : vcK P t7_14 k e w = vcK P b7_14 k e w := rfl
abbrev b7_15 : X := (.cond (.t 178) (.seq (.reg [4] (.c (.q 4 [] (.mv (.c (.bool false)))) .nil)) .ret) .skip)
def t7_15 := b7_15
theorem u7_15 : vcK P t7_15 k e w = vcK P b7_15 k e w := rfl
abbrev b7_16 : X := (.seq (.reg [4] (.c (.q 179 [] (.mv (.t 28))) (.c (.q 180 [] (.mv (.t 24))) (.c (.q 181 [] (.mv (.t 180))) (.c (.q 182 [(181, true)] (.mv (.t 23))) (.c (.q 183 [] (.pick (.t 181) (.t 182) (.c (.bool false)))) (.c (.q 184 [] (.beq false (.t 179) (.t 183))) (.c (.q 4 [] (.mv (.t 184))) .nil)))))))) .ret)
def t7_16 := b7_16
theorem u7_16 : vcK P t7_16 k e w = vcK P b7_16 k e w := rfl
abbrev b7_17 : X := (.seq (.seq (.reg [23, 24, 28, 178] (.c (.q 160 [] (.mv (.t 24))) (.c (.q 161 [] (.mv (.t 26))) (.c (.q 162 [] (.beq true (.t 160) (.t 161))) (.c (.q 163 [] (.mv (.t 162))) (.c (.q 164 [(163, false)] (.mv (.t 23))) (.c (.q 165 [(163, false)] (.mv (.t 25))) (.c (.q 166 [(163, false)] (.beq true (.t 164) (.t 165))) (.c (.q 167 [] (.pick (.t 163) (.c (.bool true)) (.t 166))) (.c (.q 168 [] (.mv (.t 167))) (.c (.q 169 [(168, false)] (.mv (.t 28))) (.c (.q 170 [(168, false)] (.mv (.t 30))) (.c (.q 171 [(168, false)] (.beq true (.t 169) (.t 170))) (.c (.q 172 [] (.pick (.t 168) (.c (.bool true)) (.t 171))) (.c (.q 173 [] (.mv (.t 172))) (.c (.q 174 [(173, false)] (.mv (.t 27))) (.c (.q 175 [(173, false)] (.mv (.t 29))) (.c (.e (some 176) [(173, false)] (.call false 23 [(.t 174), (.t 175)])) (.c (.q 177 [(173, false)] (.not (.t 176))) (.c (.q 178 [] (.pick (.t 173) (.c (.bool true)) (.t 177))) .nil)))))))))))))))))))) t7_15) t7_16)
def t7_17 := b7_17
theorem u7_17 : vcK P t7_17 k e w = vcK P b7_17 k e w := rfl
abbrev b7_18 : X := (.seq (.reg [23, 24, 25, 26, 27, 28, 29, 30] (.c (.q 156 [] (.mv (.t 22))) (.c (.e (some 157) [] (.call false 82 [(.t 156)])) (.c (.q 155 [] (.mv (.t 157))) (.c (.q 158 [] (.ext 0 (.t 155))) (.c (.q 159 [] (.ext 1 (.t 155))) (.c (.q 29 [] (.mv (.t 158))) (.c (.q 30 [] (.mv (.t 159))) .nil)))))))) t7_17)
def t7_18 := b7_18
theorem u7_18 : vcK P t7_18 k e w = vcK P b7_18 k e w := rfl
abbrev b7_19 : X := (.seq (.reg [22, 23, 24, 25, 26, 27, 28] (.c (.q 151 [] (.mv (.t 22))) (.c (.e (some 152) [] (.call false 81 [(.t 151)])) (.c (.q 150 [] (.mv (.t 152))) (.c (.q 153 [] (.ext 0 (.t 150))) (.c (.q 154 [] (.ext 1 (.t 150))) (.c (.q 27 [] (.mv (.t 153))) (.c (.q 28 [] (.mv (.t 154))) .nil)))))))) t7_18)
def t7_19 := b7_19
theorem u7_19 : vcK P t7_19 k e w = vcK P b7_19 k e w := rfl
abbrev b7_20 : X := (.seq (.reg [22, 23, 24, 25, 26] (.c (.q 146 [] (.mv (.t 22))) (.c (.e (some 147) [] (.call false 80 [(.t 146)])) (.c (.q 145 [] (.mv (.t 147))) (.c (.q 148 [] (.ext 0 (.t 145))) (.c (.q 149 [] (.ext 1 (.t 145))) (.c (.q 25 [] (.mv (.t 148))) (.c (.q 26 [] (.mv (.t 149))) .nil)))))))) t7_19)
def t7_20 := b7_20
theorem u7_20 : vcK P t7_20 k e w = vcK P b7_20 k e w := rfl
abbrev b7_21 : X := (.seq (.reg [22, 23, 24] (.c (.q 141 [] (.mv (.t 22))) (.c (.e (some 142) [] (.call false 79 [(.t 141)])) (.c (.q 140 [] (.mv (.t 142))) (.c (.q 143 [] (.ext 0 (.t 140))) (.c (.q 144 [] (.ext 1 (.t 140))) (.c (.q 23 [] (.mv (.t 143))) (.c (.q 24 [] (.mv (.t 144))) .nil)))))))) t7_20)
def t7_21 := b7_21
theorem u7_21 : vcK P t7_21 k e w = vcK P b7_21 k e w := rfl
abbrev b7_22 : X := (.seq (.reg [22] (.c (.q 138 [] (.mv (.t 1))) (.c (.e (some 139) [] (.call false 78 [(.t 138)])) (.c (.q 22 [] (.mv (.t 139))) .nil)))) t7_21)
def t7_22 := b7_22
theorem u7_22 : vcK P t7_22 k e w = vcK P b7_22 k e w := rfl
abbrev b7_23 : X := (.seq (.seq (.reg [1, 5, 6, 10, 14, 106] (.c (.q 106 [] (.mv (.t 7))) .nil)) t7_14) t7_22)
def t7_23 := b7_23
theorem u7_23 : vcK P t7_23 k e w = vcK P b7_23 k e w := rfl
abbrev b7_24 : X := (.seq (.seq (.reg [1, 5, 6, 7, 10, 14, 105] (.c (.q 66 [] (.mv (.t 7))) (.c (.q 67 [] (.mv (.t 9))) (.c (.q 68 [] (.beq true (.t 66) (.t 67))) (.c (.q 69 [] (.mv (.t 68))) (.c (.q 70 [(69, false)] (.mv (.t 6))) (.c (.q 71 [(69, false)] (.mv (.t 8))) (.c (.q 72 [(69, false)] (.beq true (.t 70) (.t 71))) (.c (.q 73 [] (.pick (.t 69) (.c (.bool true)) (.t 72))) (.c (.q 74 [] (.mv (.t 73))) (.c (.q 75 [(74, false)] (.mv (.t 11))) (.c (.q 76 [(74, false)] (.mv (.t 13))) (.c (.q 77 [(74, false)] (.beq true (.t 75) (.t 76))) (.c (.q 78 [] (.pick (.t 74) (.c (.bool true)) (.t 77))) (.c (.q 79 [] (.mv (.t 78))) (.c (.q 80 [(79, false)] (.mv (.t 10))) (.c (.q 81 [(79, false)] (.mv (.t 12))) (.c (.e (some 82) [(79, false)] (.call false 26 [(.t 80), (.t 81)])) (.c (.q 83 [(79, false)] (.not (.t 82))) (.c (.q 84 [] (.pick (.t 79) (.c (.bool true)) (.t 83))) (.c (.q 85 [] (.mv (.t 84))) (.c (.q 86 [(85, false)] (.mv (.t 15))) (.c (.q 87 [(85, false)] (.mv (.t 17))) (.c (.q 88 [(85, false)] (.beq true (.t 86) (.t 87))) (.c (.q 89 [] (.pick (.t 85) (.c (.bool true)) (.t 88))) (.c (.q 90 [] (.mv (.t 89))) (.c (.q 91 [(90, false)] (.mv (.t 14))) (.c (.q 92 [(90, false)] (.mv (.t 16))) (.c (.e (some 93) [(90, false)] (.call false 23 [(.t 91), (.t 92)])) (.c (.q 94 [(90, false)] (.not (.t 93))) (.c (.q 95 [] (.pick (.t 90) (.c (.bool true)) (.t 94))) (.c (.q 96 [] (.mv (.t 95))) (.c (.q 97 [(96, false)] (.mv (.t 7))) (.c (.q 98 [(96, false)] (.mv (.t 11))) (.c (.q 99 [(96, false)] (.beq true (.t 97) (.t 98))) (.c (.q 100 [] (.pick (.t 96) (.c (.bool true)) (.t 99))) (.c (.q 101 [] (.mv (.t 100))) (.c (.q 102 [(101, false)] (.mv (.t 7))) (.c (.q 103 [(101, false)] (.mv (.t 15))) (.c (.q 104 [(101, false)] (.beq true (.t 102) (.t 103))) (.c (.q 105 [] (.pick (.t 101) (.c (.bool true)) (.t 104))) .nil))))))))))))))))))))))))))))))))))))))))) t7_2) t7_23)
def t7_24 := b7_24
theorem u7_24 : vcK P t7_24 k e w = vcK P b7_24 k e w := rfl
abbrev b7_25 : X := (.seq (.reg [1, 5, 6, 7, 8, 9, 10, 11, 12, 13, 14, 15, 16, 17] (.c (.q 62 [] (.mv (.t 5))) (.c (.e (some 63) [] (.call false 77 [(.t 62)])) (.c (.q 61 [] (.mv (.t 63))) (.c (.q 64 [] (.ext 0 (.t 61))) (.c (.q 65 [] (.ext 1 (.t 61))) (.c (.q 16 [] (.mv (.t 64))) (.c (.q 17 [] (.mv (.t 65))) .nil)))))))) t7_24)
def t7_25 := b7_25
theorem u7_25 : vcK P t7_25 k e w = vcK P b7_25 k e w := rfl
abbrev b7_26 : X := (.seq (.reg [1, 5, 6, 7, 8, 9, 10, 11, 12, 13, 14, 15] (.c (.q 57 [] (.mv (.t 5))) (.c (.e (some 58) [] (.call false 76 [(.t 57)])) (.c (.q 56 [] (.mv (.t 58))) (.c (.q 59 [] (.ext 0 (.t 56))) (.c (.q 60 [] (.ext 1 (.t 56))) (.c (.q 14 [] (.mv (.t 59))) (.c (.q 15 [] (.mv (.t 60))) .nil)))))))) t7_25)
def t7_26 := b7_26
theorem u7_26 : vcK P t7_26 k e w = vcK P b7_26 k e w := rfl
abbrev b7_27 : X := (.seq (.reg [1, 5, 6, 7, 8, 9, 10, 11, 12, 13] (.c (.q 52 [] (.mv (.t 5))) (.c (.e (some 53) [] (.call false 75 [(.t 52)])) (.c (.q 51 [] (.mv (.t 53))) (.c (.q 54 [] (.ext 0 (.t 51))) (.c (.q 55 [] (.ext 1 (.t 51))) (.c (.q 12 [] (.mv (.t 54))) (.c (.q 13 [] (.mv (.t 55))) .nil)))))))) t7_26)
def t7_27 := b7_27
theorem u7_27 : vcK P t7_27 k e w = vcK P b7_27 k e w := rfl
abbrev b7_28 : X := (.seq (.reg [1, 5, 6, 7, 8, 9, 10, 11] (.c (.q 47 [] (.mv (.t 5))) (.c (.e (some 48) [] (.call false 74 [(.t 47)])) (.c (.q 46 [] (.mv (.t 48))) (.c (.q 49 [] (.ext 0 (.t 46))) (.c (.q 50 [] (.ext 1 (.t 46))) (.c (.q 10 [] (.mv (.t 49))) (.c (.q 11 [] (.mv (.t 50))) .nil)))))))) t7_27)
def t7_28 := b7_28
theorem u7_28 : vcK P t7_28 k e w = vcK P b7_28 k e w := rfl
abbrev b7_29 : X := (.seq (.reg [1, 5, 6, 7, 8, 9] (.c (.q 42 [] (.mv (.t 5))) (.c (.e (some 43) [] (.call false 73 [(.t 42)])) (.c (.q 41 [] (.mv (.t 43))) (.c (.q 44 [] (.ext 0 (.t 41))) (.c (.q 45 [] (.ext 1 (.t 41))) (.c (.q 8 [] (.mv (.t 44))) (.c (.q 9 [] (.mv (.t 45))) .nil)))))))) t7_28)
def t7_29 := b7_29
theorem u7_29 : vcK P t7_29 k e w = vcK P b7_29 k e w := rfl
abbrev b7_30 : X := (.seq (.reg [1, 5, 6, 7] (.c (.q 37 [] (.mv (.t 5))) (.c (.e (some 38) [] (.call false 72 [(.t 37)])) (.c (.q 36 [] (.mv (.t 38))) (.c (.q 39 [] (.ext 0 (.t 36))) (.c (.q 40 [] (.ext 1 (.t 36))) (.c (.q 6 [] (.mv (.t 39))) (.c (.q 7 [] (.mv (.t 40))) .nil)))))))) t7_29)
def t7_30 := b7_30
theorem u7_30 : vcK P t7_30 k e w = vcK P b7_30 k e w := rfl
abbrev b7_31 : X := (.seq (.reg [1, 5] (.c (.q 34 [] (.mv (.t 0))) (.c (.e (some 35) [] (.call false 71 [(.t 34)])) (.c (.q 5 [] (.mv (.t 35))) .nil)))) t7_30)
def t7_31 := b7_31
theorem u7_31 : vcK P t7_31 k e w = vcK P b7_31 k e w := rfl
abbrev b7_32 : X := (.seq (.seq (.reg [0, 1, 33] (.c (.q 31 [] (.mv (.t 0))) (.c (.q 32 [] (.mv (.t 1))) (.c (.e (some 33) [] (.call false 14 [(.t 31), (.t 32)])) .nil)))) t7_1) t7_31)
def t7_32 := b7_32
theorem u7_32 : vcK P t7_32 k e w = vcK P b7_32 k e w := rfl
abbrev b7_0 : X := (.seq (.reg [0, 1] (.c (.q 4 [] (.mv (.c (.bool false)))) .nil)) t7_32)
def x_lFnLevel := b7_0
theorem u7_0 : vcK P x_lFnLevel k e w = vcK P b7_0 k e w := rfl
def r_lFnLevel : List XO := [(.mv (.t 4))]
theorem c_lFnLevel : convF Try.prog [147, 148, 152, 160, 162, 163, 170, 178, 206, 208, 210, 224, 233, 235, 236, 251, 264, 265, 268, 270, 287, 322] Try.f7 [([0, 1], []), ([0, 1, 33], []), ([4], []), ([1, 5], []), ([1, 5, 6, 7], []), ([1, 5, 6, 7, 8, 9], []), ([1, 5, 6, 7, 8, 9, 10, 11], []), ([1, 5, 6, 7, 8, 9, 10, 11, 12, 13], []), ([1, 5, 6, 7, 8, 9, 10, 11, 12, 13, 14, 15], []), ([1, 5, 6, 7, 8, 9, 10, 11, 12, 13, 14, 15, 16, 17], []), ([1, 5, 6, 7, 10, 14, 105], []), ([4], []), ([1, 5, 6, 10, 14, 106], []), ([1, 5, 6, 10, 14, 18, 19], []), ([1, 5, 6, 14, 18, 19, 107, 108, 109], []), ([18, 19, 109], [1, 5, 6, 14, 107, 108]), ([1, 5, 6, 14, 18, 19, 107, 108, 109, 110], []), ([1, 5, 6, 14, 18, 19, 21, 107, 108, 109], []), ([1, 5, 6, 14, 18, 19, 21, 107, 108, 109], []), ([1, 5, 6, 14, 18, 19, 107, 108, 109, 117], []), ([1, 5, 6, 14, 18, 19, 107, 108, 109], []), ([1, 5, 6, 14, 18, 19, 107, 108, 109], []), ([1, 137], []), ([4], []), ([22], []), ([22, 23, 24], []), ([22, 23, 24, 25, 26], []), ([22, 23, 24, 25, 26, 27, 28], []), ([23, 24, 25, 26, 27, 28, 29, 30], []), ([23, 24, 28, 178], []), ([4], []), ([4], [])] = some (x_lFnLevel, r_lFnLevel) := by kernel_rfl
def us_lFnLevel :=  (aI (aI (aI (aI (aI @u7_0 @u7_1) (aI @u7_2 @u7_3)) (aI (aI @u7_4 @u7_5) (aI @u7_6 @u7_7))) (aI (aI (aI @u7_8 @u7_9) (aI @u7_10 @u7_11)) (aI (aI @u7_12 @u7_13) (aI @u7_14 @u7_15)))) (aI (aI (aI (aI @u7_16 @u7_17) (aI @u7_18 @u7_19)) (aI (aI @u7_20 @u7_21) (aI @u7_22 @u7_23))) (aI (aI (aI @u7_24 @u7_25) (aI @u7_26 @u7_27)) (aI (aI @u7_28 @u7_29) (aI @u7_30 (aI @u7_31 @u7_32))))))
end

/-- What is read of a drawn list stays where the cursor goes on. -/
def HeldR (b : Nat) (w : World) (r : Value) (l : List Bs) : Prop := ∀ w', w.grownBy w' (some b) → Sq fS 1 w' r l
theorem HeldR.of {b B : Nat} {w : World} {r : Value} {l : List Bs} (h : Own fS 1 9 B w r l) (hb : b < B) : HeldR b w r l := fun w' hg => (h.keep hg fun c hc => by rw [← Option.some.inj hc]; exact hb).sq
theorem HeldR.go {b : Nat} {w w' : World} {r : Value} {l : List Bs} (h : HeldR b w r l) (hg : w.grownBy w' (some b)) : HeldR b w' r l := fun w'' hg' => h w'' (grown_trans hg hg')
theorem HeldR.sq {b : Nat} {w : World} {r : Value} {l : List Bs} (h : HeldR b w r l) : Sq fS 1 w r l := h w (grown_refl _ _)
theorem sl1Cur_rung_ok (W : World) (b n : Nat) (w : World) (hn : n ≤ 600000000) (hc : Cur W b n w) : CurFn 170 [cV b] W b n 2000 w (fun r w' => ∃ l : List Bs, HeldR b w' r l ∧ l.length ≤ 400) := by
  (refine callsV_of mix Try.func170 c_sl1Cur_rung ?_; simp only [↓vsd, vsn, gW, qd, qv, ev, pick, argE, zipE, ne_eq, eq_self, forall_const, implies_true, if_true, if_false, reduceIte, reduceCtorEq, Nat.reduceEqDiff, Nat.reduceAdd, Nat.reduceLT, ↓us_sl1Cur_rung, r_sl1Cur_rung])
  have hlt := hc.lt
  refine m_callw (.inl rfl) (sl1Cur_method_ok W b n w (by omega) hc) ?_
  rintro _ w2 ⟨hc2, hg2, nm, st, x, cs, rfl, ho2, hm, hst6⟩
  obtain ⟨m, rfl⟩ : ∃ m : Nat, st = m := ⟨st.toNat, by have := hm.2.1; omega⟩
  have hm8 := hm.2.1
  have hcl := hm.2.2.1
  obtain ⟨k, hO⟩ := ord_exists (hdL_row (n := m) (by omega) cs).1
  simp only [↓vsd, vsn, gW, qd, qv, ev, pick, argE, zipE, ne_eq, eq_self, forall_const, implies_true, if_true, if_false, reduceIte, reduceCtorEq, Nat.reduceEqDiff, Nat.reduceAdd, Nat.reduceLT, ↓us_sl1Cur_rung, r_sl1Cur_rung]
  refine m_al ?_
  rintro b3 w3 hb3 hblk3 hx3 hs3
  have hlt2 := hc2.lt
  simp only [↓vsd, vsn, gW, qd, qv, ev, pick, argE, zipE, ne_eq, eq_self, forall_const, implies_true, if_true, if_false, reduceIte, reduceCtorEq, Nat.reduceEqDiff, Nat.reduceAdd, Nat.reduceLT, ↓us_sl1Cur_rung, r_sl1Cur_rung]
  refine m_st hblk3 rfl (Nat.le_refl 3) (fM_one nm m _ ho2.sq.one') ?_
  rintro w4 hblk4 hu4
  have hb4 : Blk w4 b3 (fM nm m x) 26 := hblk4
  have ho4 := (ho2.ext hx3).upd hu4 (ho2.away (by omega))
  have hg24 : w2.grownBy w4 (some b3) := grown_trans (grown_ext _ hx3) hu4.grown
  have hg04 : w.grownBy w4 (some b) := grown_new hg2 hg24 (fun c hc => by have := Option.some.inj hc; have := hg2.size; omega)
  have hc4 := hc2.keep hg24 (fun c hc => by have := Option.some.inj hc; omega)
  simp only [↓vsd, vsn, gW, qd, qv, ev, pick, argE, zipE, ne_eq, eq_self, forall_const, implies_true, if_true, if_false, reduceIte, reduceCtorEq, Nat.reduceEqDiff, Nat.reduceAdd, Nat.reduceLT, ↓us_sl1Cur_rung, r_sl1Cur_rung, hb4.facts, fMg]
  refine m_call (sl4Course_ok nm m x cs k hm hO _ ho4.sq) ?_
  rintro y w5 hx5 ho5
  have hlen : (courseT m cs k).length ≤ 840 * 40 := by
    have h1 : (courseT m cs k).length = k * cs.length := by rw [courseT, leadsL_len]; simp
    rw [h1]; exact Nat.mul_le_mul hO.2.1 hcl.2
  have hC1 : 1 ≤ (courseT m cs k).length := by
    have h1 : (courseT m cs k).length = k * cs.length := by rw [courseT, leadsL_len]; simp
    rw [h1]; exact Nat.mul_le_mul hO.1 hcl.1
  generalize courseT m cs k = C at *
  have hc5 := hc4.ext hx5
  have hb5 := hb4.ext hx5
  have hg05 := grown_trans hg04 (grown_ext (some b) hx5)
  have hbB : b < w4.heap.size := hc4.lt.2
  have hC1 : 1 ≤ C.length := hC1
  by_cases hbig : 200 < C.length
  · have hbI : (200 : Int) < C.length := by omega
    obtain ⟨r1, r2, _⟩ := ho5.head .i64 200 (by omega)
    have r1 : sslD y none (some (.int .i64 200)) = True := r1
    have r2 : Own fS 1 9 w4.heap.size w5 (sslV 1 y none (some (.int .i64 200))) (C.take 200) := r2
    simp only [↓vsd, vsn, gW, qd, qv, ev, pick, argE, zipE, ne_eq, eq_self, forall_const, implies_true, if_true, if_false, reduceIte, reduceCtorEq, Nat.reduceEqDiff, Nat.reduceAdd, Nat.reduceLT, ↓us_sl1Cur_rung, r_sl1Cur_rung, ho5.sq.facts, hbI, r1]
    have hC0 : (C.take 200).length ≤ 200 ∧ 1 ≤ (C.take 200).length := by rw [List.length_take]; omega
    generalize sslV 1 y none (some (.int .i64 200)) = y0 at *
    generalize C.take 200 = C0 at *
    have hoy := r2
    refine m_callw (by first | exact .inl rfl | exact .inr rfl) (sl1Cur_pick_ok W b (n + 60) 6 (by omega) _ (by omega) (by first | exact hc5 | exact hc5.ext (dr (Ext.refl _)))) ?_
    rintro _ w6 ⟨hc6, hg6, p, rfl, hp⟩
    have hg6 : w5.grownBy w6 (some b) := by first | exact hg6 | exact gud hg6
    have ho6 := hoy.keep hg6 (fun c hc => by rw [← Option.some.inj hc]; exact hbB)
    have hb6 := hb5.same (hg6.block b3 hb5.lt (fun e => by have := Option.some.inj e; omega))
    have hg06 := grown_trans hg05 hg6
    by_cases hp0 : p = 0
    · subst hp0
      have q0 : ((0 : Nat) : Int) = 0 := rfl
      simp only [↓vsd, vsn, gW, qd, qv, ev, pick, argE, zipE, ne_eq, eq_self, forall_const, implies_true, if_true, if_false, reduceIte, reduceCtorEq, Nat.reduceEqDiff, Nat.reduceAdd, Nat.reduceLT, ↓us_sl1Cur_rung, r_sl1Cur_rung, q0]
      refine m_call (sl1OwnS_ok y0 C0 (by omega) _ ho6.sq) ?_
      rintro z w7 hx7 ho7
      simp only [↓vsd, vsn, gW, qd, qv, ev, pick, argE, zipE, ne_eq, eq_self, forall_const, implies_true, if_true, if_false, reduceIte, reduceCtorEq, Nat.reduceEqDiff, Nat.reduceAdd, Nat.reduceLT, ↓us_sl1Cur_rung, r_sl1Cur_rung]
      refine m_app ho7 (ho6.sq.ext hx7) fS_one (by decide) (by omega) (by decide) hx7.size ?_
      rintro z8 w8 ho8 hg8
      simp only [↓vsd, vsn, gW, qd, qv, ev, pick, argE, zipE, ne_eq, eq_self, forall_const, implies_true, if_true, if_false, reduceIte, reduceCtorEq, Nat.reduceEqDiff, Nat.reduceAdd, Nat.reduceLT, ↓us_sl1Cur_rung, r_sl1Cur_rung]
      have hs6 := hg6.size
      have hs5 := hx5.size
      exact ⟨((hc6.ext hx7).keep hg8 (fun c hc => by have := (ho7.bound c hc).1; have := hc6.lt.2; omega)).mono (by omega), grown_new (grown_trans hg06 (grown_ext _ hx7)) hg8 (fun c hc => by have := (ho7.bound c hc).1; have := hg06.size; omega), _, HeldR.of ho8 hc6.lt.2, by rw [List.length_append]; omega⟩
    · by_cases hp1 : p = 1
      · subst hp1
        have q0 : ¬ (1 : Int) = 0 := by decide
        have q1 : ((1 : Nat) : Int) = 1 := rfl
        simp only [↓vsd, vsn, gW, qd, qv, ev, pick, argE, zipE, ne_eq, eq_self, forall_const, implies_true, if_true, if_false, reduceIte, reduceCtorEq, Nat.reduceEqDiff, Nat.reduceAdd, Nat.reduceLT, ↓us_sl1Cur_rung, r_sl1Cur_rung, ho6.sq.facts, q0, q1]
        refine m_callw (by first | exact .inl rfl | exact .inr rfl) (sl1Cur_pick_ok W b (n + 60 + 2) (C0.length : Nat) (by omega) _ (by omega) (by first | exact hc6 | exact hc6.ext (dr (Ext.refl _)))) ?_
        rintro _ w7 ⟨hc7, hg7, q, rfl, hq⟩
        have hg7 : w6.grownBy w7 (some b) := by first | exact hg7 | exact gud hg7
        have ho7 := ho6.keep hg7 (fun c hc => by rw [← Option.some.inj hc]; exact hbB)
        have eq1 : (1 : Int) + (q : Nat) = ((1 + q : Nat) : Int) := by omega
        obtain ⟨r1, r2, _⟩ := ho7.head .i64 (1 + q) (by omega)
        simp only [↓vsd, vsn, gW, qd, qv, ev, pick, argE, zipE, ne_eq, eq_self, forall_const, implies_true, if_true, if_false, reduceIte, reduceCtorEq, Nat.reduceEqDiff, Nat.reduceAdd, Nat.reduceLT, ↓us_sl1Cur_rung, r_sl1Cur_rung, eq1, r1]
        exact ⟨inR_i64 (by omega), hc7.mono (by omega), grown_trans hg06 hg7, _, HeldR.of r2 hbB, by rw [List.length_take]; omega⟩
      · by_cases hp2 : p = 2
        · subst hp2
          have q0 : ¬ (2 : Int) = 0 := by decide
          have q1 : ¬ (2 : Int) = 1 := by decide
          have q2 : ((2 : Nat) : Int) = 2 := rfl
          simp only [↓vsd, vsn, gW, qd, qv, ev, pick, argE, zipE, ne_eq, eq_self, forall_const, implies_true, if_true, if_false, reduceIte, reduceCtorEq, Nat.reduceEqDiff, Nat.reduceAdd, Nat.reduceLT, ↓us_sl1Cur_rung, r_sl1Cur_rung, hb6.facts, fMg, q0, q1, q2]
          refine m_callw (by first | exact .inl rfl | exact .inr rfl) (sl1Cur_rowsOf_ok W b (n + 60 + 2) m (by omega) 8 (by omega) _ (by omega) (by first | exact hc6 | exact hc6.ext (dr (Ext.refl _)))) ?_
          rintro z w7 ⟨hc7, hg7, l7, ho7, hl7⟩
          have hg7 : w6.grownBy w7 (some b) := by first | exact hg7 | exact gud hg7
          simp only [↓vsd, vsn, gW, qd, qv, ev, pick, argE, zipE, ne_eq, eq_self, forall_const, implies_true, if_true, if_false, reduceIte, reduceCtorEq, Nat.reduceEqDiff, Nat.reduceAdd, Nat.reduceLT, ↓us_sl1Cur_rung, r_sl1Cur_rung]
          exact ⟨hc7.mono (by omega), grown_trans hg06 hg7, _, HeldR.of ho7 (by first | exact hc6.lt.2 | (have := hc6.lt.2; omega)), by omega⟩
        · have q0 : ¬ (p : Int) = 0 := by omega
          have q1 : ¬ (p : Int) = 1 := by omega
          have q2 : ¬ (p : Int) = 2 := by omega
          simp only [↓vsd, vsn, gW, qd, qv, ev, pick, argE, zipE, ne_eq, eq_self, forall_const, implies_true, if_true, if_false, reduceIte, reduceCtorEq, Nat.reduceEqDiff, Nat.reduceAdd, Nat.reduceLT, ↓us_sl1Cur_rung, r_sl1Cur_rung, q0, q1, q2]
          exact ⟨hc6.mono (by omega), hg06, _, HeldR.of ho6 hbB, by omega⟩
  · have hbI : ¬ (200 : Int) < C.length := by omega
    simp only [↓vsd, vsn, gW, qd, qv, ev, pick, argE, zipE, ne_eq, eq_self, forall_const, implies_true, if_true, if_false, reduceIte, reduceCtorEq, Nat.reduceEqDiff, Nat.reduceAdd, Nat.reduceLT, ↓us_sl1Cur_rung, r_sl1Cur_rung, ho5.sq.facts, hbI]
    have hC0 : C.length ≤ 200 ∧ 1 ≤ C.length := ⟨by omega, hC1⟩
    generalize y = y0 at *
    generalize C = C0 at *
    have hoy := ho5
    refine m_callw (by first | exact .inl rfl | exact .inr rfl) (sl1Cur_pick_ok W b (n + 60) 6 (by omega) _ (by omega) (by first | exact hc5 | exact hc5.ext (dr (Ext.refl _)))) ?_
    rintro _ w6 ⟨hc6, hg6, p, rfl, hp⟩
    have hg6 : w5.grownBy w6 (some b) := by first | exact hg6 | exact gud hg6
    have ho6 := hoy.keep hg6 (fun c hc => by rw [← Option.some.inj hc]; exact hbB)
    have hb6 := hb5.same (hg6.block b3 hb5.lt (fun e => by have := Option.some.inj e; omega))
    have hg06 := grown_trans hg05 hg6
    by_cases hp0 : p = 0
    · subst hp0
      have q0 : ((0 : Nat) : Int) = 0 := rfl
      simp only [↓vsd, vsn, gW, qd, qv, ev, pick, argE, zipE, ne_eq, eq_self, forall_const, implies_true, if_true, if_false, reduceIte, reduceCtorEq, Nat.reduceEqDiff, Nat.reduceAdd, Nat.reduceLT, ↓us_sl1Cur_rung, r_sl1Cur_rung, q0]
      refine m_call (sl1OwnS_ok y0 C0 (by omega) _ ho6.sq) ?_
      rintro z w7 hx7 ho7
      simp only [↓vsd, vsn, gW, qd, qv, ev, pick, argE, zipE, ne_eq, eq_self, forall_const, implies_true, if_true, if_false, reduceIte, reduceCtorEq, Nat.reduceEqDiff, Nat.reduceAdd, Nat.reduceLT, ↓us_sl1Cur_rung, r_sl1Cur_rung]
      refine m_app ho7 (ho6.sq.ext hx7) fS_one (by decide) (by omega) (by decide) hx7.size ?_
      rintro z8 w8 ho8 hg8
      simp only [↓vsd, vsn, gW, qd, qv, ev, pick, argE, zipE, ne_eq, eq_self, forall_const, implies_true, if_true, if_false, reduceIte, reduceCtorEq, Nat.reduceEqDiff, Nat.reduceAdd, Nat.reduceLT, ↓us_sl1Cur_rung, r_sl1Cur_rung]
      have hs6 := hg6.size
      have hs5 := hx5.size
      exact ⟨((hc6.ext hx7).keep hg8 (fun c hc => by have := (ho7.bound c hc).1; have := hc6.lt.2; omega)).mono (by omega), grown_new (grown_trans hg06 (grown_ext _ hx7)) hg8 (fun c hc => by have := (ho7.bound c hc).1; have := hg06.size; omega), _, HeldR.of ho8 hc6.lt.2, by rw [List.length_append]; omega⟩
    · by_cases hp1 : p = 1
      · subst hp1
        have q0 : ¬ (1 : Int) = 0 := by decide
        have q1 : ((1 : Nat) : Int) = 1 := rfl
        simp only [↓vsd, vsn, gW, qd, qv, ev, pick, argE, zipE, ne_eq, eq_self, forall_const, implies_true, if_true, if_false, reduceIte, reduceCtorEq, Nat.reduceEqDiff, Nat.reduceAdd, Nat.reduceLT, ↓us_sl1Cur_rung, r_sl1Cur_rung, ho6.sq.facts, q0, q1]
        refine m_callw (by first | exact .inl rfl | exact .inr rfl) (sl1Cur_pick_ok W b (n + 60 + 2) (C0.length : Nat) (by omega) _ (by omega) (by first | exact hc6 | exact hc6.ext (dr (Ext.refl _)))) ?_
        rintro _ w7 ⟨hc7, hg7, q, rfl, hq⟩
        have hg7 : w6.grownBy w7 (some b) := by first | exact hg7 | exact gud hg7
        have ho7 := ho6.keep hg7 (fun c hc => by rw [← Option.some.inj hc]; exact hbB)
        have eq1 : (1 : Int) + (q : Nat) = ((1 + q : Nat) : Int) := by omega
        obtain ⟨r1, r2, _⟩ := ho7.head .i64 (1 + q) (by omega)
        simp only [↓vsd, vsn, gW, qd, qv, ev, pick, argE, zipE, ne_eq, eq_self, forall_const, implies_true, if_true, if_false, reduceIte, reduceCtorEq, Nat.reduceEqDiff, Nat.reduceAdd, Nat.reduceLT, ↓us_sl1Cur_rung, r_sl1Cur_rung, eq1, r1]
        exact ⟨inR_i64 (by omega), hc7.mono (by omega), grown_trans hg06 hg7, _, HeldR.of r2 hbB, by rw [List.length_take]; omega⟩
      · by_cases hp2 : p = 2
        · subst hp2
          have q0 : ¬ (2 : Int) = 0 := by decide
          have q1 : ¬ (2 : Int) = 1 := by decide
          have q2 : ((2 : Nat) : Int) = 2 := rfl
          simp only [↓vsd, vsn, gW, qd, qv, ev, pick, argE, zipE, ne_eq, eq_self, forall_const, implies_true, if_true, if_false, reduceIte, reduceCtorEq, Nat.reduceEqDiff, Nat.reduceAdd, Nat.reduceLT, ↓us_sl1Cur_rung, r_sl1Cur_rung, hb6.facts, fMg, q0, q1, q2]
          refine m_callw (by first | exact .inl rfl | exact .inr rfl) (sl1Cur_rowsOf_ok W b (n + 60 + 2) m (by omega) 8 (by omega) _ (by omega) (by first | exact hc6 | exact hc6.ext (dr (Ext.refl _)))) ?_
          rintro z w7 ⟨hc7, hg7, l7, ho7, hl7⟩
          have hg7 : w6.grownBy w7 (some b) := by first | exact hg7 | exact gud hg7
          simp only [↓vsd, vsn, gW, qd, qv, ev, pick, argE, zipE, ne_eq, eq_self, forall_const, implies_true, if_true, if_false, reduceIte, reduceCtorEq, Nat.reduceEqDiff, Nat.reduceAdd, Nat.reduceLT, ↓us_sl1Cur_rung, r_sl1Cur_rung]
          exact ⟨hc7.mono (by omega), grown_trans hg06 hg7, _, HeldR.of ho7 (by first | exact hc6.lt.2 | (have := hc6.lt.2; omega)), by omega⟩
        · have q0 : ¬ (p : Int) = 0 := by omega
          have q1 : ¬ (p : Int) = 1 := by omega
          have q2 : ¬ (p : Int) = 2 := by omega
          simp only [↓vsd, vsn, gW, qd, qv, ev, pick, argE, zipE, ne_eq, eq_self, forall_const, implies_true, if_true, if_false, reduceIte, reduceCtorEq, Nat.reduceEqDiff, Nat.reduceAdd, Nat.reduceLT, ↓us_sl1Cur_rung, r_sl1Cur_rung, q0, q1, q2]
          exact ⟨hc6.mono (by omega), hg06, _, HeldR.of ho6 hbB, by omega⟩
theorem sDrawIsTrueList_ok (v : Value) (code : List UInt8) (hl : code.length ≤ 1048576) (w : World) (h : Sq fU 1 w v code) : Fn 45 [v] w (fun r w' => ∃ l : List Bs, Sq fS 1 w' r l ∧ l.length ≤ 400) := by
  (refine callsV_of mix Try.func45 c_sDrawIsTrueList ?_; simp only [↓vsd, vsn, gW, qd, qv, ev, pick, argE, zipE, ne_eq, eq_self, forall_const, implies_true, if_true, if_false, reduceIte, reduceCtorEq, Nat.reduceEqDiff, Nat.reduceAdd, Nat.reduceLT, ↓us_sDrawIsTrueList, r_sDrawIsTrueList])
  simp only [↓vsd, vsn, gW, qd, qv, ev, pick, argE, zipE, ne_eq, eq_self, forall_const, implies_true, if_true, if_false, reduceIte, reduceCtorEq, Nat.reduceEqDiff, Nat.reduceAdd, Nat.reduceLT, ↓us_sDrawIsTrueList, r_sDrawIsTrueList, h.facts]
  refine m_al ?_
  rintro b w1 hb hblk hx1 hs1
  have hc := Cur.new h hl hb hblk hx1
  simp only [↓vsd, vsn, gW, qd, qv, ev, pick, argE, zipE, ne_eq, eq_self, forall_const, implies_true, if_true, if_false, reduceIte, reduceCtorEq, Nat.reduceEqDiff, Nat.reduceAdd, Nat.reduceLT, ↓us_sDrawIsTrueList, r_sDrawIsTrueList]
  refine m_callw (.inl rfl) (sl1Cur_rung_ok w b _ w1 (by omega) hc) ?_
  rintro x w2 ⟨hc2, hg2, l, hh2, hl2⟩
  simp only [↓vsd, vsn, gW, qd, qv, ev, pick, argE, zipE, ne_eq, eq_self, forall_const, implies_true, if_true, if_false, reduceIte, reduceCtorEq, Nat.reduceEqDiff, Nat.reduceAdd, Nat.reduceLT, ↓us_sDrawIsTrueList, r_sDrawIsTrueList]
  exact ⟨hc2.base, l, hh2.sq, hl2⟩
theorem lsameInts_ok (v1 v2 : Value) (l1 l2 : List Int) (w : World) (h1 : Sq fI 1 w v1 l1) (h2 : Sq fI 1 w v2 l2) (hl : l1.length ≤ 1000000000) : Fn 26 [v1, v2] w (fun v _ => v = .bool (decide (l1 = l2))) := by
  (refine callsV_of mix Try.func26 c_lsameInts ?_; simp only [↓vsd, vsn, gW, qd, qv, ev, pick, argE, zipE, ne_eq, eq_self, forall_const, implies_true, if_true, if_false, reduceIte, reduceCtorEq, Nat.reduceEqDiff, Nat.reduceAdd, Nat.reduceLT, ↓us_lsameInts, r_lsameInts])
  simp only [↓vsd, vsn, gW, qd, qv, ev, pick, argE, zipE, ne_eq, eq_self, forall_const, implies_true, if_true, if_false, reduceIte, reduceCtorEq, Nat.reduceEqDiff, Nat.reduceAdd, Nat.reduceLT, ↓us_lsameInts, r_lsameInts, h1.facts, h2.facts]
  refine ⟨fun hne => ⟨Ext.refl _, by have : ¬ l1 = l2 := fun e => hne (by rw [e]); simp [this]⟩, fun he => ?_⟩
  have he : l1.length = l2.length := by omega
  refine m_upto l1.length (fun k vs w' => vs = [.int .i64 k] ∧ l1.take k = l2.take k ∧ Ext w w') ⟨rfl, by simp, Ext.refl _⟩ ?_
  rintro k vs w1 hk ⟨rfl, hall, hx⟩
  have hq1 := h1.ext hx
  have hq2 := h2.ext hx
  by_cases hlt : k < l1.length
  · have hltI : (k : Int) < l1.length := by omega
    have hltJ : ¬ (l1.length : Int) ≤ k := by omega
    have hlt2 : k < l2.length := by omega
    have hltK : (k : Int) < l2.length := by omega
    simp only [↓vsd, vsn, gW, qd, qv, ev, pick, argE, zipE, ne_eq, eq_self, forall_const, implies_true, if_true, if_false, reduceIte, reduceCtorEq, Nat.reduceEqDiff, Nat.reduceAdd, Nat.reduceLT, ↓us_lsameInts, r_lsameInts, hq1.facts, hq2.facts, hltI, hltJ, hltK, hq1.at1 0 hlt, hq2.at1 0 hlt2]
    refine ⟨by omega, by omega, fun hne => ⟨hx, by simp [ne_at k hne]⟩, fun he => ⟨inR_i64 (by omega), UpTo.next hlt ⟨rfl, eq_take hall hlt hlt2 he, by first | exact hx | exact dr hx⟩⟩⟩
  · obtain rfl : k = l1.length := by omega
    have hltI : ¬ (l1.length : Int) < l1.length := by omega
    simp only [↓vsd, vsn, gW, qd, qv, ev, pick, argE, zipE, ne_eq, eq_self, forall_const, implies_true, if_true, if_false, reduceIte, reduceCtorEq, Nat.reduceEqDiff, Nat.reduceAdd, Nat.reduceLT, ↓us_lsameInts, r_lsameInts, hq1.facts, hltI]
    exact ⟨hx, by simp [eq_len hall he]⟩
theorem sum_take (L : List Int) (k : Nat) (h : k < L.length) : (L.take (k + 1)).sum = (L.take k).sum + L.getD k 0 := by
  rw [List.take_add_one, List.getElem?_eq_getElem h, List.sum_append, List.getD_eq_getElem?_getD, List.getElem?_eq_getElem h]; simp
def zeroL (L : List Int) (k : Nat) : Nat := ((L.take k).filter fun x => decide (x = 0)).length
theorem zero_take (L : List Int) (k : Nat) (h : k < L.length) : zeroL L (k + 1) = zeroL L k + if L.getD k 0 = 0 then 1 else 0 := by
  rw [zeroL, List.take_add_one, List.getElem?_eq_getElem h, List.filter_append, List.length_append, List.getD_eq_getElem?_getD, List.getElem?_eq_getElem h]
  congr 1
  show (List.filter _ [L[k]]).length = if L[k] = 0 then 1 else 0
  by_cases e : L[k] = 0
  · rw [if_pos e, List.filter_cons_of_pos (by simpa using e)]; rfl
  · rw [if_neg e, List.filter_cons_of_neg (by simpa using e)]; rfl
theorem zero_miss (l : List Bs) : zeroL (oftV l) (oftV l).length = (missL l (factL (stgV l))).length := by
  rw [zeroL, List.take_length, oftV, oftL, List.filter_map, List.length_map, missL, List.length_map]
  congr 1
  refine List.filter_congr fun k _ => ?_
  simp only [Function.comp]
  exact decide_eq_decide.2 ⟨fun h => by omega, fun h => by omega⟩
theorem sum_zero : ∀ {L : List Int}, (∀ x ∈ L, x = 0) → L.sum = 0
  | [], _ => rfl
  | a :: L, h => by rw [List.sum_cons, h a List.mem_cons_self, sum_zero fun x hx => h x (List.mem_cons_of_mem _ hx)]; rfl
theorem level_none {L : List Int} (hl : LevelL L) (hs : L.sum ≠ 0) : zeroL L L.length = 0 := by
  rw [zeroL, List.take_length]
  refine Nat.eq_zero_of_not_pos fun hp => hs ?_
  obtain ⟨x, hx⟩ := List.exists_mem_of_length_pos hp
  have hx2 := List.mem_filter.1 hx
  obtain ⟨i, hi, he⟩ := List.getElem_of_mem hx2.1
  have h0 : L.getD i 0 = 0 := by rw [List.getD_eq_getElem?_getD, List.getElem?_eq_getElem hi, Option.getD_some, he]; simpa using hx2.2
  refine sum_zero fun y hy => ?_
  obtain ⟨j, hj, hey⟩ := List.getElem_of_mem hy
  have h1 : L.getD j 0 = y := by rw [List.getD_eq_getElem?_getD, List.getElem?_eq_getElem hj, Option.getD_some, hey]
  rw [← h1, hl j hj, ← hl i hi, h0]
theorem sDrawAreNext_ok (v : Value) (code : List UInt8) (hl : code.length ≤ 1048576) (w : World) (h : Sq fU 1 w v code) : Fn 78 [v] w (fun r w' => ∃ l : List Bs, Sq fS 1 w' r l ∧ l.length ≤ 400) := by
  (refine callsV_of mix Try.func78 c_sDrawAreNext ?_; simp only [↓vsd, vsn, gW, qd, qv, ev, pick, argE, zipE, ne_eq, eq_self, forall_const, implies_true, if_true, if_false, reduceIte, reduceCtorEq, Nat.reduceEqDiff, Nat.reduceAdd, Nat.reduceLT, ↓us_sDrawAreNext, r_sDrawAreNext])
  refine m_call (sDrawIsTrueList_ok v code hl _ h) ?_
  rintro r w1 hx1 hr
  simp only [↓vsd, vsn, gW, qd, qv, ev, pick, argE, zipE, ne_eq, eq_self, forall_const, implies_true, if_true, if_false, reduceIte, reduceCtorEq, Nat.reduceEqDiff, Nat.reduceAdd, Nat.reduceLT, ↓us_sDrawAreNext, r_sDrawAreNext]
  exact ⟨hx1, hr⟩
theorem row213 : ∀ g ∈ ([[50, 49, 51], [49, 51, 50]] : List Bs), IsRow g ∧ g.length = 3 := by decide
theorem sDrawIsLevel_ok (v : Value) (code : List UInt8) (hl : code.length ≤ 1048576) (w : World) (h : Sq fU 1 w v code) : Fn 71 [v] w (fun r w' => ∃ l : List Bs, Sq fS 1 w' r l ∧ l.length ≤ 1600) := by
  (refine callsV_of mix Try.func71 c_sDrawIsLevel ?_; simp only [↓vsd, vsn, gW, qd, qv, ev, pick, argE, zipE, ne_eq, eq_self, forall_const, implies_true, if_true, if_false, reduceIte, reduceCtorEq, Nat.reduceEqDiff, Nat.reduceAdd, Nat.reduceLT, ↓us_sDrawIsLevel, r_sDrawIsLevel])
  simp only [↓vsd, vsn, gW, qd, qv, ev, pick, argE, zipE, ne_eq, eq_self, forall_const, implies_true, if_true, if_false, reduceIte, reduceCtorEq, Nat.reduceEqDiff, Nat.reduceAdd, Nat.reduceLT, ↓us_sDrawIsLevel, r_sDrawIsLevel, h.facts]
  refine m_al ?_
  rintro b w1 hb hblk hx1 hs1
  have hc := Cur.new h hl hb hblk hx1
  simp only [↓vsd, vsn, gW, qd, qv, ev, pick, argE, zipE, ne_eq, eq_self, forall_const, implies_true, if_true, if_false, reduceIte, reduceCtorEq, Nat.reduceEqDiff, Nat.reduceAdd, Nat.reduceLT, ↓us_sDrawIsLevel, r_sDrawIsLevel]
  refine m_callw (.inl rfl) (sl1Cur_one_ok w b _ 3 (by omega) w1 (by omega) hc) ?_
  rintro _ w2 ⟨hc2, hg2, z, rfl⟩
  cases z
  · simp only [↓vsd, vsn, gW, qd, qv, ev, pick, argE, zipE, ne_eq, eq_self, forall_const, implies_true, if_true, if_false, reduceIte, reduceCtorEq, Nat.reduceEqDiff, Nat.reduceAdd, Nat.reduceLT, ↓us_sDrawIsLevel, r_sDrawIsLevel]
    refine m_callw (by first | exact .inl rfl | exact .inr rfl) (sl1Cur_rung_ok w b (0 + 2) w2 (by omega) hc2) ?_
    rintro x w3 ⟨hc3, hg3, l, hh3, hl3⟩
    simp only [↓vsd, vsn, gW, qd, qv, ev, pick, argE, zipE, ne_eq, eq_self, forall_const, implies_true, if_true, if_false, reduceIte, reduceCtorEq, Nat.reduceEqDiff, Nat.reduceAdd, Nat.reduceLT, ↓us_sDrawIsLevel, r_sDrawIsLevel]
    exact ⟨hc3.base, l, hh3.sq, by omega⟩
  · simp only [↓vsd, vsn, gW, qd, qv, ev, pick, argE, zipE, ne_eq, eq_self, forall_const, implies_true, if_true, if_false, reduceIte, reduceCtorEq, Nat.reduceEqDiff, Nat.reduceAdd, Nat.reduceLT, ↓us_sDrawIsLevel, r_sDrawIsLevel]
    refine m_bsl (fun p hp => by simp only [List.mem_cons, List.not_mem_nil, or_false] at hp; rcases hp with rfl | rfl <;> rfl) ?_
    rintro b3 w3 hb3 hblk3 hx3 hs3
    simp only [↓vsd, vsn, gW, qd, qv, ev, pick, argE, zipE, ne_eq, eq_self, forall_const, implies_true, if_true, if_false, reduceIte, reduceCtorEq, Nat.reduceEqDiff, Nat.reduceAdd, Nat.reduceLT, ↓us_sDrawIsLevel, r_sDrawIsLevel]
    refine m_call (sl6Close_ok 3 (by omega) _ [[50, 49, 51], [49, 51, 50]] row213 (by decide) _ (Sq.lit _ 2 fS_len hblk3 rfl rfl)) ?_
    rintro _ w4 hx4 ⟨y, rfl, ho4⟩
    have hlen := genV_len [[50, 49, 51], [49, 51, 50]] (roundsL 3) 800
    generalize genV [[50, 49, 51], [49, 51, 50]] (roundsL 3) 800 = G at *
    have hc4 := (hc2.ext hx3).ext hx4
    simp only [↓vsd, vsn, gW, qd, qv, ev, pick, argE, zipE, ne_eq, eq_self, forall_const, implies_true, if_true, if_false, reduceIte, reduceCtorEq, Nat.reduceEqDiff, Nat.reduceAdd, Nat.reduceLT, ↓us_sDrawIsLevel, r_sDrawIsLevel]
    refine m_callw (by first | exact .inl rfl | exact .inr rfl) (sl1Cur_one_ok w b (0 + 2) 2 (by omega) _ (by omega) (by first | exact hc4 | exact hc4.ext (dr (Ext.refl _)))) ?_
    rintro _ w5 ⟨hc5, hg5, z, rfl⟩
    have hg5 : w4.grownBy w5 (some b) := by first | exact hg5 | exact gud hg5
    have ho5 := ho4.keep hg5 (fun c hc => by have := Option.some.inj hc; have := hc2.lt.2; have := hx3.size; omega)
    cases z
    · simp only [↓vsd, vsn, gW, qd, qv, ev, pick, argE, zipE, ne_eq, eq_self, forall_const, implies_true, if_true, if_false, reduceIte, reduceCtorEq, Nat.reduceEqDiff, Nat.reduceAdd, Nat.reduceLT, ↓us_sDrawIsLevel, r_sDrawIsLevel]
      exact ⟨hc5.base, G, ho5.sq, by omega⟩
    · simp only [↓vsd, vsn, gW, qd, qv, ev, pick, argE, zipE, ne_eq, eq_self, forall_const, implies_true, if_true, if_false, reduceIte, reduceCtorEq, Nat.reduceEqDiff, Nat.reduceAdd, Nat.reduceLT, ↓us_sDrawIsLevel, r_sDrawIsLevel]
      refine m_app ho5 ho5.sq fS_one (by decide) (by omega) (by decide) (Nat.le_trans hx4.size hg5.size) ?_
      rintro x6 w6 ho6 hg6
      have hx6 := ho5.grown hc5.base (Nat.le_trans hc2.base.size hx3.size) hg6
      simp only [↓vsd, vsn, gW, qd, qv, ev, pick, argE, zipE, ne_eq, eq_self, forall_const, implies_true, if_true, if_false, reduceIte, reduceCtorEq, Nat.reduceEqDiff, Nat.reduceAdd, Nat.reduceLT, ↓us_sDrawIsLevel, r_sDrawIsLevel]
      exact ⟨hx6, _, ho6.sq, by rw [List.length_append]; omega⟩
set_option maxHeartbeats 4000000 in
theorem lFnLevel_ok (v u : Value) (code more : List UInt8) (hcl : code.length ≤ 9223372036854775807) (hml : more.length ≤ 9223372036854775807) (w : World) (h : Sq fU 1 w v code) (h' : Sq fU 1 w u more) : Fn 7 [v, u] w (fun r _ => r = .bool true) := by
  (refine callsV_of mix Try.func7 c_lFnLevel ?_; simp only [↓vsd, vsn, gW, qd, qv, ev, pick, argE, zipE, ne_eq, eq_self, forall_const, implies_true, if_true, if_false, reduceIte, reduceCtorEq, Nat.reduceEqDiff, Nat.reduceAdd, Nat.reduceLT, ↓us_lFnLevel, r_lFnLevel])
  refine m_call (lbig_ok v u code more hcl hml _ h h') ?_
  rintro _ w0 hx0 rfl
  simp only [↓vsd, vsn, gW, qd, qv, ev, pick, argE, zipE, ne_eq, eq_self, forall_const, implies_true, if_true, if_false, reduceIte, reduceCtorEq, Nat.reduceEqDiff, Nat.reduceAdd, Nat.reduceLT, ↓us_lFnLevel, r_lFnLevel]
  refine ⟨fun _ => hx0, fun hsm => ?_⟩
  have hlen : code.length ≤ 1048576 ∧ more.length ≤ 1048576 := by omega
  refine m_call (sDrawIsLevel_ok v code hlen.1 _ (h.ext hx0)) ?_
  rintro y w1 hx1 ⟨l, hq1, hl⟩
  simp only [↓vsd, vsn, gW, qd, qv, ev, pick, argE, zipE, ne_eq, eq_self, forall_const, implies_true, if_true, if_false, reduceIte, reduceCtorEq, Nat.reduceEqDiff, Nat.reduceAdd, Nat.reduceLT, ↓us_lFnLevel, r_lFnLevel]
  refine m_call (iIsLevel_ok y l (by omega) _ hq1) ?_
  rintro _ w2 hx2 rfl
  rw [levV]
  simp only [↓vsd, vsn, gW, qd, qv, ev, pick, argE, zipE, ne_eq, eq_self, forall_const, implies_true, if_true, if_false, reduceIte, reduceCtorEq, Nat.reduceEqDiff, Nat.reduceAdd, Nat.reduceLT, ↓us_lFnLevel, r_lFnLevel]
  refine m_call (sIsLevel_ok y l (by omega) _ (hq1.ext hx2)) ?_
  rintro _ w3 hx3 rfl
  rw [levV]
  have hx13 := hx2.trans hx3
  simp only [↓vsd, vsn, gW, qd, qv, ev, pick, argE, zipE, ne_eq, eq_self, forall_const, implies_true, if_true, if_false, reduceIte, reduceCtorEq, Nat.reduceEqDiff, Nat.reduceAdd, Nat.reduceLT, ↓us_lFnLevel, r_lFnLevel]
  refine m_call (iHowOften_ok y l (by omega) _ (hq1.ext hx13)) ?_
  rintro _ w4 hx4 ⟨y4, rfl, ho4⟩
  simp only [↓vsd, vsn, gW, qd, qv, ev, pick, argE, zipE, ne_eq, eq_self, forall_const, implies_true, if_true, if_false, reduceIte, reduceCtorEq, Nat.reduceEqDiff, Nat.reduceAdd, Nat.reduceLT, ↓us_lFnLevel, r_lFnLevel]
  refine m_call (sHowOften_ok y l (by omega) _ ((hq1.ext hx13).ext hx4)) ?_
  rintro _ w5 hx5 ⟨y5, rfl, ho5⟩
  have hx15 := (hx13.trans hx4).trans hx5
  simp only [↓vsd, vsn, gW, qd, qv, ev, pick, argE, zipE, ne_eq, eq_self, forall_const, implies_true, if_true, if_false, reduceIte, reduceCtorEq, Nat.reduceEqDiff, Nat.reduceAdd, Nat.reduceLT, ↓us_lFnLevel, r_lFnLevel]
  refine m_call (iMissingIn_ok y l (by omega) _ (hq1.ext hx15)) ?_
  rintro _ w6 hx6 ⟨y6, rfl, ho6⟩
  simp only [↓vsd, vsn, gW, qd, qv, ev, pick, argE, zipE, ne_eq, eq_self, forall_const, implies_true, if_true, if_false, reduceIte, reduceCtorEq, Nat.reduceEqDiff, Nat.reduceAdd, Nat.reduceLT, ↓us_lFnLevel, r_lFnLevel]
  refine m_call (sMissingIn_ok y l (by omega) _ ((hq1.ext hx15).ext hx6)) ?_
  rintro _ w7 hx7 ⟨y7, rfl, ho7⟩
  have hx57 := hx6.trans hx7
  have hx17 := hx15.trans hx57
  have hq4 := (ho4.sq.ext hx5).ext hx57
  have hq5 := ho5.sq.ext hx57
  have hq6 := ho6.sq.ext hx7
  have hq7 := ho7.sq
  have hhl : (howV l).length ≤ 720 := by
    unfold howV; split
    · rename_i hs; rw [oftV_len]; exact fact720 _ (by have := hs.stage; omega)
    · simp
  have hmsl : (missV l).length ≤ 720 := by
    unfold missV; split
    · rename_i hs; exact Nat.le_trans (miss_len _ _) (fact720 _ (by have := hs.stage; omega))
    · simp
  simp only [↓vsd, vsn, gW, qd, qv, ev, pick, argE, zipE, ne_eq, eq_self, forall_const, implies_true, if_true, if_false, reduceIte, reduceCtorEq, Nat.reduceEqDiff, Nat.reduceAdd, Nat.reduceLT, ↓us_lFnLevel, r_lFnLevel]
  refine m_call (lsameInts_ok y4 y5 _ _ _ (by first | exact hq4 | exact hq4.ext (dr (Ext.refl _))) (by first | exact hq5 | exact hq5.ext (dr (Ext.refl _))) (by omega)) ?_
  rintro _ w8 hx8 rfl
  have hx8 : Ext w7 w8 := by first | exact hx8 | exact ud hx8 | exact ud (ud hx8)
  simp only [↓vsd, vsn, gW, qd, qv, ev, pick, argE, zipE, ne_eq, eq_self, forall_const, implies_true, if_true, if_false, reduceIte, reduceCtorEq, Nat.reduceEqDiff, Nat.reduceAdd, Nat.reduceLT, ↓us_lFnLevel, r_lFnLevel]
  refine m_call (lsameTexts_ok y6 y7 _ _ _ (by first | exact hq6.ext hx8 | exact (hq6.ext hx8).ext (dr (Ext.refl _))) (by first | exact hq7.ext hx8 | exact (hq7.ext hx8).ext (dr (Ext.refl _))) (by omega)) ?_
  rintro _ w9 hx9 rfl
  have hx9 : Ext w8 w9 := by first | exact hx9 | exact ud hx9 | exact ud (ud hx9)
  have hx79 := hx8.trans hx9
  have hx09 := (hx0.trans hx1).trans (hx17.trans hx79)
  have hn9 := hq4.ext hx79
  have hm9 := hq6.ext hx79
  have hq9 := hq1.ext (hx17.trans hx79)
  by_cases hs : SmallR l
  · have hsD : decide (SmallR l) = true := decide_eq_true hs
    have eh : howV l = oftV l := by rw [howV, if_pos hs]
    have em : missV l = missL l (factL (stgV l)) := by rw [missV, if_pos hs]
    have hsum := often_sum l (factL (stgV l)) hs.rank l.length (Nat.le_refl _)
    have hsum : (oftV l).sum = (l.length : Int) := hsum
    have hzm := zero_miss l
    have hzl : SmallR l ∧ LevelL (oftV l) → zeroL (oftV l) (oftV l).length = 0 := fun hh => level_none hh.2 (by rw [hsum]; have := hs.2.1; omega)
    have hge : ∀ k < (oftV l).length, 0 ≤ (oftV l).getD k 0 ∧ (oftV l).getD k 0 ≤ 1600 := fun k hk => by
      rw [oftV_len] at hk
      rw [oftV, oftL_get _ _ _ _ hk]
      have := oft_le l l.length k
      omega
    have hlv : decide (SmallR l ∧ LevelL (oftV l)) = decide (LevelL (oftV l)) := decide_eq_decide.2 ⟨fun hh => hh.2, fun hh => ⟨hs, hh⟩⟩
    rw [eh] at hn9 hhl
    rw [em] at hm9 hmsl
    generalize missL l (factL (stgV l)) = M at *
    generalize oftV l = L at *
    simp only [↓vsd, vsn, gW, qd, qv, ev, pick, argE, zipE, ne_eq, eq_self, forall_const, implies_true, if_true, if_false, reduceIte, reduceCtorEq, Nat.reduceEqDiff, Nat.reduceAdd, Nat.reduceLT, ↓us_lFnLevel, r_lFnLevel, hsD, hlv, hn9.facts]
    refine m_upto L.length (fun k vs w' => vs = [.int .i64 (L.take k).sum, .int .i64 (zeroL L k : Nat), .int .i64 k] ∧ (0 ≤ (L.take k).sum ∧ (L.take k).sum ≤ 1600 * k) ∧ zeroL L k ≤ k ∧ Ext w9 w') ⟨by simp [zeroL], by simp, by simp [zeroL], Ext.refl _⟩ ?_
    rintro k vs w10 hk ⟨rfl, hb, hz, hx10⟩
    have hn10 := hn9.ext hx10
    by_cases hlt : k < L.length
    · have hltI : (k : Int) < L.length := by omega
      have hltJ : ¬ (L.length : Int) ≤ k := by omega
      have a10 := hn10.at1 0 hlt
      have hst := sum_take L k hlt
      have hzt := zero_take L k hlt
      have hgk := hge k hlt
      generalize L.getD k 0 = x at *
      by_cases hx : x = 0
      · rw [if_pos hx] at hzt
        simp only [↓vsd, vsn, gW, qd, qv, ev, pick, argE, zipE, ne_eq, eq_self, forall_const, implies_true, if_true, if_false, reduceIte, reduceCtorEq, Nat.reduceEqDiff, Nat.reduceAdd, Nat.reduceLT, ↓us_lFnLevel, r_lFnLevel, hltI, hltJ, hn10.facts, a10, hx]
        refine ⟨by omega, inR_i64 (by omega), inR_i64 (by omega), inR_i64 (by omega), UpTo.next hlt ⟨by rw [hst, hzt, hx]; simp, by omega, by omega, by first | exact hx10 | exact dr hx10⟩⟩
      · rw [if_neg hx, Nat.add_zero] at hzt
        simp only [↓vsd, vsn, gW, qd, qv, ev, pick, argE, zipE, ne_eq, eq_self, forall_const, implies_true, if_true, if_false, reduceIte, reduceCtorEq, Nat.reduceEqDiff, Nat.reduceAdd, Nat.reduceLT, ↓us_lFnLevel, r_lFnLevel, hltI, hltJ, hn10.facts, a10, hx]
        refine ⟨by omega, inR_i64 (by omega), inR_i64 (by omega), UpTo.next hlt ⟨by rw [hst, hzt]; simp, by omega, by omega, by first | exact hx10 | exact dr hx10⟩⟩
    · obtain rfl : k = L.length := by omega
      have hltI : ¬ (L.length : Int) < L.length := by omega
      have hsumI : (L.take L.length).sum = (l.length : Int) := by rw [List.take_length, hsum]
      have hzI : ((zeroL L L.length : Nat) : Int) = (M.length : Int) := by omega
      have hq10 := hq9.ext hx10
      have hm10 := hm9.ext hx10
      have hxL := hx09.trans hx10
      by_cases hlL : LevelL L
      · have hM0 : (M.length : Int) = 0 := by have := hzl ⟨hs, hlL⟩; omega
        have hM1 : ¬ (0 : Int) < 0 := by decide
        simp only [↓vsd, vsn, gW, qd, qv, ev, pick, argE, zipE, ne_eq, eq_self, forall_const, implies_true, if_true, if_false, reduceIte, reduceCtorEq, Nat.reduceEqDiff, Nat.reduceAdd, Nat.reduceLT, ↓us_lFnLevel, r_lFnLevel, hltI, hsumI, hzI, hq10.facts, hm10.facts, hlL, hM0, hM1]
        refine m_call (sDrawAreNext_ok u more hlen.2 _ (by first | exact h'.ext hxL | exact h'.ext (dr hxL))) ?_
        rintro ya wa hxa ⟨la, hqa, hla⟩
        have hxLa : Ext w wa := by first | exact hxL.trans hxa | exact hxL.trans (ud hxa)
        obtain ⟨o, ho⟩ := leadsIn_ex la
        simp only [↓vsd, vsn, gW, qd, qv, ev, pick, argE, zipE, ne_eq, eq_self, forall_const, implies_true, if_true, if_false, reduceIte, reduceCtorEq, Nat.reduceEqDiff, Nat.reduceAdd, Nat.reduceLT, ↓us_lFnLevel, r_lFnLevel]
        refine m_call (iAreNext_all ya la o (by omega) ho _ hqa) ?_
        rintro _ wb hxb rfl
        rw [arnV]
        simp only [↓vsd, vsn, gW, qd, qv, ev, pick, argE, zipE, ne_eq, eq_self, forall_const, implies_true, if_true, if_false, reduceIte, reduceCtorEq, Nat.reduceEqDiff, Nat.reduceAdd, Nat.reduceLT, ↓us_lFnLevel, r_lFnLevel]
        refine m_call (sAreNext_all ya la o (by omega) ho _ (hqa.ext hxb)) ?_
        rintro _ wc hxc rfl
        rw [arnV]
        have hxac := hxb.trans hxc
        simp only [↓vsd, vsn, gW, qd, qv, ev, pick, argE, zipE, ne_eq, eq_self, forall_const, implies_true, if_true, if_false, reduceIte, reduceCtorEq, Nat.reduceEqDiff, Nat.reduceAdd, Nat.reduceLT, ↓us_lFnLevel, r_lFnLevel]
        refine m_call (iChangesIn_ok ya la o (by omega) ho _ (hqa.ext hxac)) ?_
        rintro _ wd hxd ⟨yd, rfl, hod⟩
        simp only [↓vsd, vsn, gW, qd, qv, ev, pick, argE, zipE, ne_eq, eq_self, forall_const, implies_true, if_true, if_false, reduceIte, reduceCtorEq, Nat.reduceEqDiff, Nat.reduceAdd, Nat.reduceLT, ↓us_lFnLevel, r_lFnLevel]
        refine m_call (sChangesIn_ok ya la o (by omega) ho _ ((hqa.ext hxac).ext hxd)) ?_
        rintro _ we hxe ⟨ye, rfl, hoe⟩
        have hxLe := ((hxLa.trans hxac).trans hxd).trans hxe
        have hod := hod.sq.ext hxe
        have hcv : (chaV la o).length ≤ 400 := by
          unfold chaV; split
          · rw [chL_len]; exact hla
          · simp
        simp only [↓vsd, vsn, gW, qd, qv, ev, pick, argE, zipE, ne_eq, eq_self, forall_const, implies_true, if_true, if_false, reduceIte, reduceCtorEq, Nat.reduceEqDiff, Nat.reduceAdd, Nat.reduceLT, ↓us_lFnLevel, r_lFnLevel]
        refine m_call (lsameTexts_ok yd ye _ _ _ (by first | exact hod | exact hod.ext (dr (Ext.refl _))) (by first | exact hoe.sq | exact hoe.sq.ext (dr (Ext.refl _))) (by omega)) ?_
        rintro _ wf hxf rfl
        have hxf : Ext we wf := by first | exact hxf | exact ud hxf | exact ud (ud hxf)
        have hxLf := hxLe.trans hxf
        by_cases hra : IsRows la
        · have d1 : decide (IsRows la) = true := decide_eq_true hra
          by_cases hna : NextOk o la.length
          · have d2 : decide (ChaOk la o) = true := decide_eq_true ⟨hra, hna⟩
            have d3 : decide (IsRows la ∧ NextOk o la.length) = true := decide_eq_true ⟨hra, hna⟩
            simp only [↓vsd, vsn, gW, qd, qv, ev, pick, argE, zipE, ne_eq, eq_self, forall_const, implies_true, if_true, if_false, reduceIte, reduceCtorEq, Nat.reduceEqDiff, Nat.reduceAdd, Nat.reduceLT, ↓us_lFnLevel, r_lFnLevel, d1, d2, d3]
            exact hxLf
          · have d2 : decide (ChaOk la o) = false := decide_eq_false fun hh => hna hh.2
            have d3 : decide (IsRows la ∧ NextOk o la.length) = false := decide_eq_false fun hh => hna hh.2
            simp only [↓vsd, vsn, gW, qd, qv, ev, pick, argE, zipE, ne_eq, eq_self, forall_const, implies_true, if_true, if_false, reduceIte, reduceCtorEq, Nat.reduceEqDiff, Nat.reduceAdd, Nat.reduceLT, ↓us_lFnLevel, r_lFnLevel, d1, d2, d3]
            exact hxLf
        · have d1 : decide (IsRows la) = false := decide_eq_false hra
          have d2 : decide (ChaOk la o) = false := decide_eq_false fun hh => hra hh.1
          have d3 : decide (IsRows la ∧ NextOk o la.length) = false := decide_eq_false fun hh => hra hh.1
          simp only [↓vsd, vsn, gW, qd, qv, ev, pick, argE, zipE, ne_eq, eq_self, forall_const, implies_true, if_true, if_false, reduceIte, reduceCtorEq, Nat.reduceEqDiff, Nat.reduceAdd, Nat.reduceLT, ↓us_lFnLevel, r_lFnLevel, d1, d2, d3]
          exact hxLf
      · simp only [↓vsd, vsn, gW, qd, qv, ev, pick, argE, zipE, ne_eq, eq_self, forall_const, implies_true, if_true, if_false, reduceIte, reduceCtorEq, Nat.reduceEqDiff, Nat.reduceAdd, Nat.reduceLT, ↓us_lFnLevel, r_lFnLevel, hltI, hsumI, hzI, hq10.facts, hm10.facts, hlL]
        refine m_call (sDrawAreNext_ok u more hlen.2 _ (by first | exact h'.ext hxL | exact h'.ext (dr hxL))) ?_
        rintro ya wa hxa ⟨la, hqa, hla⟩
        have hxLa : Ext w wa := by first | exact hxL.trans hxa | exact hxL.trans (ud hxa)
        obtain ⟨o, ho⟩ := leadsIn_ex la
        simp only [↓vsd, vsn, gW, qd, qv, ev, pick, argE, zipE, ne_eq, eq_self, forall_const, implies_true, if_true, if_false, reduceIte, reduceCtorEq, Nat.reduceEqDiff, Nat.reduceAdd, Nat.reduceLT, ↓us_lFnLevel, r_lFnLevel]
        refine m_call (iAreNext_all ya la o (by omega) ho _ hqa) ?_
        rintro _ wb hxb rfl
        rw [arnV]
        simp only [↓vsd, vsn, gW, qd, qv, ev, pick, argE, zipE, ne_eq, eq_self, forall_const, implies_true, if_true, if_false, reduceIte, reduceCtorEq, Nat.reduceEqDiff, Nat.reduceAdd, Nat.reduceLT, ↓us_lFnLevel, r_lFnLevel]
        refine m_call (sAreNext_all ya la o (by omega) ho _ (hqa.ext hxb)) ?_
        rintro _ wc hxc rfl
        rw [arnV]
        have hxac := hxb.trans hxc
        simp only [↓vsd, vsn, gW, qd, qv, ev, pick, argE, zipE, ne_eq, eq_self, forall_const, implies_true, if_true, if_false, reduceIte, reduceCtorEq, Nat.reduceEqDiff, Nat.reduceAdd, Nat.reduceLT, ↓us_lFnLevel, r_lFnLevel]
        refine m_call (iChangesIn_ok ya la o (by omega) ho _ (hqa.ext hxac)) ?_
        rintro _ wd hxd ⟨yd, rfl, hod⟩
        simp only [↓vsd, vsn, gW, qd, qv, ev, pick, argE, zipE, ne_eq, eq_self, forall_const, implies_true, if_true, if_false, reduceIte, reduceCtorEq, Nat.reduceEqDiff, Nat.reduceAdd, Nat.reduceLT, ↓us_lFnLevel, r_lFnLevel]
        refine m_call (sChangesIn_ok ya la o (by omega) ho _ ((hqa.ext hxac).ext hxd)) ?_
        rintro _ we hxe ⟨ye, rfl, hoe⟩
        have hxLe := ((hxLa.trans hxac).trans hxd).trans hxe
        have hod := hod.sq.ext hxe
        have hcv : (chaV la o).length ≤ 400 := by
          unfold chaV; split
          · rw [chL_len]; exact hla
          · simp
        simp only [↓vsd, vsn, gW, qd, qv, ev, pick, argE, zipE, ne_eq, eq_self, forall_const, implies_true, if_true, if_false, reduceIte, reduceCtorEq, Nat.reduceEqDiff, Nat.reduceAdd, Nat.reduceLT, ↓us_lFnLevel, r_lFnLevel]
        refine m_call (lsameTexts_ok yd ye _ _ _ (by first | exact hod | exact hod.ext (dr (Ext.refl _))) (by first | exact hoe.sq | exact hoe.sq.ext (dr (Ext.refl _))) (by omega)) ?_
        rintro _ wf hxf rfl
        have hxf : Ext we wf := by first | exact hxf | exact ud hxf | exact ud (ud hxf)
        have hxLf := hxLe.trans hxf
        by_cases hra : IsRows la
        · have d1 : decide (IsRows la) = true := decide_eq_true hra
          by_cases hna : NextOk o la.length
          · have d2 : decide (ChaOk la o) = true := decide_eq_true ⟨hra, hna⟩
            have d3 : decide (IsRows la ∧ NextOk o la.length) = true := decide_eq_true ⟨hra, hna⟩
            simp only [↓vsd, vsn, gW, qd, qv, ev, pick, argE, zipE, ne_eq, eq_self, forall_const, implies_true, if_true, if_false, reduceIte, reduceCtorEq, Nat.reduceEqDiff, Nat.reduceAdd, Nat.reduceLT, ↓us_lFnLevel, r_lFnLevel, d1, d2, d3]
            exact hxLf
          · have d2 : decide (ChaOk la o) = false := decide_eq_false fun hh => hna hh.2
            have d3 : decide (IsRows la ∧ NextOk o la.length) = false := decide_eq_false fun hh => hna hh.2
            simp only [↓vsd, vsn, gW, qd, qv, ev, pick, argE, zipE, ne_eq, eq_self, forall_const, implies_true, if_true, if_false, reduceIte, reduceCtorEq, Nat.reduceEqDiff, Nat.reduceAdd, Nat.reduceLT, ↓us_lFnLevel, r_lFnLevel, d1, d2, d3]
            exact hxLf
        · have d1 : decide (IsRows la) = false := decide_eq_false hra
          have d2 : decide (ChaOk la o) = false := decide_eq_false fun hh => hra hh.1
          have d3 : decide (IsRows la ∧ NextOk o la.length) = false := decide_eq_false fun hh => hra hh.1
          simp only [↓vsd, vsn, gW, qd, qv, ev, pick, argE, zipE, ne_eq, eq_self, forall_const, implies_true, if_true, if_false, reduceIte, reduceCtorEq, Nat.reduceEqDiff, Nat.reduceAdd, Nat.reduceLT, ↓us_lFnLevel, r_lFnLevel, d1, d2, d3]
          exact hxLf
  · have hsD : decide (SmallR l) = false := decide_eq_false hs
    have hsD2 : decide (SmallR l ∧ LevelL (oftV l)) = false := decide_eq_false fun hh => hs hh.1
    have hxL := hx09
    simp only [↓vsd, vsn, gW, qd, qv, ev, pick, argE, zipE, ne_eq, eq_self, forall_const, implies_true, if_true, if_false, reduceIte, reduceCtorEq, Nat.reduceEqDiff, Nat.reduceAdd, Nat.reduceLT, ↓us_lFnLevel, r_lFnLevel, hsD, hsD2]
    refine m_call (sDrawAreNext_ok u more hlen.2 _ (by first | exact h'.ext hxL | exact h'.ext (dr hxL))) ?_
    rintro ya wa hxa ⟨la, hqa, hla⟩
    have hxLa : Ext w wa := by first | exact hxL.trans hxa | exact hxL.trans (ud hxa)
    obtain ⟨o, ho⟩ := leadsIn_ex la
    simp only [↓vsd, vsn, gW, qd, qv, ev, pick, argE, zipE, ne_eq, eq_self, forall_const, implies_true, if_true, if_false, reduceIte, reduceCtorEq, Nat.reduceEqDiff, Nat.reduceAdd, Nat.reduceLT, ↓us_lFnLevel, r_lFnLevel]
    refine m_call (iAreNext_all ya la o (by omega) ho _ hqa) ?_
    rintro _ wb hxb rfl
    rw [arnV]
    simp only [↓vsd, vsn, gW, qd, qv, ev, pick, argE, zipE, ne_eq, eq_self, forall_const, implies_true, if_true, if_false, reduceIte, reduceCtorEq, Nat.reduceEqDiff, Nat.reduceAdd, Nat.reduceLT, ↓us_lFnLevel, r_lFnLevel]
    refine m_call (sAreNext_all ya la o (by omega) ho _ (hqa.ext hxb)) ?_
    rintro _ wc hxc rfl
    rw [arnV]
    have hxac := hxb.trans hxc
    simp only [↓vsd, vsn, gW, qd, qv, ev, pick, argE, zipE, ne_eq, eq_self, forall_const, implies_true, if_true, if_false, reduceIte, reduceCtorEq, Nat.reduceEqDiff, Nat.reduceAdd, Nat.reduceLT, ↓us_lFnLevel, r_lFnLevel]
    refine m_call (iChangesIn_ok ya la o (by omega) ho _ (hqa.ext hxac)) ?_
    rintro _ wd hxd ⟨yd, rfl, hod⟩
    simp only [↓vsd, vsn, gW, qd, qv, ev, pick, argE, zipE, ne_eq, eq_self, forall_const, implies_true, if_true, if_false, reduceIte, reduceCtorEq, Nat.reduceEqDiff, Nat.reduceAdd, Nat.reduceLT, ↓us_lFnLevel, r_lFnLevel]
    refine m_call (sChangesIn_ok ya la o (by omega) ho _ ((hqa.ext hxac).ext hxd)) ?_
    rintro _ we hxe ⟨ye, rfl, hoe⟩
    have hxLe := ((hxLa.trans hxac).trans hxd).trans hxe
    have hod := hod.sq.ext hxe
    have hcv : (chaV la o).length ≤ 400 := by
      unfold chaV; split
      · rw [chL_len]; exact hla
      · simp
    simp only [↓vsd, vsn, gW, qd, qv, ev, pick, argE, zipE, ne_eq, eq_self, forall_const, implies_true, if_true, if_false, reduceIte, reduceCtorEq, Nat.reduceEqDiff, Nat.reduceAdd, Nat.reduceLT, ↓us_lFnLevel, r_lFnLevel]
    refine m_call (lsameTexts_ok yd ye _ _ _ (by first | exact hod | exact hod.ext (dr (Ext.refl _))) (by first | exact hoe.sq | exact hoe.sq.ext (dr (Ext.refl _))) (by omega)) ?_
    rintro _ wf hxf rfl
    have hxf : Ext we wf := by first | exact hxf | exact ud hxf | exact ud (ud hxf)
    have hxLf := hxLe.trans hxf
    by_cases hra : IsRows la
    · have d1 : decide (IsRows la) = true := decide_eq_true hra
      by_cases hna : NextOk o la.length
      · have d2 : decide (ChaOk la o) = true := decide_eq_true ⟨hra, hna⟩
        have d3 : decide (IsRows la ∧ NextOk o la.length) = true := decide_eq_true ⟨hra, hna⟩
        simp only [↓vsd, vsn, gW, qd, qv, ev, pick, argE, zipE, ne_eq, eq_self, forall_const, implies_true, if_true, if_false, reduceIte, reduceCtorEq, Nat.reduceEqDiff, Nat.reduceAdd, Nat.reduceLT, ↓us_lFnLevel, r_lFnLevel, d1, d2, d3]
        exact hxLf
      · have d2 : decide (ChaOk la o) = false := decide_eq_false fun hh => hna hh.2
        have d3 : decide (IsRows la ∧ NextOk o la.length) = false := decide_eq_false fun hh => hna hh.2
        simp only [↓vsd, vsn, gW, qd, qv, ev, pick, argE, zipE, ne_eq, eq_self, forall_const, implies_true, if_true, if_false, reduceIte, reduceCtorEq, Nat.reduceEqDiff, Nat.reduceAdd, Nat.reduceLT, ↓us_lFnLevel, r_lFnLevel, d1, d2, d3]
        exact hxLf
    · have d1 : decide (IsRows la) = false := decide_eq_false hra
      have d2 : decide (ChaOk la o) = false := decide_eq_false fun hh => hra hh.1
      have d3 : decide (IsRows la ∧ NextOk o la.length) = false := decide_eq_false fun hh => hra hh.1
      simp only [↓vsd, vsn, gW, qd, qv, ev, pick, argE, zipE, ne_eq, eq_self, forall_const, implies_true, if_true, if_false, reduceIte, reduceCtorEq, Nat.reduceEqDiff, Nat.reduceAdd, Nat.reduceLT, ↓us_lFnLevel, r_lFnLevel, d1, d2, d3]
      exact hxLf
end Go.Proofs.Ytnincmnkdjlndaa
