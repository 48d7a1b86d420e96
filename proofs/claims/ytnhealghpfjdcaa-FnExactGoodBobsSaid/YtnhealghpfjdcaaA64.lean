/-
  Sets of bobs, of both sides.
  Conditions: none.
-/
import Derived.Test.YtnhealghpfjdcaaA55
import Derived.Test.YtnhealghpfjdcaaA57
import Derived.Test.YtnhealghpfjdcaaD7
set_option linter.unusedSimpArgs false
set_option linter.unusedVariables false
set_option linter.defProp false
namespace Go.Proofs.Ytnhealghpfjdcaa
open Go Go.RowKit
section
variable (P : Program) (k : KT) (e : Env) (w : World)
abbrev b177_1 : X := (.reg [0, 5, 9, 10, 11] (.c (.q 15 [] (.mv (.t 5))) (.c (.q 16 [] (.mv (.t 0))) (.c (.q 17 [] (.mv (.t 7))) (.c (.e (some 18) [] (.call false 75 [(.t 16), (.t 17)])) (.c (.e (some 19) [] (.bsl 9 1 [(.t 18)])) (.c (.e (some 20) [] (.app 22 9 1 16 [(S [])] 22 (.t 15) (.t 19))) (.c (.q 5 [] (.mv (.t 20))) .nil))))))))
def t177_1 := b177_1
theorem u177_1 : vcK P t177_1 k e w = vcK P b177_1 k e w := rfl
abbrev b177_2 : X := (.reg [0, 5, 9, 10, 11] (.c (.q 21 [] (.bin .add (.t 11) (.c (.int .i64 1)))) (.c (.q 11 [] (.mv (.t 21))) .nil)))
def t177_2 := b177_2
theorem u177_2 : vcK P t177_2 k e w = vcK P b177_2 k e w := rfl
abbrev b177_3 : X := (.seq (.blk 1 (.seq (.reg [0, 5, 7, 9, 10, 11] (.c (.q 13 [] (.ia 1 (.t 9) (.t 11))) (.c (.q 14 [] (.ld (.t 13))) (.c (.q 7 [] (.mv (.t 14))) .nil)))) t177_1)) t177_2)
def t177_3 := b177_3
theorem u177_3 : vcK P t177_3 k e w = vcK P b177_3 k e w := rfl
abbrev b177_4 : X := (.seq (.cond (.t 12) .skip (.exit 0)) t177_3)
def t177_4 := b177_4
theorem u177_4 : vcK P t177_4 k e w = vcK P b177_4 k e w := rfl
abbrev b177_5 : X := (.seq (.reg [0, 5, 9, 10, 11, 12] (.c (.q 12 [] (.bin .lss (.t 11) (.t 10))) .nil)) t177_4)
def t177_5 := b177_5
theorem u177_5 : vcK P t177_5 k e w = vcK P b177_5 k e w := rfl
abbrev b177_6 : X := (.blk 0 (.loop [5, 11] [0, 9, 10] t177_5))
def t177_6 := b177_6
theorem u177_6 : vcK P t177_6 k e w = vcK P b177_6 k e w := rfl
abbrev b177_7 : X := (.seq (.reg [4] (.c (.q 22 [] (.mv (.t 5))) (.c (.q 4 [] (.mv (.t 22))) .nil))) .ret)
def t177_7 := b177_7
theorem u177_7 : vcK P t177_7 k e w = vcK P b177_7 k e w := rfl
abbrev b177_8 : X := (.seq (.seq (.reg [0, 5, 9, 10, 11] (.c (.q 9 [] (.mv (.t 1))) (.c (.q 10 [] (.lens (.t 9))) (.c (.q 11 [] (.mv (.c (.int .i64 0)))) .nil)))) t177_6) t177_7)
def t177_8 := b177_8
theorem u177_8 : vcK P t177_8 k e w = vcK P b177_8 k e w := rfl
abbrev b177_9 : X := (.seq (.reg [0, 1, 5] (.c (.e (some 8) [] (.bsl 9 1 [])) (.c (.q 5 [] (.mv (.t 8))) .nil))) t177_8)
def t177_9 := b177_9
theorem u177_9 : vcK P t177_9 k e w = vcK P b177_9 k e w := rfl
abbrev b177_0 : X := (.seq (.reg [0, 1] (.c (.q 4 [] (.mv (.c (.slice none 0 0)))) .nil)) t177_9)
def x_ileftTimes := b177_0
theorem u177_0 : vcK P x_ileftTimes k e w = vcK P b177_0 k e w := rfl
def r_ileftTimes : List XO := [(.mv (.t 4))]
theorem c_ileftTimes : convF Try.prog [89, 116, 117, 121, 143, 161, 162, 163, 166, 168, 234] Try.f177 [([0, 1], []), ([0, 1, 5], []), ([0, 5, 9, 10, 11], []), ([5, 11], [0, 9, 10]), ([0, 5, 9, 10, 11, 12], []), ([0, 5, 7, 9, 10, 11], []), ([0, 5, 9, 10, 11], []), ([0, 5, 9, 10, 11], []), ([4], [])] = some (x_ileftTimes, r_ileftTimes) := by kernel_rfl
def us_ileftTimes := aI @u177_0 (aI @u177_1 (aI @u177_2 (aI @u177_3 (aI @u177_4 (aI @u177_5 (aI @u177_6 (aI @u177_7 (aI @u177_8 @u177_9))))))))
abbrev b136_1 : X := (.seq (.reg [4] (.c (.q 5 [] (.mv (.t 1))) (.c (.q 6 [] (.fa 3 (.t 2))) (.c (.q 7 [] (.ld (.t 6))) (.c (.e (some 8) [] (.call false 178 [(.t 7)])) (.c (.e (some 9) [] (.call false 177 [(.t 5), (.t 8)])) (.c (.e (some 10) [] (.call false 176 [(.t 9)])) (.c (.q 4 [] (.mv (.t 10))) .nil)))))))) .ret)
def t136_1 := b136_1
theorem u136_1 : vcK P t136_1 k e w = vcK P b136_1 k e w := rfl
abbrev b136_0 : X := (.seq (.reg [1, 2] (.c (.e (some 2) [] (.box 89 (.t 0))) (.c (.q 4 [] (.mv (.c (.slice none 0 0)))) .nil))) t136_1)
def x_iblocks_setOf := b136_0
theorem u136_0 : vcK P x_iblocks_setOf k e w = vcK P b136_0 k e w := rfl
def r_iblocks_setOf : List XO := [(.mv (.t 4))]
theorem c_iblocks_setOf : convF Try.prog [89, 116, 117, 121, 143, 161, 162, 163, 166, 168, 234] Try.f136 [([1, 2], []), ([4], [])] = some (x_iblocks_setOf, r_iblocks_setOf) := by kernel_rfl
def us_iblocks_setOf := aI @u136_0 @u136_1
abbrev b80_1 : X := (.cond (.t 26) (.seq (.reg [4] (.c (.q 4 [] (.mv (.c (.bool false)))) .nil)) .ret) .skip)
def t80_1 := b80_1
theorem u80_1 : vcK P t80_1 k e w = vcK P b80_1 k e w := rfl
abbrev b80_2 : X := (.seq (.reg [1, 2, 9, 10, 11, 17, 18, 19, 26] (.c (.q 23 [] (.mv (.t 1))) (.c (.q 24 [] (.mv (.t 8))) (.c (.e (some 25) [] (.call false 91 [(.t 23), (.t 24)])) (.c (.q 26 [] (.not (.t 25))) .nil))))) t80_1)
def t80_2 := b80_2
theorem u80_2 : vcK P t80_2 k e w = vcK P b80_2 k e w := rfl
abbrev b80_3 : X := (.reg [1, 2, 9, 10, 11, 17, 18, 19] (.c (.q 27 [] (.bin .add (.t 19) (.c (.int .i64 1)))) (.c (.q 19 [] (.mv (.t 27))) .nil)))
def t80_3 := b80_3
theorem u80_3 : vcK P t80_3 k e w = vcK P b80_3 k e w := rfl
abbrev b80_4 : X := (.seq (.blk 3 (.seq (.reg [1, 2, 8, 9, 10, 11, 17, 18, 19] (.c (.q 21 [] (.ia 1 (.t 17) (.t 19))) (.c (.q 22 [] (.ld (.t 21))) (.c (.q 8 [] (.mv (.t 22))) .nil)))) t80_2)) t80_3)
def t80_4 := b80_4
theorem u80_4 : vcK P t80_4 k e w = vcK P b80_4 k e w := rfl
abbrev b80_5 : X := (.seq (.cond (.t 20) .skip (.exit 2)) t80_4)
def t80_5 := b80_5
theorem u80_5 : vcK P t80_5 k e w = vcK P b80_5 k e w := rfl
abbrev b80_6 : X := (.seq (.reg [1, 2, 9, 10, 11, 17, 18, 19, 20] (.c (.q 20 [] (.bin .lss (.t 19) (.t 18))) .nil)) t80_5)
def t80_6 := b80_6
theorem u80_6 : vcK P t80_6 k e w = vcK P b80_6 k e w := rfl
abbrev b80_7 : X := (.blk 2 (.loop [19] [1, 2, 9, 10, 11, 17, 18] t80_6))
def t80_7 := b80_7
theorem u80_7 : vcK P t80_7 k e w = vcK P b80_7 k e w := rfl
abbrev b80_8 : X := (.seq (.reg [1, 2, 9, 10, 11, 17, 18, 19] (.c (.q 15 [] (.lda 4 (.t 2))) (.c (.q 16 [] (.mv (.t 6))) (.c (.e (some 17) [] (.call false 136 [(.t 15), (.t 16)])) (.c (.q 18 [] (.lens (.t 17))) (.c (.q 19 [] (.mv (.c (.int .i64 0)))) .nil)))))) t80_7)
def t80_8 := b80_8
theorem u80_8 : vcK P t80_8 k e w = vcK P b80_8 k e w := rfl
abbrev b80_9 : X := (.reg [1, 2, 9, 10, 11] (.c (.q 28 [] (.bin .add (.t 11) (.c (.int .i64 1)))) (.c (.q 11 [] (.mv (.t 28))) .nil)))
def t80_9 := b80_9
theorem u80_9 : vcK P t80_9 k e w = vcK P b80_9 k e w := rfl
abbrev b80_10 : X := (.seq (.blk 1 (.seq (.reg [1, 2, 6, 9, 10, 11] (.c (.q 13 [] (.ia 1 (.t 9) (.t 11))) (.c (.q 14 [] (.ld (.t 13))) (.c (.q 6 [] (.mv (.t 14))) .nil)))) t80_8)) t80_9)
def t80_10 := b80_10
theorem u80_10 : vcK P t80_10 k e w = vcK P b80_10 k e w := rfl
abbrev b80_11 : X := (.seq (.cond (.t 12) .skip (.exit 0)) t80_10)
def t80_11 := b80_11
theorem u80_11 : vcK P t80_11 k e w = vcK P b80_11 k e w := rfl
abbrev b80_12 : X := (.seq (.reg [1, 2, 9, 10, 11, 12] (.c (.q 12 [] (.bin .lss (.t 11) (.t 10))) .nil)) t80_11)
def t80_12 := b80_12
theorem u80_12 : vcK P t80_12 k e w = vcK P b80_12 k e w := rfl
abbrev b80_13 : X := (.blk 0 (.loop [11] [1, 2, 9, 10] t80_12))
def t80_13 := b80_13
theorem u80_13 : vcK P t80_13 k e w = vcK P b80_13 k e w := rfl
abbrev b80_14 : X := (.seq (.reg [4] (.c (.q 4 [] (.mv (.c (.bool true)))) .nil)) .ret)
def t80_14 := b80_14
theorem u80_14 : vcK P t80_14 k e w = vcK P b80_14 k e w := rfl
abbrev b80_15 : X := (.seq (.seq (.reg [1, 2, 9, 10, 11] (.c (.q 9 [] (.mv (.t 1))) (.c (.q 10 [] (.lens (.t 9))) (.c (.q 11 [] (.mv (.c (.int .i64 0)))) .nil)))) t80_13) t80_14)
def t80_15 := b80_15
theorem u80_15 : vcK P t80_15 k e w = vcK P b80_15 k e w := rfl
abbrev b80_0 : X := (.seq (.reg [1, 2] (.c (.e (some 2) [] (.box 89 (.t 0))) (.c (.q 4 [] (.mv (.c (.bool false)))) .nil))) t80_15)
def x_iblocks_areBobs := b80_0
theorem u80_0 : vcK P x_iblocks_areBobs k e w = vcK P b80_0 k e w := rfl
def r_iblocks_areBobs : List XO := [(.mv (.t 4))]
theorem c_iblocks_areBobs : convF Try.prog [89, 116, 117, 121, 143, 161, 162, 163, 166, 168, 234] Try.f80 [([1, 2], []), ([1, 2, 9, 10, 11], []), ([11], [1, 2, 9, 10]), ([1, 2, 9, 10, 11, 12], []), ([1, 2, 6, 9, 10, 11], []), ([1, 2, 9, 10, 11, 17, 18, 19], []), ([19], [1, 2, 9, 10, 11, 17, 18]), ([1, 2, 9, 10, 11, 17, 18, 19, 20], []), ([1, 2, 8, 9, 10, 11, 17, 18, 19], []), ([1, 2, 9, 10, 11, 17, 18, 19, 26], []), ([4], []), ([1, 2, 9, 10, 11, 17, 18, 19], []), ([1, 2, 9, 10, 11], []), ([4], [])] = some (x_iblocks_areBobs, r_iblocks_areBobs) := by kernel_rfl
def us_iblocks_areBobs := aI @u80_0 (aI @u80_1 (aI @u80_2 (aI @u80_3 (aI @u80_4 (aI @u80_5 (aI @u80_6 (aI @u80_7 (aI @u80_8 (aI @u80_9 (aI @u80_10 (aI @u80_11 (aI @u80_12 (aI @u80_13 (aI @u80_14 @u80_15))))))))))))))
abbrev b79_1 : X := (.cond (.t 17) (.seq (.reg [4] (.c (.q 4 [] (.mv (.c (.bool false)))) .nil)) .ret) .skip)
def t79_1 := b79_1
theorem u79_1 : vcK P t79_1 k e w = vcK P b79_1 k e w := rfl
abbrev b79_2 : X := (.seq (.reg [1, 2, 7, 8, 9, 17] (.c (.q 13 [] (.fa 2 (.t 2))) (.c (.q 14 [] (.ld (.t 13))) (.c (.q 15 [] (.mv (.t 6))) (.c (.e (some 16) [] (.call false 91 [(.t 14), (.t 15)])) (.c (.q 17 [] (.not (.t 16))) .nil)))))) t79_1)
def t79_2 := b79_2
theorem u79_2 : vcK P t79_2 k e w = vcK P b79_2 k e w := rfl
abbrev b79_3 : X := (.reg [1, 2, 7, 8, 9] (.c (.q 18 [] (.bin .add (.t 9) (.c (.int .i64 1)))) (.c (.q 9 [] (.mv (.t 18))) .nil)))
def t79_3 := b79_3
theorem u79_3 : vcK P t79_3 k e w = vcK P b79_3 k e w := rfl
abbrev b79_4 : X := (.seq (.blk 1 (.seq (.reg [1, 2, 6, 7, 8, 9] (.c (.q 11 [] (.ia 1 (.t 7) (.t 9))) (.c (.q 12 [] (.ld (.t 11))) (.c (.q 6 [] (.mv (.t 12))) .nil)))) t79_2)) t79_3)
def t79_4 := b79_4
theorem u79_4 : vcK P t79_4 k e w = vcK P b79_4 k e w := rfl
abbrev b79_5 : X := (.seq (.cond (.t 10) .skip (.exit 0)) t79_4)
def t79_5 := b79_5
theorem u79_5 : vcK P t79_5 k e w = vcK P b79_5 k e w := rfl
abbrev b79_6 : X := (.seq (.reg [1, 2, 7, 8, 9, 10] (.c (.q 10 [] (.bin .lss (.t 9) (.t 8))) .nil)) t79_5)
def t79_6 := b79_6
theorem u79_6 : vcK P t79_6 k e w = vcK P b79_6 k e w := rfl
abbrev b79_7 : X := (.blk 0 (.loop [9] [1, 2, 7, 8] t79_6))
def t79_7 := b79_7
theorem u79_7 : vcK P t79_7 k e w = vcK P b79_7 k e w := rfl
abbrev b79_8 : X := (.seq (.reg [4] (.c (.q 19 [] (.mv (.t 1))) (.c (.e (some 20) [] (.call false 135 [(.t 19)])) (.c (.q 4 [] (.mv (.t 20))) .nil)))) .ret)
def t79_8 := b79_8
theorem u79_8 : vcK P t79_8 k e w = vcK P b79_8 k e w := rfl
abbrev b79_9 : X := (.seq (.seq (.reg [1, 2, 7, 8, 9] (.c (.q 7 [] (.mv (.t 1))) (.c (.q 8 [] (.lens (.t 7))) (.c (.q 9 [] (.mv (.c (.int .i64 0)))) .nil)))) t79_7) t79_8)
def t79_9 := b79_9
theorem u79_9 : vcK P t79_9 k e w = vcK P b79_9 k e w := rfl
abbrev b79_0 : X := (.seq (.reg [1, 2] (.c (.e (some 2) [] (.box 89 (.t 0))) (.c (.q 4 [] (.mv (.c (.bool false)))) .nil))) t79_9)
def x_iblocks_inGroup := b79_0
theorem u79_0 : vcK P x_iblocks_inGroup k e w = vcK P b79_0 k e w := rfl
def r_iblocks_inGroup : List XO := [(.mv (.t 4))]
theorem c_iblocks_inGroup : convF Try.prog [89, 116, 117, 121, 143, 161, 162, 163, 166, 168, 234] Try.f79 [([1, 2], []), ([1, 2, 7, 8, 9], []), ([9], [1, 2, 7, 8]), ([1, 2, 7, 8, 9, 10], []), ([1, 2, 6, 7, 8, 9], []), ([1, 2, 7, 8, 9, 17], []), ([4], []), ([1, 2, 7, 8, 9], []), ([4], [])] = some (x_iblocks_inGroup, r_iblocks_inGroup) := by kernel_rfl
def us_iblocks_inGroup := aI @u79_0 (aI @u79_1 (aI @u79_2 (aI @u79_3 (aI @u79_4 (aI @u79_5 (aI @u79_6 (aI @u79_7 (aI @u79_8 @u79_9))))))))
abbrev b77_1 : X := (.cond (.t 31) (.seq (.reg [4] (.c (.q 4 [] (.mv (.c (.bool false)))) .nil)) .ret) .skip)
def t77_1 := b77_1
theorem u77_1 : vcK P t77_1 k e w = vcK P b77_1 k e w := rfl
abbrev b77_2 : X := (.seq (.reg [1, 2, 7, 8, 9, 31] (.c (.q 14 [] (.fa 3 (.t 2))) (.c (.q 15 [] (.ld (.t 14))) (.c (.q 16 [] (.mv (.t 6))) (.c (.e (some 17) [] (.call false 86 [(.t 15), (.t 16)])) (.c (.q 18 [] (.not (.t 17))) (.c (.q 19 [] (.mv (.t 18))) (.c (.q 20 [(19, false)] (.mv (.t 5))) (.c (.q 21 [(19, false)] (.bin .gtr (.t 20) (.c (.int .i64 0)))) (.c (.q 22 [(19, false)] (.mv (.t 21))) (.c (.q 23 [(22, true), (19, false)] (.mv (.t 1))) (.c (.q 24 [(22, true), (19, false)] (.mv (.t 5))) (.c (.q 25 [(22, true), (19, false)] (.bin .sub (.t 24) (.c (.int .i64 1)))) (.c (.q 26 [(22, true), (19, false)] (.ia 1 (.t 23) (.t 25))) (.c (.q 27 [(22, true), (19, false)] (.ld (.t 26))) (.c (.q 28 [(22, true), (19, false)] (.mv (.t 6))) (.c (.q 29 [(22, true), (19, false)] (.bin .geq (.t 27) (.t 28))) (.c (.q 30 [(19, false)] (.pick (.t 22) (.t 29) (.c (.bool false)))) (.c (.q 31 [] (.pick (.t 19) (.c (.bool true)) (.t 30))) .nil))))))))))))))))))) t77_1)
def t77_2 := b77_2
theorem u77_2 : vcK P t77_2 k e w = vcK P b77_2 k e w := rfl
abbrev b77_3 : X := (.reg [1, 2, 7, 8, 9] (.c (.q 32 [] (.bin .add (.t 9) (.c (.int .i64 1)))) (.c (.q 9 [] (.mv (.t 32))) .nil)))
def t77_3 := b77_3
theorem u77_3 : vcK P t77_3 k e w = vcK P b77_3 k e w := rfl
abbrev b77_4 : X := (.seq (.blk 1 (.seq (.reg [1, 2, 5, 6, 7, 8, 9] (.c (.q 11 [] (.mv (.t 9))) (.c (.q 12 [] (.ia 1 (.t 7) (.t 9))) (.c (.q 13 [] (.ld (.t 12))) (.c (.q 5 [] (.mv (.t 11))) (.c (.q 6 [] (.mv (.t 13))) .nil)))))) t77_2)) t77_3)
def t77_4 := b77_4
theorem u77_4 : vcK P t77_4 k e w = vcK P b77_4 k e w := rfl
abbrev b77_5 : X := (.seq (.cond (.t 10) .skip (.exit 0)) t77_4)
def t77_5 := b77_5
theorem u77_5 : vcK P t77_5 k e w = vcK P b77_5 k e w := rfl
abbrev b77_6 : X := (.seq (.reg [1, 2, 7, 8, 9, 10] (.c (.q 10 [] (.bin .lss (.t 9) (.t 8))) .nil)) t77_5)
def t77_6 := b77_6
theorem u77_6 : vcK P t77_6 k e w = vcK P b77_6 k e w := rfl
abbrev b77_7 : X := (.blk 0 (.loop [9] [1, 2, 7, 8] t77_6))
def t77_7 := b77_7
theorem u77_7 : vcK P t77_7 k e w = vcK P b77_7 k e w := rfl
abbrev b77_8 : X := (.seq (.reg [4] (.c (.q 4 [] (.mv (.c (.bool true)))) .nil)) .ret)
def t77_8 := b77_8
theorem u77_8 : vcK P t77_8 k e w = vcK P b77_8 k e w := rfl
abbrev b77_9 : X := (.seq (.seq (.reg [1, 2, 7, 8, 9] (.c (.q 7 [] (.mv (.t 1))) (.c (.q 8 [] (.lens (.t 7))) (.c (.q 9 [] (.mv (.c (.int .i64 0)))) .nil)))) t77_7) t77_8)
def t77_9 := b77_9
theorem u77_9 : vcK P t77_9 k e w = vcK P b77_9 k e w := rfl
abbrev b77_0 : X := (.seq (.reg [1, 2] (.c (.e (some 2) [] (.box 85 (.t 0))) (.c (.q 4 [] (.mv (.c (.bool false)))) .nil))) t77_9)
def x_sl17C_rows := b77_0
theorem u77_0 : vcK P x_sl17C_rows k e w = vcK P b77_0 k e w := rfl
def r_sl17C_rows : List XO := [(.mv (.t 4))]
theorem c_sl17C_rows : convF Try.prog [89, 116, 117, 121, 143, 161, 162, 163, 166, 168, 234] Try.f77 [([1, 2], []), ([1, 2, 7, 8, 9], []), ([9], [1, 2, 7, 8]), ([1, 2, 7, 8, 9, 10], []), ([1, 2, 5, 6, 7, 8, 9], []), ([1, 2, 7, 8, 9, 31], []), ([4], []), ([1, 2, 7, 8, 9], []), ([4], [])] = some (x_sl17C_rows, r_sl17C_rows) := by kernel_rfl
def us_sl17C_rows := aI @u77_0 (aI @u77_1 (aI @u77_2 (aI @u77_3 (aI @u77_4 (aI @u77_5 (aI @u77_6 (aI @u77_7 (aI @u77_8 @u77_9))))))))
abbrev b78_1 : X := (.cond (.t 19) (.seq (.reg [4] (.c (.q 4 [] (.mv (.c (.bool false)))) .nil)) .ret) .skip)
def t78_1 := b78_1
theorem u78_1 : vcK P t78_1 k e w = vcK P b78_1 k e w := rfl
abbrev b78_2 : X := (.seq (.reg [1, 2, 7, 8, 9, 19] (.c (.q 13 [] (.mv (.t 1))) (.c (.q 14 [] (.mv (.t 6))) (.c (.q 15 [] (.fa 2 (.t 2))) (.c (.q 16 [] (.ld (.t 15))) (.c (.e (some 17) [] (.call false 82 [(.t 14), (.t 16)])) (.c (.e (some 18) [] (.call false 86 [(.t 13), (.t 17)])) (.c (.q 19 [] (.not (.t 18))) .nil)))))))) t78_1)
def t78_2 := b78_2
theorem u78_2 : vcK P t78_2 k e w = vcK P b78_2 k e w := rfl
abbrev b78_3 : X := (.reg [1, 2, 7, 8, 9] (.c (.q 20 [] (.bin .add (.t 9) (.c (.int .i64 1)))) (.c (.q 9 [] (.mv (.t 20))) .nil)))
def t78_3 := b78_3
theorem u78_3 : vcK P t78_3 k e w = vcK P b78_3 k e w := rfl
abbrev b78_4 : X := (.seq (.blk 1 (.seq (.reg [1, 2, 6, 7, 8, 9] (.c (.q 11 [] (.ia 1 (.t 7) (.t 9))) (.c (.q 12 [] (.ld (.t 11))) (.c (.q 6 [] (.mv (.t 12))) .nil)))) t78_2)) t78_3)
def t78_4 := b78_4
theorem u78_4 : vcK P t78_4 k e w = vcK P b78_4 k e w := rfl
abbrev b78_5 : X := (.seq (.cond (.t 10) .skip (.exit 0)) t78_4)
def t78_5 := b78_5
theorem u78_5 : vcK P t78_5 k e w = vcK P b78_5 k e w := rfl
abbrev b78_6 : X := (.seq (.reg [1, 2, 7, 8, 9, 10] (.c (.q 10 [] (.bin .lss (.t 9) (.t 8))) .nil)) t78_5)
def t78_6 := b78_6
theorem u78_6 : vcK P t78_6 k e w = vcK P b78_6 k e w := rfl
abbrev b78_7 : X := (.blk 0 (.loop [9] [1, 2, 7, 8] t78_6))
def t78_7 := b78_7
theorem u78_7 : vcK P t78_7 k e w = vcK P b78_7 k e w := rfl
abbrev b78_8 : X := (.seq (.reg [4] (.c (.q 4 [] (.mv (.c (.bool true)))) .nil)) .ret)
def t78_8 := b78_8
theorem u78_8 : vcK P t78_8 k e w = vcK P b78_8 k e w := rfl
abbrev b78_9 : X := (.seq (.seq (.reg [1, 2, 7, 8, 9] (.c (.q 7 [] (.mv (.t 1))) (.c (.q 8 [] (.lens (.t 7))) (.c (.q 9 [] (.mv (.c (.int .i64 0)))) .nil)))) t78_7) t78_8)
def t78_9 := b78_9
theorem u78_9 : vcK P t78_9 k e w = vcK P b78_9 k e w := rfl
abbrev b78_0 : X := (.seq (.reg [1, 2] (.c (.e (some 2) [] (.box 85 (.t 0))) (.c (.q 4 [] (.mv (.c (.bool false)))) .nil))) t78_9)
def x_sl17C_good := b78_0
theorem u78_0 : vcK P x_sl17C_good k e w = vcK P b78_0 k e w := rfl
def r_sl17C_good : List XO := [(.mv (.t 4))]
theorem c_sl17C_good : convF Try.prog [89, 116, 117, 121, 143, 161, 162, 163, 166, 168, 234] Try.f78 [([1, 2], []), ([1, 2, 7, 8, 9], []), ([9], [1, 2, 7, 8]), ([1, 2, 7, 8, 9, 10], []), ([1, 2, 6, 7, 8, 9], []), ([1, 2, 7, 8, 9, 19], []), ([4], []), ([1, 2, 7, 8, 9], []), ([4], [])] = some (x_sl17C_good, r_sl17C_good) := by kernel_rfl
def us_sl17C_good := aI @u78_0 (aI @u78_1 (aI @u78_2 (aI @u78_3 (aI @u78_4 (aI @u78_5 (aI @u78_6 (aI @u78_7 (aI @u78_8 @u78_9))))))))
abbrev b35_1 : X := (.cond (.t 23) (.seq (.reg [6, 7] (.c (.q 6 [] (.mv (.c (.bool false)))) (.c (.q 7 [] (.mv (.c (.bool false)))) .nil))) .ret) .skip)
def t35_1 := b35_1
theorem u35_1 : vcK P t35_1 k e w = vcK P b35_1 k e w := rfl
abbrev b35_2 : X := (.seq (.reg [6, 7] (.c (.q 24 [] (.lda 4 (.t 8))) (.c (.q 25 [] (.mv (.t 2))) (.c (.e (some 26) [] (.call false 80 [(.t 24), (.t 25)])) (.c (.q 6 [] (.mv (.t 26))) (.c (.q 7 [] (.mv (.c (.bool true)))) .nil)))))) .ret)
def t35_2 := b35_2
theorem u35_2 : vcK P t35_2 k e w = vcK P b35_2 k e w := rfl
abbrev b35_3 : X := (.seq (.seq (.reg [2, 8, 23] (.c (.q 16 [] (.mv (.t 9))) (.c (.q 17 [] (.not (.t 16))) (.c (.q 18 [] (.mv (.t 17))) (.c (.q 19 [(18, false)] (.lda 4 (.t 8))) (.c (.q 20 [(18, false)] (.mv (.t 2))) (.c (.e (some 21) [(18, false)] (.call false 79 [(.t 19), (.t 20)])) (.c (.q 22 [(18, false)] (.not (.t 21))) (.c (.q 23 [] (.pick (.t 18) (.c (.bool true)) (.t 22))) .nil))))))))) t35_1) t35_2)
def t35_3 := b35_3
theorem u35_3 : vcK P t35_3 k e w = vcK P b35_3 k e w := rfl
abbrev b35_4 : X := (.seq (.reg [2, 8, 9] (.c (.q 11 [] (.lda 3 (.t 3))) (.c (.q 12 [] (.lda 2 (.t 4))) (.c (.e (some 13) [] (.call false 67 [(.t 11), (.t 12)])) (.c (.q 10 [] (.mv (.t 13))) (.c (.q 14 [] (.ext 0 (.t 10))) (.c (.q 15 [] (.ext 1 (.t 10))) (.c (.e (some 8) [] (.al 89 [(S []), (S []), (.slice none 0 0), (S [])])) (.c (.e none [] (.st 4 (.t 8) (.t 14))) (.c (.q 9 [] (.mv (.t 15))) .nil)))))))))) t35_3)
def t35_4 := b35_4
theorem u35_4 : vcK P t35_4 k e w = vcK P b35_4 k e w := rfl
abbrev b35_0 : X := (.seq (.reg [2, 3, 4] (.c (.e (some 3) [] (.box 31 (.t 0))) (.c (.e (some 4) [] (.box 33 (.t 1))) (.c (.q 6 [] (.mv (.c (.bool false)))) (.c (.q 7 [] (.mv (.c (.bool false)))) .nil))))) t35_4)
def x_iGoodBobs := b35_0
theorem u35_0 : vcK P x_iGoodBobs k e w = vcK P b35_0 k e w := rfl
def r_iGoodBobs : List XO := [(.mv (.t 6)), (.mv (.t 7))]
theorem c_iGoodBobs : convF Try.prog [89, 116, 117, 121, 143, 161, 162, 163, 166, 168, 234] Try.f35 [([2, 3, 4], []), ([2, 8, 9], []), ([2, 8, 23], []), ([6, 7], []), ([6, 7], [])] = some (x_iGoodBobs, r_iGoodBobs) := by kernel_rfl
def us_iGoodBobs := aI @u35_0 (aI @u35_1 (aI @u35_2 (aI @u35_3 @u35_4)))
abbrev b33_1 : X := (.cond (.t 23) (.seq (.reg [6, 7] (.c (.q 6 [] (.mv (.c (.bool false)))) (.c (.q 7 [] (.mv (.c (.bool false)))) .nil))) .ret) .skip)
def t33_1 := b33_1
theorem u33_1 : vcK P t33_1 k e w = vcK P b33_1 k e w := rfl
abbrev b33_2 : X := (.seq (.reg [6, 7] (.c (.q 24 [] (.lda 4 (.t 8))) (.c (.q 25 [] (.mv (.t 2))) (.c (.e (some 26) [] (.call false 78 [(.t 24), (.t 25)])) (.c (.q 6 [] (.mv (.t 26))) (.c (.q 7 [] (.mv (.c (.bool true)))) .nil)))))) .ret)
def t33_2 := b33_2
theorem u33_2 : vcK P t33_2 k e w = vcK P b33_2 k e w := rfl
abbrev b33_3 : X := (.seq (.seq (.reg [2, 8, 23] (.c (.q 16 [] (.mv (.t 9))) (.c (.q 17 [] (.not (.t 16))) (.c (.q 18 [] (.mv (.t 17))) (.c (.q 19 [(18, false)] (.lda 4 (.t 8))) (.c (.q 20 [(18, false)] (.mv (.t 2))) (.c (.e (some 21) [(18, false)] (.call false 77 [(.t 19), (.t 20)])) (.c (.q 22 [(18, false)] (.not (.t 21))) (.c (.q 23 [] (.pick (.t 18) (.c (.bool true)) (.t 22))) .nil))))))))) t33_1) t33_2)
def t33_3 := b33_3
theorem u33_3 : vcK P t33_3 k e w = vcK P b33_3 k e w := rfl
abbrev b33_4 : X := (.seq (.reg [2, 8, 9] (.c (.q 11 [] (.lda 3 (.t 3))) (.c (.q 12 [] (.lda 2 (.t 4))) (.c (.e (some 13) [] (.call false 66 [(.t 11), (.t 12)])) (.c (.q 10 [] (.mv (.t 13))) (.c (.q 14 [] (.ext 0 (.t 10))) (.c (.q 15 [] (.ext 1 (.t 10))) (.c (.e (some 8) [] (.al 85 [(S []), (S []), (S []), (.slice none 0 0)])) (.c (.e none [] (.st 4 (.t 8) (.t 14))) (.c (.q 9 [] (.mv (.t 15))) .nil)))))))))) t33_3)
def t33_4 := b33_4
theorem u33_4 : vcK P t33_4 k e w = vcK P b33_4 k e w := rfl
abbrev b33_0 : X := (.seq (.reg [2, 3, 4] (.c (.e (some 3) [] (.box 31 (.t 0))) (.c (.e (some 4) [] (.box 33 (.t 1))) (.c (.q 6 [] (.mv (.c (.bool false)))) (.c (.q 7 [] (.mv (.c (.bool false)))) .nil))))) t33_4)
def x_sGoodBobs := b33_0
theorem u33_0 : vcK P x_sGoodBobs k e w = vcK P b33_0 k e w := rfl
def r_sGoodBobs : List XO := [(.mv (.t 6)), (.mv (.t 7))]
theorem c_sGoodBobs : convF Try.prog [89, 116, 117, 121, 143, 161, 162, 163, 166, 168, 234] Try.f33 [([2, 3, 4], []), ([2, 8, 9], []), ([2, 8, 23], []), ([6, 7], []), ([6, 7], [])] = some (x_sGoodBobs, r_sGoodBobs) := by kernel_rfl
def us_sGoodBobs := aI @u33_0 (aI @u33_1 (aI @u33_2 (aI @u33_3 @u33_4)))
abbrev b7_1 : X := (.cond (.t 18) (.seq (.reg [6] (.c (.q 6 [] (.mv (.c (.bool true)))) .nil)) .ret) .skip)
def t7_1 := b7_1
theorem u7_1 : vcK P t7_1 k e w = vcK P b7_1 k e w := rfl
abbrev b7_2 : X := (.cond (.t 23) (.seq (.reg [6] (.c (.q 6 [] (.mv (.c (.bool true)))) .nil)) .ret) .skip)
def t7_2 := b7_2
theorem u7_2 : vcK P t7_2 k e w = vcK P b7_2 k e w := rfl
abbrev b7_3 : X := (.cond (.t 28) (.seq (.reg [6] (.c (.q 6 [] (.mv (.c (.bool true)))) .nil)) .ret) .skip)
def t7_3 := b7_3
theorem u7_3 : vcK P t7_3 k e w = vcK P b7_3 k e w := rfl
abbrev b7_4 : X := (.cond (.t 58) (.seq (.reg [6] (.c (.q 6 [] (.mv (.c (.bool false)))) .nil)) .ret) .skip)
def t7_4 := b7_4
theorem u7_4 : vcK P t7_4 k e w = vcK P b7_4 k e w := rfl
abbrev b7_5 : X := (.cond (.t 63) (.seq (.reg [6] (.c (.q 6 [] (.mv (.c (.bool false)))) .nil)) .ret) .skip)
def t7_5 := b7_5
theorem u7_5 : vcK P t7_5 k e w = vcK P b7_5 k e w := rfl
abbrev b7_6 : X := (.cond (.t 68) (.seq (.reg [6] (.c (.q 6 [] (.mv (.c (.bool false)))) .nil)) .ret) .skip)
def t7_6 := b7_6
theorem u7_6 : vcK P t7_6 k e w = vcK P b7_6 k e w := rfl
abbrev b7_7 : X := (.seq (.reg [6] (.c (.q 6 [] (.mv (.c (.bool true)))) .nil)) .ret)
def t7_7 := b7_7
theorem u7_7 : vcK P t7_7 k e w = vcK P b7_7 k e w := rfl
abbrev b7_8 : X := (.seq (.seq (.reg [68] (.c (.q 64 [] (.mv (.t 11))) (.c (.q 65 [] (.mv (.t 2))) (.c (.e (some 66) [] (.call false 34 [(.t 65)])) (.c (.e (some 67) [] (.call false 21 [(.t 64), (.t 66)])) (.c (.q 68 [] (.not (.t 67))) .nil)))))) t7_6) t7_7)
def t7_8 := b7_8
theorem u7_8 : vcK P t7_8 k e w = vcK P b7_8 k e w := rfl
abbrev b7_9 : X := (.seq (.seq (.drw [2, 11, 63] (.c (.q 59 [] (.lda 3 (.t 10))) (.c (.q 60 [] (.lda 3 (.t 3))) (.c (.e (some 61) [] (.call false 15 [(.t 60)])) (.c (.e (some 62) [] (.call false 18 [(.t 59), (.t 61)])) (.c (.q 63 [] (.not (.t 62))) .nil)))))) t7_5) t7_8)
def t7_9 := b7_9
theorem u7_9 : vcK P t7_9 k e w = vcK P b7_9 k e w := rfl
abbrev b7_10 : X := (.seq (.seq (.reg [2, 3, 10, 11, 58] (.c (.q 51 [] (.mv (.t 12))) (.c (.q 52 [] (.mv (.t 8))) (.c (.q 53 [] (.beq true (.t 51) (.t 52))) (.c (.q 54 [] (.mv (.t 53))) (.c (.q 55 [(54, false)] (.mv (.t 13))) (.c (.q 56 [(54, false)] (.mv (.t 9))) (.c (.q 57 [(54, false)] (.beq true (.t 55) (.t 56))) (.c (.q 58 [] (.pick (.t 54) (.c (.bool true)) (.t 57))) .nil))))))))) t7_4) t7_9)
def t7_10 := b7_10
theorem u7_10 : vcK P t7_10 k e w = vcK P b7_10 k e w := rfl
abbrev b7_11 : X := (.seq (.drw [2, 3, 8, 9, 10, 11, 12, 13] (.c (.q 44 [] (.lda 3 (.t 10))) (.c (.q 45 [] (.lda 2 (.t 4))) (.c (.q 47 [] (.mv (.t 11))) (.c (.e (some 46) [] (.call false 16 [(.t 45)])) (.c (.e (some 48) [] (.call false 35 [(.t 44), (.t 46), (.t 47)])) (.c (.q 43 [] (.mv (.t 48))) (.c (.q 49 [] (.ext 0 (.t 43))) (.c (.q 50 [] (.ext 1 (.t 43))) (.c (.q 12 [] (.mv (.t 49))) (.c (.q 13 [] (.mv (.t 50))) .nil))))))))))) t7_10)
def t7_11 := b7_11
theorem u7_11 : vcK P t7_11 k e w = vcK P b7_11 k e w := rfl
abbrev b7_12 : X := (.seq (.reg [2, 3, 4, 8, 9, 10, 11] (.c (.q 41 [] (.mv (.t 2))) (.c (.e (some 42) [] (.call false 34 [(.t 41)])) (.c (.q 11 [] (.mv (.t 42))) .nil)))) t7_11)
def t7_12 := b7_12
theorem u7_12 : vcK P t7_12 k e w = vcK P b7_12 k e w := rfl
abbrev b7_13 : X := (.seq (.reg [2, 3, 4, 8, 9, 10] (.c (.q 39 [] (.lda 3 (.t 3))) (.c (.e (some 40) [] (.call false 15 [(.t 39)])) (.c (.e (some 10) [] (.al 31 [(S []), (.int .i64 0), (.slice none 0 0)])) (.c (.e none [] (.st 3 (.t 10) (.t 40))) .nil))))) t7_12)
def t7_13 := b7_13
theorem u7_13 : vcK P t7_13 k e w = vcK P b7_13 k e w := rfl
abbrev b7_14 : X := (.seq (.drw [2, 3, 4, 8, 9] (.c (.q 30 [] (.lda 3 (.t 3))) (.c (.q 32 [] (.lda 2 (.t 4))) (.c (.q 34 [] (.mv (.t 2))) (.c (.e (some 31) [] (.call false 15 [(.t 30)])) (.c (.e (some 33) [] (.call false 16 [(.t 32)])) (.c (.e (some 35) [] (.call false 34 [(.t 34)])) (.c (.e (some 36) [] (.call false 33 [(.t 31), (.t 33), (.t 35)])) (.c (.q 29 [] (.mv (.t 36))) (.c (.q 37 [] (.ext 0 (.t 29))) (.c (.q 38 [] (.ext 1 (.t 29))) (.c (.q 8 [] (.mv (.t 37))) (.c (.q 9 [] (.mv (.t 38))) .nil))))))))))))) t7_13)
def t7_14 := b7_14
theorem u7_14 : vcK P t7_14 k e w = vcK P b7_14 k e w := rfl
abbrev b7_15 : X := (.seq (.seq (.reg [2, 3, 4, 28] (.c (.q 27 [] (.mv (.t 7))) (.c (.q 28 [] (.bin .lss (.t 27) (.c (.int .i64 0)))) .nil))) t7_3) t7_14)
def t7_15 := b7_15
theorem u7_15 : vcK P t7_15 k e w = vcK P b7_15 k e w := rfl
abbrev b7_16 : X := (.seq (.reg [2, 3, 4, 7] (.c (.q 24 [] (.mv (.t 2))) (.c (.q 25 [] (.mv (.t 7))) (.c (.e (some 26) [] (.call false 32 [(.t 24), (.t 25)])) (.c (.q 7 [] (.mv (.t 26))) .nil))))) t7_15)
def t7_16 := b7_16
theorem u7_16 : vcK P t7_16 k e w = vcK P b7_16 k e w := rfl
abbrev b7_17 : X := (.seq (.seq (.reg [2, 3, 4, 7, 23] (.c (.q 22 [] (.mv (.t 7))) (.c (.q 23 [] (.bin .lss (.t 22) (.c (.int .i64 0)))) .nil))) t7_2) t7_16)
def t7_17 := b7_17
theorem u7_17 : vcK P t7_17 k e w = vcK P b7_17 k e w := rfl
abbrev b7_18 : X := (.seq (.reg [2, 3, 4, 7] (.c (.q 19 [] (.lda 2 (.t 4))) (.c (.q 20 [] (.mv (.t 7))) (.c (.e (some 21) [] (.call false 13 [(.t 19), (.t 20)])) (.c (.q 7 [] (.mv (.t 21))) .nil))))) t7_17)
def t7_18 := b7_18
theorem u7_18 : vcK P t7_18 k e w = vcK P b7_18 k e w := rfl
abbrev b7_19 : X := (.seq (.seq (.reg [2, 3, 4, 7, 18] (.c (.q 17 [] (.mv (.t 7))) (.c (.q 18 [] (.bin .lss (.t 17) (.c (.int .i64 0)))) .nil))) t7_1) t7_18)
def t7_19 := b7_19
theorem u7_19 : vcK P t7_19 k e w = vcK P b7_19 k e w := rfl
abbrev b7_20 : X := (.seq (.reg [2, 3, 4, 7] (.c (.q 14 [] (.lda 3 (.t 3))) (.c (.q 15 [] (.mv (.t 7))) (.c (.e (some 16) [] (.call false 12 [(.t 14), (.t 15)])) (.c (.q 7 [] (.mv (.t 16))) .nil))))) t7_19)
def t7_20 := b7_20
theorem u7_20 : vcK P t7_20 k e w = vcK P b7_20 k e w := rfl
abbrev b7_21 : X := (.seq (.reg [2, 3, 4, 7] (.c (.q 7 [] (.mv (.c (.int .i64 1048576)))) .nil)) t7_20)
def t7_21 := b7_21
theorem u7_21 : vcK P t7_21 k e w = vcK P b7_21 k e w := rfl
abbrev b7_0 : X := (.seq (.reg [2, 3, 4] (.c (.e (some 3) [] (.box 24 (.t 0))) (.c (.e (some 4) [] (.box 26 (.t 1))) (.c (.q 6 [] (.mv (.c (.bool false)))) .nil)))) t7_21)
def x_lFnExactGoodBobs := b7_0
theorem u7_0 : vcK P x_lFnExactGoodBobs k e w = vcK P b7_0 k e w := rfl
def r_lFnExactGoodBobs : List XO := [(.mv (.t 6))]
theorem c_lFnExactGoodBobs : convF Try.prog [89, 116, 117, 121, 143, 161, 162, 163, 166, 168, 234] Try.f7 [([2, 3, 4], []), ([2, 3, 4, 7], []), ([2, 3, 4, 7], []), ([2, 3, 4, 7, 18], []), ([6], []), ([2, 3, 4, 7], []), ([2, 3, 4, 7, 23], []), ([6], []), ([2, 3, 4, 7], []), ([2, 3, 4, 28], []), ([6], []), ([2, 3, 4, 8, 9], []), ([2, 3, 4, 8, 9, 10], []), ([2, 3, 4, 8, 9, 10, 11], []), ([2, 3, 8, 9, 10, 11, 12, 13], []), ([2, 3, 10, 11, 58], []), ([6], []), ([2, 11, 63], []), ([6], []), ([68], []), ([6], []), ([6], [])] = some (x_lFnExactGoodBobs, r_lFnExactGoodBobs) := by kernel_rfl
def us_lFnExactGoodBobs := aI @u7_0 (aI @u7_1 (aI @u7_2 (aI @u7_3 (aI @u7_4 (aI @u7_5 (aI @u7_6 (aI @u7_7 (aI @u7_8 (aI @u7_9 (aI @u7_10 (aI @u7_11 (aI @u7_12 (aI @u7_13 (aI @u7_14 (aI @u7_15 (aI @u7_16 (aI @u7_17 (aI @u7_18 (aI @u7_19 (aI @u7_20 @u7_21))))))))))))))))))))
end

theorem ileftTimes_ok (n : Nat) (a : Bs) (v : Value) (l : List Bs) (ha : a.length = n) (hr : RowsN n l) (hl : l.length ≤ 1000000) (w : World) (h : Sq fS 1 w v l) : Fn 177 [S a, v] w (fun r w' => Own fS 1 9 w.heap.size w' r (l.map (timesL a))) := by
  (refine callsV_of mix Try.func177 c_ileftTimes ?_; simp only [↓vsd, vsn, gW, qd, qv, ev, pick, argE, zipE, ne_eq, eq_self, forall_const, implies_true, if_true, if_false, reduceIte, reduceCtorEq, Nat.reduceEqDiff, Nat.reduceAdd, Nat.reduceLT, ↓us_ileftTimes, r_ileftTimes])
  refine m_bsl (by simp) ?_
  rintro b1 w1 hb1 hblk1 hx1 hs1
  have hq1 := h.ext hx1
  simp only [↓vsd, vsn, gW, qd, qv, ev, pick, argE, zipE, ne_eq, eq_self, forall_const, implies_true, if_true, if_false, reduceIte, reduceCtorEq, Nat.reduceEqDiff, Nat.reduceAdd, Nat.reduceLT, ↓us_ileftTimes, r_ileftTimes, hq1.facts]
  refine m_upto l.length (fun i vs w' => ∃ x, vs = [x, .int .i64 i] ∧ Own fS 1 9 w.heap.size w' x ((l.take i).map (timesL a)) ∧ Ext w w') ⟨_, rfl, (Own.empty fS_len hblk1 (by omega)).to rfl, hx1⟩ ?_
  rintro i vs w2 hi ⟨x, rfl, ho2, hx2⟩
  have hq2 := h.ext hx2
  by_cases hlt : i < l.length
  · have hltI : (i : Int) < l.length := by omega
    have hltJ : ¬ (l.length : Int) ≤ i := by omega
    have a2 := hq2.at1 [] hlt
    have hb := hr _ (getD_mem [] hlt)
    have hsn : (l.take (i + 1)).map (timesL a) = (l.take i).map (timesL a) ++ [timesL a (l.getD i [])] := by
      rw [List.take_add_one, List.getElem?_eq_getElem hlt, List.getD_eq_getElem?_getD, List.getElem?_eq_getElem hlt, List.map_append]; rfl
    simp only [↓vsd, vsn, gW, qd, qv, ev, pick, argE, zipE, ne_eq, eq_self, forall_const, implies_true, if_true, if_false, reduceIte, reduceCtorEq, Nat.reduceEqDiff, Nat.reduceAdd, Nat.reduceLT, ↓us_ileftTimes, r_ileftTimes, hltI, hltJ, hq2.facts, a2]
    refine ⟨by omega, m_call (itimes_ok a _ hb.1 (by rw [ha, hb.2]) _) ?_⟩
    rintro _ w3 hx3 rfl
    have hx3 : Ext w2 w3 := by first | exact hx3 | exact ud hx3 | exact ud (ud hx3)
    simp only [↓vsd, vsn, gW, qd, qv, ev, pick, argE, zipE, ne_eq, eq_self, forall_const, implies_true, if_true, if_false, reduceIte, reduceCtorEq, Nat.reduceEqDiff, Nat.reduceAdd, Nat.reduceLT, ↓us_ileftTimes, r_ileftTimes]
    refine m_bsl (one_el rfl) ?_
    rintro b4 w4 hb4 hblk4 hx4 hs4
    have hx4 : Ext w3 w4 := by first | exact hx4 | exact ud hx4 | exact ud (ud hx4)
    simp only [↓vsd, vsn, gW, qd, qv, ev, pick, argE, zipE, ne_eq, eq_self, forall_const, implies_true, if_true, if_false, reduceIte, reduceCtorEq, Nat.reduceEqDiff, Nat.reduceAdd, Nat.reduceLT, ↓us_ileftTimes, r_ileftTimes]
    have hx24 := hx3.trans hx4
    refine m_app (ho2.ext hx24) (Sq.one fS_len hblk4 rfl) fS_one (by decide) (by rw [List.length_map, List.length_take, List.length_singleton]; omega) (by decide) (hx2.trans hx24).size ?_
    rintro x5 w5 ho5 hg5
    have hx5 := (ho2.ext hx24).grown (hx2.trans hx24) (Nat.le_refl _) hg5
    simp only [↓vsd, vsn, gW, qd, qv, ev, pick, argE, zipE, ne_eq, eq_self, forall_const, implies_true, if_true, if_false, reduceIte, reduceCtorEq, Nat.reduceEqDiff, Nat.reduceAdd, Nat.reduceLT, ↓us_ileftTimes, r_ileftTimes]
    exact ⟨inR_i64 (by omega), UpTo.next hlt ⟨x5, rfl, ho5.to hsn.symm, hx5⟩⟩
  · obtain rfl : i = l.length := by omega
    have hltI : ¬ (l.length : Int) < l.length := by omega
    rw [List.take_length] at ho2
    simp only [↓vsd, vsn, gW, qd, qv, ev, pick, argE, zipE, ne_eq, eq_self, forall_const, implies_true, if_true, if_false, reduceIte, reduceCtorEq, Nat.reduceEqDiff, Nat.reduceAdd, Nat.reduceLT, ↓us_ileftTimes, r_ileftTimes, hltI]
    exact ⟨hx2, ho2⟩
/-- The Q-set of h, k of its rows. -/
def qsL (q h : Bs) (k : Nat) : List Bs := ((List.range k).map (powL q)).map (timesL h)
theorem iblocks_setOf_ok (p b : Bs) (v : Value) (q h : Bs) (k : Nat) (hq : IsRow q) (ho : IsOrd q k) (hh : h.length = q.length) (hv : v.oneCell' = true) (w : World) : Fn 136 [.agg ⟨fG p b v q⟩, S h] w (fun r w' => Own fS 1 9 w.heap.size w' r (srt (qsL q h k))) := by
  (refine callsV_of mix Try.func136 c_iblocks_setOf ?_; simp only [↓vsd, vsn, gW, qd, qv, ev, pick, argE, zipE, ne_eq, eq_self, forall_const, implies_true, if_true, if_false, reduceIte, reduceCtorEq, Nat.reduceEqDiff, Nat.reduceAdd, Nat.reduceLT, ↓us_iblocks_setOf, r_iblocks_setOf])
  refine m_al ?_
  rintro b1 w1 hb1 hblk1 hx1 hs1
  have h1 : Blk w1 b1 (fG p b v q) 89 := hblk1
  simp only [↓vsd, vsn, gW, qd, qv, ev, pick, argE, zipE, ne_eq, eq_self, forall_const, implies_true, if_true, if_false, reduceIte, reduceCtorEq, Nat.reduceEqDiff, Nat.reduceAdd, Nat.reduceLT, ↓us_iblocks_setOf, r_iblocks_setOf, h1.facts, fGg]
  refine m_call (ipowers_ok q k hq ho _) ?_
  rintro x w2 hx2 ho2
  have hx2 : Ext w1 w2 := by first | exact hx2 | exact ud hx2 | exact ud (ud hx2)
  simp only [↓vsd, vsn, gW, qd, qv, ev, pick, argE, zipE, ne_eq, eq_self, forall_const, implies_true, if_true, if_false, reduceIte, reduceCtorEq, Nat.reduceEqDiff, Nat.reduceAdd, Nat.reduceLT, ↓us_iblocks_setOf, r_iblocks_setOf]
  have hk := ho.2.1
  refine m_call (ileftTimes_ok q.length h x _ hh (fun y hy => by obtain ⟨i, _, rfl⟩ := List.mem_map.1 hy; exact ⟨powL_row hq i, powL_len q i⟩) (by simp; omega) _ ho2.sq) ?_
  rintro y w3 hx3 ho3
  have hx3 : Ext w2 w3 := by first | exact hx3 | exact ud hx3 | exact ud (ud hx3)
  simp only [↓vsd, vsn, gW, qd, qv, ev, pick, argE, zipE, ne_eq, eq_self, forall_const, implies_true, if_true, if_false, reduceIte, reduceCtorEq, Nat.reduceEqDiff, Nat.reduceAdd, Nat.reduceLT, ↓us_iblocks_setOf, r_iblocks_setOf]
  refine m_call (isorted_ok y _ (by have := ho.1; simp; omega) _ ho3.sq) ?_
  rintro z w4 hx4 ho4
  have hx4 : Ext w3 w4 := by first | exact hx4 | exact ud hx4 | exact ud (ud hx4)
  simp only [↓vsd, vsn, gW, qd, qv, ev, pick, argE, zipE, ne_eq, eq_self, forall_const, implies_true, if_true, if_false, reduceIte, reduceCtorEq, Nat.reduceEqDiff, Nat.reduceAdd, Nat.reduceLT, ↓us_iblocks_setOf, r_iblocks_setOf]
  have hx14 := (hx1.trans hx2).trans hx3
  exact ⟨hx14.trans hx4, ho4.mono hx14.size⟩
/-- Rising rows of the group. -/
def InG (G bobs : List Bs) : Prop := (∀ h ∈ bobs, h ∈ G) ∧ Rise bobs
instance (G bobs : List Bs) : Decidable (InG G bobs) := by unfold InG; infer_instance
/-- With each row its product with q. -/
def ClB (q : Bs) (bobs : List Bs) : Prop := ∀ h ∈ bobs, timesL h q ∈ bobs
instance (q : Bs) (bobs : List Bs) : Decidable (ClB q bobs) := by unfold ClB; infer_instance
theorem clb_iff {n : Nat} {q : Bs} {bobs : List Bs} {k : Nat} (hq : IsRow q) (hql : q.length = n) (ho : IsOrd q k) (hb : RowsN n bobs) : ClB q bobs ↔ ∀ h ∈ bobs, ∀ g ∈ srt (qsL q h k), g ∈ bobs := by
  have hn := hq.1
  constructor
  · intro hC h hh g hg
    rw [srt_mem] at hg
    obtain ⟨y, hy, rfl⟩ := List.mem_map.1 hg
    obtain ⟨i, hi, rfl⟩ := List.mem_map.1 hy
    clear hg hy hi
    have hhr := hb h hh
    induction i with
    | zero =>
      have e : powL q 0 = roundsL h.length := by rw [hhr.2, ← hql]; rfl
      rw [e, times_rounds hhr.1.1.2]; exact hh
    | succ i ih =>
      have e : timesL h (powL q (i + 1)) = timesL (timesL h (powL q i)) q := (timesL_assoc h hq (by rw [powL_len])).symm
      rw [e]
      exact hC _ ih
  · intro hA h hh
    have hhr := hb h hh
    refine hA h hh _ ?_
    rw [srt_mem]
    rcases Nat.lt_or_ge 1 k with h1 | h1
    · refine List.mem_map.2 ⟨powL q 1, List.mem_map.2 ⟨1, List.mem_range.2 h1, rfl⟩, ?_⟩
      have : powL q 1 = q := by show timesL (roundsL q.length) q = q; exact rounds_times hq
      rw [this]
    · obtain rfl : k = 1 := by have := ho.1; omega
      have h2 := ho.2.2.1
      have h3 : powL q 1 = q := by show timesL (roundsL q.length) q = q; exact rounds_times hq
      refine List.mem_map.2 ⟨powL q 0, List.mem_map.2 ⟨0, List.mem_range.2 (by omega), rfl⟩, ?_⟩
      have h4 : powL q 0 = q := by
        show roundsL q.length = q
        rw [← h2]; exact h3
      rw [h4]
theorem take_all {p : Bs → Prop} {l : List Bs} {i : Nat} (hi : i < l.length) (h : ∀ x ∈ l.take i, p x) (hp : p (l.getD i [])) : ∀ x ∈ l.take (i + 1), p x := fun x hx => by
  rw [List.take_add_one, List.getElem?_eq_getElem hi] at hx
  rw [List.getD_eq_getElem?_getD, List.getElem?_eq_getElem hi] at hp
  rcases List.mem_append.1 hx with h1 | h1
  · exact h x h1
  · simp only [Option.toList_some, List.mem_singleton, Option.getD_some] at h1 hp
    rw [h1]; exact hp
theorem iblocks_inGroup_ok (p b : Bs) (v u : Value) (q : Bs) (G bobs : List Bs) (hG : Rise G ∧ G.length ≤ 1000) (hl : bobs.length ≤ 1048576) (w : World) (h : Sq fS 1 w v G) (h' : Sq fS 1 w u bobs) : Fn 79 [.agg ⟨fG p b v q⟩, u] w (fun r _ => r = .bool (decide (InG G bobs))) := by
  (refine callsV_of mix Try.func79 c_iblocks_inGroup ?_; simp only [↓vsd, vsn, gW, qd, qv, ev, pick, argE, zipE, ne_eq, eq_self, forall_const, implies_true, if_true, if_false, reduceIte, reduceCtorEq, Nat.reduceEqDiff, Nat.reduceAdd, Nat.reduceLT, ↓us_iblocks_inGroup, r_iblocks_inGroup])
  refine m_al ?_
  rintro b1 w1 hb1 hblk1 hx1 hs1
  have h1 : Blk w1 b1 (fG p b v q) 89 := hblk1
  have hq1 := h'.ext hx1
  simp only [↓vsd, vsn, gW, qd, qv, ev, pick, argE, zipE, ne_eq, eq_self, forall_const, implies_true, if_true, if_false, reduceIte, reduceCtorEq, Nat.reduceEqDiff, Nat.reduceAdd, Nat.reduceLT, ↓us_iblocks_inGroup, r_iblocks_inGroup, hq1.facts]
  refine m_upto bobs.length (fun i vs w' => vs = [.int .i64 i] ∧ (∀ x ∈ bobs.take i, x ∈ G) ∧ Ext w1 w') ⟨rfl, by simp, Ext.refl _⟩ ?_
  rintro i vs w2 hi ⟨rfl, hin, hx2⟩
  have hq2 := hq1.ext hx2
  have h2 := h1.ext hx2
  have hx02 := hx1.trans hx2
  by_cases hlt : i < bobs.length
  · have hltI : (i : Int) < bobs.length := by omega
    have hltJ : ¬ (bobs.length : Int) ≤ i := by omega
    have a2 := hq2.at1 [] hlt
    simp only [↓vsd, vsn, gW, qd, qv, ev, pick, argE, zipE, ne_eq, eq_self, forall_const, implies_true, if_true, if_false, reduceIte, reduceCtorEq, Nat.reduceEqDiff, Nat.reduceAdd, Nat.reduceLT, ↓us_iblocks_inGroup, r_iblocks_inGroup, hltI, hltJ, hq2.facts, a2, h2.facts, fGg]
    refine ⟨by omega, m_call (ihas_ok v G _ (by omega) hG.1.sorted _ (by first | exact h.ext hx02 | exact h.ext (dr hx02))) ?_⟩
    rintro _ w3 hx3 rfl
    have hx3 : Ext w2 w3 := by first | exact hx3 | exact ud hx3 | exact ud (ud hx3)
    by_cases hm : bobs.getD i [] ∈ G
    · simp only [↓vsd, vsn, gW, qd, qv, ev, pick, argE, zipE, ne_eq, eq_self, forall_const, implies_true, if_true, if_false, reduceIte, reduceCtorEq, Nat.reduceEqDiff, Nat.reduceAdd, Nat.reduceLT, ↓us_iblocks_inGroup, r_iblocks_inGroup, hm]
      exact ⟨inR_i64 (by omega), UpTo.next hlt ⟨by simp, take_all hlt hin hm, hx2.trans hx3⟩⟩
    · have hno : ¬ InG G bobs := fun hh => hm (hh.1 _ (getD_mem [] hlt))
      simp only [↓vsd, vsn, gW, qd, qv, ev, pick, argE, zipE, ne_eq, eq_self, forall_const, implies_true, if_true, if_false, reduceIte, reduceCtorEq, Nat.reduceEqDiff, Nat.reduceAdd, Nat.reduceLT, ↓us_iblocks_inGroup, r_iblocks_inGroup, hm, hno]
      exact hx02.trans hx3
  · obtain rfl : i = bobs.length := by omega
    have hltI : ¬ (bobs.length : Int) < bobs.length := by omega
    rw [List.take_length] at hin
    simp only [↓vsd, vsn, gW, qd, qv, ev, pick, argE, zipE, ne_eq, eq_self, forall_const, implies_true, if_true, if_false, reduceIte, reduceCtorEq, Nat.reduceEqDiff, Nat.reduceAdd, Nat.reduceLT, ↓us_iblocks_inGroup, r_iblocks_inGroup, hltI]
    refine m_call (iincreasing_ok u bobs (by omega) _ hq2) ?_
    rintro _ w3 hx3 rfl
    have hx3 : Ext w2 w3 := by first | exact hx3 | exact ud hx3 | exact ud (ud hx3)
    simp only [↓vsd, vsn, gW, qd, qv, ev, pick, argE, zipE, ne_eq, eq_self, forall_const, implies_true, if_true, if_false, reduceIte, reduceCtorEq, Nat.reduceEqDiff, Nat.reduceAdd, Nat.reduceLT, ↓us_iblocks_inGroup, r_iblocks_inGroup]
    refine ⟨hx02.trans hx3, ?_⟩
    by_cases hR : Rise bobs
    · rw [decide_eq_true hR, decide_eq_true (show InG G bobs from ⟨hin, hR⟩)]
    · rw [decide_eq_false hR, decide_eq_false (fun hh : InG G bobs => hR hh.2)]
theorem iblocks_areBobs_ok (p b : Bs) (v u : Value) (q : Bs) (n k : Nat) (bobs : List Bs) (hq : IsRow q) (hql : q.length = n) (ho : IsOrd q k) (hb : RowsN n bobs) (hR : Rise bobs) (hl : bobs.length ≤ 1048576) (hv : v.oneCell' = true) (hvc : oneC v = True) (w : World) (h' : Sq fS 1 w u bobs) : Fn 80 [.agg ⟨fG p b v q⟩, u] w (fun r _ => r = .bool (decide (ClB q bobs))) := by
  have hiff := clb_iff hq hql ho hb
  (refine callsV_of mix Try.func80 c_iblocks_areBobs ?_; simp only [↓vsd, vsn, gW, qd, qv, ev, pick, argE, zipE, ne_eq, eq_self, forall_const, implies_true, if_true, if_false, reduceIte, reduceCtorEq, Nat.reduceEqDiff, Nat.reduceAdd, Nat.reduceLT, ↓us_iblocks_areBobs, r_iblocks_areBobs])
  refine m_al ?_
  rintro b1 w1 hb1 hblk1 hx1 hs1
  have h1 : Blk w1 b1 (fG p b v q) 89 := hblk1
  have hq1 := h'.ext hx1
  simp only [↓vsd, vsn, gW, qd, qv, ev, pick, argE, zipE, ne_eq, eq_self, forall_const, implies_true, if_true, if_false, reduceIte, reduceCtorEq, Nat.reduceEqDiff, Nat.reduceAdd, Nat.reduceLT, ↓us_iblocks_areBobs, r_iblocks_areBobs, hq1.facts]
  refine m_upto bobs.length (fun i vs w' => vs = [.int .i64 i] ∧ (∀ x ∈ bobs.take i, ∀ g ∈ srt (qsL q x k), g ∈ bobs) ∧ Ext w1 w') ⟨rfl, by simp, Ext.refl _⟩ ?_
  rintro i vs w2 hi ⟨rfl, hin, hx2⟩
  have hq2 := hq1.ext hx2
  have h2 := h1.ext hx2
  have hx02 := hx1.trans hx2
  by_cases hlt : i < bobs.length
  · have hltI : (i : Int) < bobs.length := by omega
    have hltJ : ¬ (bobs.length : Int) ≤ i := by omega
    have a2 := hq2.at1 [] hlt
    have hbi := hb _ (getD_mem [] hlt)
    have hmi := getD_mem [] hlt
    have htk := fun hp => take_all (p := fun x => ∀ g ∈ srt (qsL q x k), g ∈ bobs) hlt hin hp
    have hall : ClB q bobs → ∀ g ∈ srt (qsL q (bobs.getD i []) k), g ∈ bobs := fun hc => hiff.1 hc _ hmi
    generalize bobs.getD i [] = r at *
    simp only [↓vsd, vsn, gW, qd, qv, ev, pick, argE, zipE, ne_eq, eq_self, forall_const, implies_true, if_true, if_false, reduceIte, reduceCtorEq, Nat.reduceEqDiff, Nat.reduceAdd, Nat.reduceLT, ↓us_iblocks_areBobs, r_iblocks_areBobs, hltI, hltJ, hq2.facts, a2, h2.facts, fGg]
    refine ⟨by omega, m_call (iblocks_setOf_ok p b v q r k hq ho (by rw [hbi.2, hql]) hv _) ?_⟩
    rintro y w3 hx3 hoy
    have hx3 : Ext w2 w3 := by first | exact hx3 | exact ud hx3 | exact ud (ud hx3)
    have hk := ho.2.1
    have hzl : (srt (qsL q r k)).length ≤ 1000 := by rw [srt_len]; unfold qsL; simp; omega
    generalize srt (qsL q r k) = Z at *
    simp only [↓vsd, vsn, gW, qd, qv, ev, pick, argE, zipE, ne_eq, eq_self, forall_const, implies_true, if_true, if_false, reduceIte, reduceCtorEq, Nat.reduceEqDiff, Nat.reduceAdd, Nat.reduceLT, ↓us_iblocks_areBobs, r_iblocks_areBobs, hoy.sq.facts]
    refine m_upto Z.length (fun j vs w' => vs = [.int .i64 j] ∧ (∀ x ∈ Z.take j, x ∈ bobs) ∧ Ext w3 w') ⟨rfl, by simp, Ext.refl _⟩ ?_
    rintro j vs w4 hj ⟨rfl, hin4, hx4⟩
    have hq4 := hq2.ext (hx3.trans hx4)
    have hoy4 := hoy.sq.ext hx4
    have hx24 := hx3.trans hx4
    by_cases hltj : j < Z.length
    · have hjI : (j : Int) < Z.length := by omega
      have hjJ : ¬ (Z.length : Int) ≤ j := by omega
      have a4 := hoy4.at1 [] hltj
      simp only [↓vsd, vsn, gW, qd, qv, ev, pick, argE, zipE, ne_eq, eq_self, forall_const, implies_true, if_true, if_false, reduceIte, reduceCtorEq, Nat.reduceEqDiff, Nat.reduceAdd, Nat.reduceLT, ↓us_iblocks_areBobs, r_iblocks_areBobs, hjI, hjJ, hoy4.facts, a4]
      refine ⟨by omega, m_call (ihas_ok u bobs _ (by omega) hR.sorted _ (by first | exact hq4 | exact hq4.ext (dr (Ext.refl _)))) ?_⟩
      rintro _ w5 hx5 rfl
      have hx5 : Ext w4 w5 := by first | exact hx5 | exact ud hx5 | exact ud (ud hx5)
      by_cases hm : Z.getD j [] ∈ bobs
      · simp only [↓vsd, vsn, gW, qd, qv, ev, pick, argE, zipE, ne_eq, eq_self, forall_const, implies_true, if_true, if_false, reduceIte, reduceCtorEq, Nat.reduceEqDiff, Nat.reduceAdd, Nat.reduceLT, ↓us_iblocks_areBobs, r_iblocks_areBobs, hm]
        exact ⟨inR_i64 (by omega), UpTo.next hltj ⟨by simp, take_all hltj hin4 hm, hx4.trans hx5⟩⟩
      · have hno : ¬ ClB q bobs := fun hh => hm (hall hh _ (getD_mem [] hltj))
        simp only [↓vsd, vsn, gW, qd, qv, ev, pick, argE, zipE, ne_eq, eq_self, forall_const, implies_true, if_true, if_false, reduceIte, reduceCtorEq, Nat.reduceEqDiff, Nat.reduceAdd, Nat.reduceLT, ↓us_iblocks_areBobs, r_iblocks_areBobs, hm, hno]
        exact (hx02.trans hx24).trans hx5
    · obtain rfl : j = Z.length := by omega
      have hjI : ¬ (Z.length : Int) < Z.length := by omega
      rw [List.take_length] at hin4
      simp only [↓vsd, vsn, gW, qd, qv, ev, pick, argE, zipE, ne_eq, eq_self, forall_const, implies_true, if_true, if_false, reduceIte, reduceCtorEq, Nat.reduceEqDiff, Nat.reduceAdd, Nat.reduceLT, ↓us_iblocks_areBobs, r_iblocks_areBobs, hjI]
      exact ⟨inR_i64 (by omega), UpTo.next hlt ⟨by simp, htk hin4, hx2.trans hx24⟩⟩
  · obtain rfl : i = bobs.length := by omega
    have hltI : ¬ (bobs.length : Int) < bobs.length := by omega
    rw [List.take_length] at hin
    have hyes : ClB q bobs := hiff.2 hin
    simp only [↓vsd, vsn, gW, qd, qv, ev, pick, argE, zipE, ne_eq, eq_self, forall_const, implies_true, if_true, if_false, reduceIte, reduceCtorEq, Nat.reduceEqDiff, Nat.reduceAdd, Nat.reduceLT, ↓us_iblocks_areBobs, r_iblocks_areBobs, hltI, hyes]
    exact hx02
theorem sl17C_rows_ok (p b : Bs) (v u : Value) (q : Bs) (G bobs : List Bs) (hG : G.length ≤ 1000) (hl : bobs.length ≤ 1048576) (w : World) (h : Sq fS 1 w v G) (h' : Sq fS 1 w u bobs) : Fn 77 [.agg ⟨fH p b q v⟩, u] w (fun r _ => r = .bool (decide (InG G bobs))) := by
  (refine callsV_of mix Try.func77 c_sl17C_rows ?_; simp only [↓vsd, vsn, gW, qd, qv, ev, pick, argE, zipE, ne_eq, eq_self, forall_const, implies_true, if_true, if_false, reduceIte, reduceCtorEq, Nat.reduceEqDiff, Nat.reduceAdd, Nat.reduceLT, ↓us_sl17C_rows, r_sl17C_rows])
  refine m_al ?_
  rintro b1 w1 hb1 hblk1 hx1 hs1
  have h1 : Blk w1 b1 (fH p b q v) 85 := hblk1
  have hq1 := h'.ext hx1
  simp only [↓vsd, vsn, gW, qd, qv, ev, pick, argE, zipE, ne_eq, eq_self, forall_const, implies_true, if_true, if_false, reduceIte, reduceCtorEq, Nat.reduceEqDiff, Nat.reduceAdd, Nat.reduceLT, ↓us_sl17C_rows, r_sl17C_rows, hq1.facts]
  refine m_upto bobs.length (fun i vs w' => vs = [.int .i64 i] ∧ (∀ x ∈ bobs.take i, x ∈ G) ∧ (∀ k, k + 1 < bobs.length → k + 1 < i + 0 → bobs.getD k [] < bobs.getD (k + 1) []) ∧ Ext w1 w') ⟨rfl, by simp, fun k h1 h2 => by omega, Ext.refl _⟩ ?_
  rintro i vs w2 hi ⟨rfl, hin, hup, hx2⟩
  have hq2 := hq1.ext hx2
  have h2 := h1.ext hx2
  have hx02 := hx1.trans hx2
  by_cases hlt : i < bobs.length
  · have hltI : (i : Int) < bobs.length := by omega
    have hltJ : ¬ (bobs.length : Int) ≤ i := by omega
    have a2 := hq2.at1 [] hlt
    simp only [↓vsd, vsn, gW, qd, qv, ev, pick, argE, zipE, ne_eq, eq_self, forall_const, implies_true, if_true, if_false, reduceIte, reduceCtorEq, Nat.reduceEqDiff, Nat.reduceAdd, Nat.reduceLT, ↓us_sl17C_rows, r_sl17C_rows, hltI, hltJ, hq2.facts, a2, h2.facts, fHg]
    refine ⟨by omega, m_call (sl1HasS_ok v G _ (by omega) _ (by first | exact h.ext hx02 | exact h.ext (dr hx02))) ?_⟩
    rintro _ w3 hx3 rfl
    have hx3 : Ext w2 w3 := by first | exact hx3 | exact ud hx3 | exact ud (ud hx3)
    have hq3 := hq2.ext hx3
    have hx03 := hx02.trans hx3
    by_cases hm : bobs.getD i [] ∈ G
    · by_cases hi0 : 0 < i
      · have hiI : 0 < (i : Int) := by omega
        have eI : (i : Int) - 1 = ((i - 1 : Nat) : Int) := by omega
        have a3 := hq3.at1 [] (show i - 1 < bobs.length by omega)
        have a4 := hq3.at1 [] hlt
        simp only [↓vsd, vsn, gW, qd, qv, ev, pick, argE, zipE, ne_eq, eq_self, forall_const, implies_true, if_true, if_false, reduceIte, reduceCtorEq, Nat.reduceEqDiff, Nat.reduceAdd, Nat.reduceLT, ↓us_sl17C_rows, r_sl17C_rows, hm, hiI, eI, hq3.facts, a3, a4]
        refine ⟨inR_i64 (by omega), by omega, fun hb => ⟨hx03, ?_⟩, fun hb => ⟨inR_i64 (by omega), UpTo.next hlt ⟨by simp, take_all hlt hin hm, fun k h1 h2 => ?_, hx2.trans hx3⟩⟩⟩
        · refine (decide_eq_false fun hh => ?_).symm
          have := rise_get hh.2 (i - 1) i (by omega) hlt
          rw [less_lt] at hb
          exact absurd this (by simpa using hb)
        · by_cases hk : k + 1 < i
          · exact hup k h1 (by omega)
          · obtain rfl : i = k + 1 := by omega
            rw [less_lt] at hb
            simpa using hb
      · have hiI : ¬ 0 < (i : Int) := by omega
        simp only [↓vsd, vsn, gW, qd, qv, ev, pick, argE, zipE, ne_eq, eq_self, forall_const, implies_true, if_true, if_false, reduceIte, reduceCtorEq, Nat.reduceEqDiff, Nat.reduceAdd, Nat.reduceLT, ↓us_sl17C_rows, r_sl17C_rows, hm, hiI]
        exact ⟨inR_i64 (by omega), UpTo.next hlt ⟨by simp, take_all hlt hin hm, fun k h1 h2 => by omega, hx2.trans hx3⟩⟩
    · have hno : ¬ InG G bobs := fun hh => hm (hh.1 _ (getD_mem [] hlt))
      simp only [↓vsd, vsn, gW, qd, qv, ev, pick, argE, zipE, ne_eq, eq_self, forall_const, implies_true, if_true, if_false, reduceIte, reduceCtorEq, Nat.reduceEqDiff, Nat.reduceAdd, Nat.reduceLT, ↓us_sl17C_rows, r_sl17C_rows, hm, hno]
      exact hx03
  · obtain rfl : i = bobs.length := by omega
    have hltI : ¬ (bobs.length : Int) < bobs.length := by omega
    rw [List.take_length] at hin
    have hyes : InG G bobs := ⟨hin, rise_next fun k hk => hup k hk (by omega)⟩
    simp only [↓vsd, vsn, gW, qd, qv, ev, pick, argE, zipE, ne_eq, eq_self, forall_const, implies_true, if_true, if_false, reduceIte, reduceCtorEq, Nat.reduceEqDiff, Nat.reduceAdd, Nat.reduceLT, ↓us_sl17C_rows, r_sl17C_rows, hltI, hyes]
    exact hx02
theorem sl17C_good_ok (p b : Bs) (v u : Value) (q : Bs) (n : Nat) (bobs : List Bs) (hq : IsRow q) (hql : q.length = n) (hb : RowsN n bobs) (hl : bobs.length ≤ 1048576) (w : World) (h' : Sq fS 1 w u bobs) : Fn 78 [.agg ⟨fH p b q v⟩, u] w (fun r _ => r = .bool (decide (ClB q bobs))) := by
  (refine callsV_of mix Try.func78 c_sl17C_good ?_; simp only [↓vsd, vsn, gW, qd, qv, ev, pick, argE, zipE, ne_eq, eq_self, forall_const, implies_true, if_true, if_false, reduceIte, reduceCtorEq, Nat.reduceEqDiff, Nat.reduceAdd, Nat.reduceLT, ↓us_sl17C_good, r_sl17C_good])
  refine m_al ?_
  rintro b1 w1 hb1 hblk1 hx1 hs1
  have h1 : Blk w1 b1 (fH p b q v) 85 := hblk1
  have hq1 := h'.ext hx1
  simp only [↓vsd, vsn, gW, qd, qv, ev, pick, argE, zipE, ne_eq, eq_self, forall_const, implies_true, if_true, if_false, reduceIte, reduceCtorEq, Nat.reduceEqDiff, Nat.reduceAdd, Nat.reduceLT, ↓us_sl17C_good, r_sl17C_good, hq1.facts]
  refine m_upto bobs.length (fun i vs w' => vs = [.int .i64 i] ∧ (∀ x ∈ bobs.take i, timesL x q ∈ bobs) ∧ Ext w1 w') ⟨rfl, by simp, Ext.refl _⟩ ?_
  rintro i vs w2 hi ⟨rfl, hin, hx2⟩
  have hq2 := hq1.ext hx2
  have h2 := h1.ext hx2
  have hx02 := hx1.trans hx2
  by_cases hlt : i < bobs.length
  · have hltI : (i : Int) < bobs.length := by omega
    have hltJ : ¬ (bobs.length : Int) ≤ i := by omega
    have a2 := hq2.at1 [] hlt
    have hbi := hb _ (getD_mem [] hlt)
    simp only [↓vsd, vsn, gW, qd, qv, ev, pick, argE, zipE, ne_eq, eq_self, forall_const, implies_true, if_true, if_false, reduceIte, reduceCtorEq, Nat.reduceEqDiff, Nat.reduceAdd, Nat.reduceLT, ↓us_sl17C_good, r_sl17C_good, hltI, hltJ, hq2.facts, a2, h2.facts, fHg]
    refine ⟨by omega, m_call (sl1Times_ok _ q hq (by rw [hbi.2, hql]) _) ?_⟩
    rintro _ w3 hx3 rfl
    have hx3 : Ext w2 w3 := by first | exact hx3 | exact ud hx3 | exact ud (ud hx3)
    have hq3 := hq2.ext hx3
    simp only [↓vsd, vsn, gW, qd, qv, ev, pick, argE, zipE, ne_eq, eq_self, forall_const, implies_true, if_true, if_false, reduceIte, reduceCtorEq, Nat.reduceEqDiff, Nat.reduceAdd, Nat.reduceLT, ↓us_sl17C_good, r_sl17C_good]
    refine m_call (sl1HasS_ok u bobs _ (by omega) _ (by first | exact hq3 | exact hq3.ext (dr (Ext.refl _)))) ?_
    rintro _ w4 hx4 rfl
    have hx4 : Ext w3 w4 := by first | exact hx4 | exact ud hx4 | exact ud (ud hx4)
    have hx24 := hx3.trans hx4
    by_cases hm : timesL (bobs.getD i []) q ∈ bobs
    · simp only [↓vsd, vsn, gW, qd, qv, ev, pick, argE, zipE, ne_eq, eq_self, forall_const, implies_true, if_true, if_false, reduceIte, reduceCtorEq, Nat.reduceEqDiff, Nat.reduceAdd, Nat.reduceLT, ↓us_sl17C_good, r_sl17C_good, hm]
      exact ⟨inR_i64 (by omega), UpTo.next hlt ⟨by simp, take_all hlt hin hm, hx2.trans hx24⟩⟩
    · have hno : ¬ ClB q bobs := fun hh => hm (hh _ (getD_mem [] hlt))
      simp only [↓vsd, vsn, gW, qd, qv, ev, pick, argE, zipE, ne_eq, eq_self, forall_const, implies_true, if_true, if_false, reduceIte, reduceCtorEq, Nat.reduceEqDiff, Nat.reduceAdd, Nat.reduceLT, ↓us_sl17C_good, r_sl17C_good, hm, hno]
      exact hx02.trans hx24
  · obtain rfl : i = bobs.length := by omega
    have hltI : ¬ (bobs.length : Int) < bobs.length := by omega
    rw [List.take_length] at hin
    have hyes : ClB q bobs := hin
    simp only [↓vsd, vsn, gW, qd, qv, ev, pick, argE, zipE, ne_eq, eq_self, forall_const, implies_true, if_true, if_false, reduceIte, reduceCtorEq, Nat.reduceEqDiff, Nat.reduceAdd, Nat.reduceLT, ↓us_sl17C_good, r_sl17C_good, hltI, hyes]
    exact hx02
/-- What GoodBobs answers. -/
def gbV (nm : Bs) (st : Int) (cs : List Bs) (b s : Bs) (bobs : List Bs) : Value := if BkOk nm st cs b s ∧ InG (grpL st.toNat cs b s) bobs then .tuple ⟨[.bool (decide (ClB (qR st.toNat cs b s) bobs)), .bool true]⟩ else .tuple ⟨[.bool false, .bool false]⟩
theorem grp_rows {nm : Bs} {n : Nat} {cs : List Bs} {b s : Bs} (hk : BkOk nm n cs b s) : RowsN n (grpL n cs b s) ∧ IsRow (qR n cs b s) ∧ (qR n cs b s).length = n ∧ Rise (grpL n cs b s) ∧ (grpL n cs b s).length ≤ 1000 := by
  have h8 : 3 ≤ n ∧ n ≤ 8 := by have := hk.1.1.2.1; omega
  obtain ⟨hp, hq⟩ := hP_row hk.1
  refine ⟨fun x hx => ?_, timesL_row hp.1 (turnL_row hq.1) (by rw [turnL_len, hp.2, hq.2]), by unfold qR; rw [timesL_len, turnL_len, hq.2], genV_rise _ _ _, by have := genV_len [hP n cs b s, hB n cs b s] (roundsL n) 130; unfold grpL; omega⟩
  unfold grpL genV at hx
  split at hx
  · exact gens_row h8 (hP_gens hk.1) 130 x (srt_mem.1 hx)
  · cases hx
theorem iGoodBobs_ok (nm : List UInt8) (st : Int) (v u : Value) (cs : List (List UInt8)) (b s : List UInt8) (bobs : List Bs) (hnm : nm.length ≤ 1048576) (hs : ∀ c ∈ cs, c.length ≤ 1048576) (hl : cs.length ≤ 1000000000) (hb : b.length ≤ 1048576 ∧ s.length ≤ 1048576) (hbl : bobs.length ≤ 1048576) (w : World) (h : Sq fS 1 w v cs) (h' : Sq fS 1 w u bobs) : Fn 35 [mV nm st v, kV b s, u] w (fun r _ => r = gbV nm st cs b s bobs) := by
  (refine callsV_of mix Try.func35 c_iGoodBobs ?_; simp only [↓vsd, vsn, gW, qd, qv, ev, pick, argE, zipE, ne_eq, eq_self, forall_const, implies_true, if_true, if_false, reduceIte, reduceCtorEq, Nat.reduceEqDiff, Nat.reduceAdd, Nat.reduceLT, ↓us_iGoodBobs, r_iGoodBobs])
  refine m_al ?_
  rintro b1 w1 hb1 hblk1 hx1 hs1
  have h1 : Blk w1 b1 (fM nm st v) 31 := hblk1
  simp only [↓vsd, vsn, gW, qd, qv, ev, pick, argE, zipE, ne_eq, eq_self, forall_const, implies_true, if_true, if_false, reduceIte, reduceCtorEq, Nat.reduceEqDiff, Nat.reduceAdd, Nat.reduceLT, ↓us_iGoodBobs, r_iGoodBobs, h1.facts, fMg]
  refine m_al ?_
  rintro b2 w2 hb2 hblk2 hx2 hs2
  have h2 : Blk w2 b2 (fQ b s) 33 := hblk2
  have h12 := h1.ext hx2
  have hx12 := hx1.trans hx2
  simp only [↓vsd, vsn, gW, qd, qv, ev, pick, argE, zipE, ne_eq, eq_self, forall_const, implies_true, if_true, if_false, reduceIte, reduceCtorEq, Nat.reduceEqDiff, Nat.reduceAdd, Nat.reduceLT, ↓us_iGoodBobs, r_iGoodBobs, h12.facts, h2.facts, fMg, fQg]
  refine m_call (inewBlocks_ok nm st v cs b s hnm hs hl hb _ (h.ext hx12)) ?_
  rintro _ w3 hx3 ⟨p, q, x, r, L, rfl, ho3, hB⟩
  simp only [↓vsd, vsn, gW, qd, qv, ev, pick, argE, zipE, ne_eq, eq_self, forall_const, implies_true, if_true, if_false, reduceIte, reduceCtorEq, Nat.reduceEqDiff, Nat.reduceAdd, Nat.reduceLT, ↓us_iGoodBobs, r_iGoodBobs]
  refine m_al ?_
  rintro b4 w4 hb4 hblk4 hx4 hs4
  have h4 : Blk w4 b4 (fG [] [] (.slice none 0 0) []) 89 := hblk4
  have hx14 := (hx12.trans hx3).trans hx4
  simp only [↓vsd, vsn, gW, qd, qv, ev, pick, argE, zipE, ne_eq, eq_self, forall_const, implies_true, if_true, if_false, reduceIte, reduceCtorEq, Nat.reduceEqDiff, Nat.reduceAdd, Nat.reduceLT, ↓us_iGoodBobs, r_iGoodBobs]
  refine m_st h4 rfl (Nat.le_refl 4) (fG_one _ _ x _ ho3.sq.one') ?_
  rintro w5 hb5 hu5
  have h5 : Blk w5 b4 (fG p q x r) 89 := hb5
  have hx5 : Ext w w5 := hu5.below hx14 (by have := (hx12.trans hx3).size; omega)
  have ho5 := (ho3.ext hx4).upd hu5 (ho3.away (by omega))
  by_cases hok : BkOk nm st cs b s
  · obtain ⟨n, rfl⟩ : ∃ n : Nat, st = n := ⟨st.toNat, by have := hok.1.1.2.1; omega⟩
    obtain ⟨e1, e2, e3, e4⟩ := hB hok
    rw [Int.toNat_natCast] at e1 e2 e3 e4
    obtain ⟨g1, g2, g3, g4, g5⟩ := grp_rows hok
    rw [← e4] at g1 g4 g5
    rw [← e3] at g2 g3
    have hone := ho3.sq.one'
    have honeC := ho3.sq.oneC
    simp only [↓vsd, vsn, gW, qd, qv, ev, pick, argE, zipE, ne_eq, eq_self, forall_const, implies_true, if_true, if_false, reduceIte, reduceCtorEq, Nat.reduceEqDiff, Nat.reduceAdd, Nat.reduceLT, ↓us_iGoodBobs, r_iGoodBobs, h5.facts, fGg, hok]
    refine m_call (iblocks_inGroup_ok p q x u r L bobs ⟨g4, g5⟩ hbl _ (by first | exact ho5.sq | exact ho5.sq.ext (dr (Ext.refl _))) (by first | exact h'.ext hx5 | exact h'.ext (dr hx5))) ?_
    rintro _ w6 hx6 rfl
    have hx6 : Ext w5 w6 := by first | exact hx6 | exact ud hx6 | exact ud (ud hx6)
    have h6 := h5.ext hx6
    have hx06 := hx5.trans hx6
    by_cases hin : InG L bobs
    · have hv : gbV nm n cs b s bobs = .tuple ⟨[.bool (decide (ClB r bobs)), .bool true]⟩ := by unfold gbV; rw [Int.toNat_natCast, ← e4, ← e3, if_pos ⟨hok, hin⟩]
      obtain ⟨k, hk⟩ := ord_exists g2
      have hd := decide_eq_true hin
      simp only [↓vsd, vsn, gW, qd, qv, ev, pick, argE, zipE, ne_eq, eq_self, forall_const, implies_true, if_true, if_false, reduceIte, reduceCtorEq, Nat.reduceEqDiff, Nat.reduceAdd, Nat.reduceLT, ↓us_iGoodBobs, r_iGoodBobs, hd, h6.facts, fGg]
      refine m_call (iblocks_areBobs_ok p q x u r n k bobs g2 g3 hk (fun y hy => g1 y (hin.1 y hy)) hin.2 hbl hone honeC _ (by first | exact h'.ext hx06 | exact h'.ext (dr hx06))) ?_
      rintro _ w7 hx7 rfl
      have hx7 : Ext w6 w7 := by first | exact hx7 | exact ud hx7 | exact ud (ud hx7)
      simp only [↓vsd, vsn, gW, qd, qv, ev, pick, argE, zipE, ne_eq, eq_self, forall_const, implies_true, if_true, if_false, reduceIte, reduceCtorEq, Nat.reduceEqDiff, Nat.reduceAdd, Nat.reduceLT, ↓us_iGoodBobs, r_iGoodBobs]
      exact ⟨hx06.trans hx7, hv.symm⟩
    · have hv : gbV nm n cs b s bobs = .tuple ⟨[.bool false, .bool false]⟩ := by unfold gbV; rw [Int.toNat_natCast, ← e4, if_neg (fun hh => hin hh.2)]
      have hd := decide_eq_false hin
      simp only [↓vsd, vsn, gW, qd, qv, ev, pick, argE, zipE, ne_eq, eq_self, forall_const, implies_true, if_true, if_false, reduceIte, reduceCtorEq, Nat.reduceEqDiff, Nat.reduceAdd, Nat.reduceLT, ↓us_iGoodBobs, r_iGoodBobs, hd]
      exact ⟨hx06, hv.symm⟩
  · have hv : gbV nm st cs b s bobs = .tuple ⟨[.bool false, .bool false]⟩ := by unfold gbV; rw [if_neg (fun hh => hok hh.1)]
    simp only [↓vsd, vsn, gW, qd, qv, ev, pick, argE, zipE, ne_eq, eq_self, forall_const, implies_true, if_true, if_false, reduceIte, reduceCtorEq, Nat.reduceEqDiff, Nat.reduceAdd, Nat.reduceLT, ↓us_iGoodBobs, r_iGoodBobs, h5.facts, fGg, hok]
    exact ⟨hx5, hv.symm⟩
theorem sGoodBobs_ok (nm : List UInt8) (st : Int) (v u : Value) (cs : List (List UInt8)) (b s : List UInt8) (bobs : List Bs) (hnm : nm.length ≤ 1048576) (hs : ∀ c ∈ cs, c.length ≤ 1048576) (hl : cs.length ≤ 1000000000) (hb : b.length ≤ 1048576 ∧ s.length ≤ 1048576) (hbl : bobs.length ≤ 1048576) (w : World) (h : Sq fS 1 w v cs) (h' : Sq fS 1 w u bobs) : Fn 33 [mV nm st v, kV b s, u] w (fun r _ => r = gbV nm st cs b s bobs) := by
  (refine callsV_of mix Try.func33 c_sGoodBobs ?_; simp only [↓vsd, vsn, gW, qd, qv, ev, pick, argE, zipE, ne_eq, eq_self, forall_const, implies_true, if_true, if_false, reduceIte, reduceCtorEq, Nat.reduceEqDiff, Nat.reduceAdd, Nat.reduceLT, ↓us_sGoodBobs, r_sGoodBobs])
  refine m_al ?_
  rintro b1 w1 hb1 hblk1 hx1 hs1
  have h1 : Blk w1 b1 (fM nm st v) 31 := hblk1
  simp only [↓vsd, vsn, gW, qd, qv, ev, pick, argE, zipE, ne_eq, eq_self, forall_const, implies_true, if_true, if_false, reduceIte, reduceCtorEq, Nat.reduceEqDiff, Nat.reduceAdd, Nat.reduceLT, ↓us_sGoodBobs, r_sGoodBobs, h1.facts, fMg]
  refine m_al ?_
  rintro b2 w2 hb2 hblk2 hx2 hs2
  have h2 : Blk w2 b2 (fQ b s) 33 := hblk2
  have h12 := h1.ext hx2
  have hx12 := hx1.trans hx2
  simp only [↓vsd, vsn, gW, qd, qv, ev, pick, argE, zipE, ne_eq, eq_self, forall_const, implies_true, if_true, if_false, reduceIte, reduceCtorEq, Nat.reduceEqDiff, Nat.reduceAdd, Nat.reduceLT, ↓us_sGoodBobs, r_sGoodBobs, h12.facts, h2.facts, fMg, fQg]
  refine m_call (sl17Of_ok nm st v cs b s hnm hs hl hb _ (h.ext hx12)) ?_
  rintro _ w3 hx3 ⟨p, q, x, r, L, rfl, ho3, hB⟩
  simp only [↓vsd, vsn, gW, qd, qv, ev, pick, argE, zipE, ne_eq, eq_self, forall_const, implies_true, if_true, if_false, reduceIte, reduceCtorEq, Nat.reduceEqDiff, Nat.reduceAdd, Nat.reduceLT, ↓us_sGoodBobs, r_sGoodBobs]
  refine m_al ?_
  rintro b4 w4 hb4 hblk4 hx4 hs4
  have h4 : Blk w4 b4 (fH [] [] [] (.slice none 0 0)) 85 := hblk4
  have hx14 := (hx12.trans hx3).trans hx4
  simp only [↓vsd, vsn, gW, qd, qv, ev, pick, argE, zipE, ne_eq, eq_self, forall_const, implies_true, if_true, if_false, reduceIte, reduceCtorEq, Nat.reduceEqDiff, Nat.reduceAdd, Nat.reduceLT, ↓us_sGoodBobs, r_sGoodBobs]
  refine m_st h4 rfl (Nat.le_refl 4) (fH_one _ _ _ x ho3.sq.one') ?_
  rintro w5 hb5 hu5
  have h5 : Blk w5 b4 (fH p q r x) 85 := hb5
  have hx5 : Ext w w5 := hu5.below hx14 (by have := (hx12.trans hx3).size; omega)
  have ho5 := (ho3.ext hx4).upd hu5 (ho3.away (by omega))
  by_cases hok : BkOk nm st cs b s
  · obtain ⟨n, rfl⟩ : ∃ n : Nat, st = n := ⟨st.toNat, by have := hok.1.1.2.1; omega⟩
    obtain ⟨e1, e2, e3, e4⟩ := hB hok
    rw [Int.toNat_natCast] at e1 e2 e3 e4
    obtain ⟨g1, g2, g3, g4, g5⟩ := grp_rows hok
    rw [← e4] at g1 g4 g5
    rw [← e3] at g2 g3
    have hone := ho3.sq.one'
    simp only [↓vsd, vsn, gW, qd, qv, ev, pick, argE, zipE, ne_eq, eq_self, forall_const, implies_true, if_true, if_false, reduceIte, reduceCtorEq, Nat.reduceEqDiff, Nat.reduceAdd, Nat.reduceLT, ↓us_sGoodBobs, r_sGoodBobs, h5.facts, fHg, hok]
    refine m_call (sl17C_rows_ok p q x u r L bobs g5 hbl _ (by first | exact ho5.sq | exact ho5.sq.ext (dr (Ext.refl _))) (by first | exact h'.ext hx5 | exact h'.ext (dr hx5))) ?_
    rintro _ w6 hx6 rfl
    have hx6 : Ext w5 w6 := by first | exact hx6 | exact ud hx6 | exact ud (ud hx6)
    have h6 := h5.ext hx6
    have hx06 := hx5.trans hx6
    by_cases hin : InG L bobs
    · have hv : gbV nm n cs b s bobs = .tuple ⟨[.bool (decide (ClB r bobs)), .bool true]⟩ := by unfold gbV; rw [Int.toNat_natCast, ← e4, ← e3, if_pos ⟨hok, hin⟩]
      have hd := decide_eq_true hin
      simp only [↓vsd, vsn, gW, qd, qv, ev, pick, argE, zipE, ne_eq, eq_self, forall_const, implies_true, if_true, if_false, reduceIte, reduceCtorEq, Nat.reduceEqDiff, Nat.reduceAdd, Nat.reduceLT, ↓us_sGoodBobs, r_sGoodBobs, hd, h6.facts, fHg]
      refine m_call (sl17C_good_ok p q x u r n bobs g2 g3 (fun y hy => g1 y (hin.1 y hy)) hbl _ (by first | exact h'.ext hx06 | exact h'.ext (dr hx06))) ?_
      rintro _ w7 hx7 rfl
      have hx7 : Ext w6 w7 := by first | exact hx7 | exact ud hx7 | exact ud (ud hx7)
      simp only [↓vsd, vsn, gW, qd, qv, ev, pick, argE, zipE, ne_eq, eq_self, forall_const, implies_true, if_true, if_false, reduceIte, reduceCtorEq, Nat.reduceEqDiff, Nat.reduceAdd, Nat.reduceLT, ↓us_sGoodBobs, r_sGoodBobs]
      exact ⟨hx06.trans hx7, hv.symm⟩
    · have hv : gbV nm n cs b s bobs = .tuple ⟨[.bool false, .bool false]⟩ := by unfold gbV; rw [Int.toNat_natCast, ← e4, if_neg (fun hh => hin hh.2)]
      have hd := decide_eq_false hin
      simp only [↓vsd, vsn, gW, qd, qv, ev, pick, argE, zipE, ne_eq, eq_self, forall_const, implies_true, if_true, if_false, reduceIte, reduceCtorEq, Nat.reduceEqDiff, Nat.reduceAdd, Nat.reduceLT, ↓us_sGoodBobs, r_sGoodBobs, hd]
      exact ⟨hx06, hv.symm⟩
  · have hv : gbV nm st cs b s bobs = .tuple ⟨[.bool false, .bool false]⟩ := by unfold gbV; rw [if_neg (fun hh => hok hh.1)]
    simp only [↓vsd, vsn, gW, qd, qv, ev, pick, argE, zipE, ne_eq, eq_self, forall_const, implies_true, if_true, if_false, reduceIte, reduceCtorEq, Nat.reduceEqDiff, Nat.reduceAdd, Nat.reduceLT, ↓us_sGoodBobs, r_sGoodBobs, h5.facts, fHg, hok]
    exact ⟨hx5, hv.symm⟩
theorem gbV_pair (nm : Bs) (st : Int) (cs : List Bs) (b s : Bs) (bobs : List Bs) : ∃ g ok, gbV nm st cs b s bobs = .tuple ⟨[.bool g, .bool ok]⟩ := by
  unfold gbV
  split <;> exact ⟨_, _, rfl⟩
theorem lFnExactGoodBobs_ok (nm : List UInt8) (st : Int) (v u : Value) (cs : List (List UInt8)) (b s : List UInt8) (bobs : List Bs) (hnm : nm.length ≤ 9223372036854775807) (hl : cs.length ≤ 9223372036854775807) (hs : ∀ x ∈ cs, x.length ≤ 9223372036854775807) (hb : b.length ≤ 9223372036854775807 ∧ s.length ≤ 9223372036854775807) (hbl : bobs.length ≤ 9223372036854775807) (hbs : ∀ x ∈ bobs, x.length ≤ 9223372036854775807) (w : World) (h : Sq fS 1 w v cs) (h' : Sq fS 1 w u bobs) : Fn 7 [mV nm st v, kV b s, u] w (fun r _ => r = .bool true) := by
  (refine callsV_of mix Try.func7 c_lFnExactGoodBobs ?_; simp only [↓vsd, vsn, gW, qd, qv, ev, pick, argE, zipE, ne_eq, eq_self, forall_const, implies_true, if_true, if_false, reduceIte, reduceCtorEq, Nat.reduceEqDiff, Nat.reduceAdd, Nat.reduceLT, ↓us_lFnExactGoodBobs, r_lFnExactGoodBobs])
  refine m_al ?_
  rintro b1 w1 hb1 hblk1 hx1 hs1
  have h1 : Blk w1 b1 (fM nm st v) 24 := hblk1
  simp only [↓vsd, vsn, gW, qd, qv, ev, pick, argE, zipE, ne_eq, eq_self, forall_const, implies_true, if_true, if_false, reduceIte, reduceCtorEq, Nat.reduceEqDiff, Nat.reduceAdd, Nat.reduceLT, ↓us_lFnExactGoodBobs, r_lFnExactGoodBobs, h1.facts, fMg]
  refine m_al ?_
  rintro b2 w2 hb2 hblk2 hx2 hs2
  have h2 : Blk w2 b2 (fQ b s) 26 := hblk2
  have h12 := h1.ext hx2
  have hx12 := hx1.trans hx2
  simp only [↓vsd, vsn, gW, qd, qv, ev, pick, argE, zipE, ne_eq, eq_self, forall_const, implies_true, if_true, if_false, reduceIte, reduceCtorEq, Nat.reduceEqDiff, Nat.reduceAdd, Nat.reduceLT, ↓us_lFnExactGoodBobs, r_lFnExactGoodBobs, h12.facts, h2.facts, fMg, fQg]
  refine m_call (lszMethod_ok nm st v cs 1048576 (by decide) hnm hl hs _ (h.ext hx12)) ?_
  rintro _ w3 hx3 ⟨m, rfl, hm1, hm⟩
  have hx13 := hx12.trans hx3
  have h13 := h12.ext hx3
  have h23 := h2.ext hx3
  simp only [↓vsd, vsn, gW, qd, qv, ev, pick, argE, zipE, ne_eq, eq_self, forall_const, implies_true, if_true, if_false, reduceIte, reduceCtorEq, Nat.reduceEqDiff, Nat.reduceAdd, Nat.reduceLT, ↓us_lFnExactGoodBobs, r_lFnExactGoodBobs, h13.facts, h23.facts, fMg, fQg]
  refine ⟨fun _ => hx13, fun h0 => ?_⟩
  obtain ⟨hnm, hl, hs⟩ := hm h0
  refine m_call (lszCalls_ok b s m ⟨hm1, h0⟩ hb _) ?_
  rintro _ w4 hx4 ⟨m2, rfl, hm21, hm2⟩
  have hx14 := hx13.trans hx4
  have h14 := h13.ext hx4
  have h24 := h23.ext hx4
  simp only [↓vsd, vsn, gW, qd, qv, ev, pick, argE, zipE, ne_eq, eq_self, forall_const, implies_true, if_true, if_false, reduceIte, reduceCtorEq, Nat.reduceEqDiff, Nat.reduceAdd, Nat.reduceLT, ↓us_lFnExactGoodBobs, r_lFnExactGoodBobs, h14.facts, h24.facts, fMg, fQg]
  refine ⟨fun _ => hx14, fun h02 => ?_⟩
  have hb := hm2 h02
  refine m_call (lszStringS_ok u bobs m2 ⟨h02, by omega⟩ hbl hbs _ (by first | exact h'.ext hx14 | exact h'.ext (dr hx14))) ?_
  rintro _ w44 hx44 ⟨m3, rfl, hm31, hm3⟩
  have hx44 : Ext w4 w44 := by first | exact hx44 | exact ud hx44 | exact ud (ud hx44)
  have hx14 := hx14.trans hx44
  have h14 := h14.ext hx44
  have h24 := h24.ext hx44
  simp only [↓vsd, vsn, gW, qd, qv, ev, pick, argE, zipE, ne_eq, eq_self, forall_const, implies_true, if_true, if_false, reduceIte, reduceCtorEq, Nat.reduceEqDiff, Nat.reduceAdd, Nat.reduceLT, ↓us_lFnExactGoodBobs, r_lFnExactGoodBobs, h14.facts, h24.facts, fMg, fQg]
  refine ⟨fun _ => hx14, fun h03 => ?_⟩
  obtain ⟨hbl, hbs⟩ := hm3 h03
  refine m_call (ltoMethod_ok nm st v cs hl _ (by first | exact h.ext hx14 | exact h.ext (dr hx14))) ?_
  rintro _ w5 hx5 ⟨x5, rfl, ho5⟩
  have hx5 : Ext w44 w5 := by first | exact hx5 | exact ud hx5 | exact ud (ud hx5)
  have h25 := h24.ext hx5
  have hx15 := hx14.trans hx5
  simp only [↓vsd, vsn, gW, qd, qv, ev, pick, argE, zipE, ne_eq, eq_self, forall_const, implies_true, if_true, if_false, reduceIte, reduceCtorEq, Nat.reduceEqDiff, Nat.reduceAdd, Nat.reduceLT, ↓us_lFnExactGoodBobs, r_lFnExactGoodBobs, h25.facts, fQg]
  refine m_call (ltoCalls_ok b s _) ?_
  rintro _ w6 hx6 rfl
  have hx6 : Ext w5 w6 := by first | exact hx6 | exact ud hx6 | exact ud (ud hx6)
  have hx16 := hx15.trans hx6
  simp only [↓vsd, vsn, gW, qd, qv, ev, pick, argE, zipE, ne_eq, eq_self, forall_const, implies_true, if_true, if_false, reduceIte, reduceCtorEq, Nat.reduceEqDiff, Nat.reduceAdd, Nat.reduceLT, ↓us_lFnExactGoodBobs, r_lFnExactGoodBobs]
  refine m_call (ltoStringS_ok u bobs hbl _ (by first | exact h'.ext hx16 | exact h'.ext (dr hx16))) ?_
  rintro y6 w66 hx66 hy6
  have hx66 : Ext w6 w66 := by first | exact hx66 | exact ud hx66 | exact ud (ud hx66)
  have hx16 := hx16.trans hx66
  simp only [↓vsd, vsn, gW, qd, qv, ev, pick, argE, zipE, ne_eq, eq_self, forall_const, implies_true, if_true, if_false, reduceIte, reduceCtorEq, Nat.reduceEqDiff, Nat.reduceAdd, Nat.reduceLT, ↓us_lFnExactGoodBobs, r_lFnExactGoodBobs]
  refine m_call (sGoodBobs_ok nm st x5 y6 cs b s bobs hnm hs (by omega) hb hbl _ ((ho5.ext hx6).ext hx66).sq hy6.sq) ?_
  rintro _ w7 hx7 rfl
  have hx7 : Ext w66 w7 := by first | exact hx7 | exact ud hx7 | exact ud (ud hx7)
  obtain ⟨g, ok, hR⟩ := gbV_pair nm st cs b s bobs
  rw [hR]
  have hx57 := ((hx5.trans hx6).trans hx66).trans hx7
  have hx17 := hx14.trans hx57
  have h17 := h14.ext hx57
  have h27 := h24.ext hx57
  simp only [↓vsd, vsn, gW, qd, qv, ev, pick, argE, zipE, ne_eq, eq_self, forall_const, implies_true, if_true, if_false, reduceIte, reduceCtorEq, Nat.reduceEqDiff, Nat.reduceAdd, Nat.reduceLT, ↓us_lFnExactGoodBobs, r_lFnExactGoodBobs, h17.facts, h27.facts, fMg, fQg]
  refine m_call (ltoMethod_ok nm st v cs hl _ (by first | exact h.ext hx17 | exact h.ext (dr hx17))) ?_
  rintro _ w8 hx8 ⟨x8, rfl, ho8⟩
  have hx8 : Ext w7 w8 := by first | exact hx8 | exact ud hx8 | exact ud (ud hx8)
  simp only [↓vsd, vsn, gW, qd, qv, ev, pick, argE, zipE, ne_eq, eq_self, forall_const, implies_true, if_true, if_false, reduceIte, reduceCtorEq, Nat.reduceEqDiff, Nat.reduceAdd, Nat.reduceLT, ↓us_lFnExactGoodBobs, r_lFnExactGoodBobs]
  have h18 := h17.ext hx8
  have h28 := h27.ext hx8
  have hx18 := hx17.trans hx8
  refine m_al ?_
  rintro b9 w9 hb9 hblk9 hx9 hs9
  have h19 := h18.ext hx9
  have h29 := h28.ext hx9
  simp only [↓vsd, vsn, gW, qd, qv, ev, pick, argE, zipE, ne_eq, eq_self, forall_const, implies_true, if_true, if_false, reduceIte, reduceCtorEq, Nat.reduceEqDiff, Nat.reduceAdd, Nat.reduceLT, ↓us_lFnExactGoodBobs, r_lFnExactGoodBobs, h19.facts, h29.facts, fMg, fQg]
  refine m_st hblk9 rfl (Nat.le_refl 3) (fM_one nm st x8 ho8.sq.one') ?_
  rintro w10 hblk10 hu10
  have hb10 : Blk w10 b9 (fM nm st x8) 31 := hblk10
  have hx19 := hx18.trans hx9
  have hx110 : Ext w w10 := hu10.below hx19 (by have := hx18.size; omega)
  have ho10 := (ho8.ext hx9).upd hu10 (ho8.away (by omega))
  have h110 := hu10.blk h19 (by have := h18.lt; omega)
  have h210 := hu10.blk h29 (by have := h28.lt; omega)
  simp only [↓vsd, vsn, gW, qd, qv, ev, pick, argE, zipE, ne_eq, eq_self, forall_const, implies_true, if_true, if_false, reduceIte, reduceCtorEq, Nat.reduceEqDiff, Nat.reduceAdd, Nat.reduceLT, ↓us_lFnExactGoodBobs, r_lFnExactGoodBobs, h110.facts, h210.facts, hb10.facts, fMg, fQg]
  refine m_call (ltoStringS_ok u bobs hbl _ (by first | exact h'.ext hx110 | exact h'.ext (dr hx110))) ?_
  rintro y10 w11 hx11 hk11
  have hx11 : Ext w10 w11 := by first | exact hx11 | exact ud hx11 | exact ud (ud hx11)
  have h111 := h110.ext hx11
  have h211 := h210.ext hx11
  have hb11 := hb10.ext hx11
  have hx111 := hx110.trans hx11
  simp only [↓vsd, vsn, gW, qd, qv, ev, pick, argE, zipE, ne_eq, eq_self, forall_const, implies_true, if_true, if_false, reduceIte, reduceCtorEq, Nat.reduceEqDiff, Nat.reduceAdd, Nat.reduceLT, ↓us_lFnExactGoodBobs, r_lFnExactGoodBobs, h111.facts, h211.facts, hb11.facts, fMg, fQg]
  refine m_call (ltoCalls_ok b s _) ?_
  rintro _ w12 hxL rfl
  have hxL : Ext w11 w12 := by first | exact hxL | exact ud hxL | exact ud (ud hxL)
  have h112 := h111.ext hxL
  have h212 := h211.ext hxL
  have hb12 := hb11.ext hxL
  have hx112 := hx111.trans hxL
  have ho12 := (ho10.ext hx11).ext hxL
  have hk12 := hk11.ext hxL
  simp only [↓vsd, vsn, gW, qd, qv, ev, pick, argE, zipE, ne_eq, eq_self, forall_const, implies_true, if_true, if_false, reduceIte, reduceCtorEq, Nat.reduceEqDiff, Nat.reduceAdd, Nat.reduceLT, ↓us_lFnExactGoodBobs, r_lFnExactGoodBobs, h112.facts, h212.facts, hb12.facts, fMg, fQg]
  refine m_call (iGoodBobs_ok nm st x8 y10 cs b s bobs hnm hs (by omega) hb hbl _ ho12.sq hk12.sq) ?_
  rintro _ w13 hxn rfl
  have hxn : Ext w12 w13 := by first | exact hxn | exact ud hxn | exact ud (ud hxn)
  rw [hR]
  have h113 := h112.ext hxn
  have hb13 := hb12.ext hxn
  have hx113 := hx112.trans hxn
  simp only [↓vsd, vsn, gW, qd, qv, ev, pick, argE, zipE, ne_eq, eq_self, forall_const, implies_true, if_true, if_false, reduceIte, reduceCtorEq, Nat.reduceEqDiff, Nat.reduceAdd, Nat.reduceLT, ↓us_lFnExactGoodBobs, r_lFnExactGoodBobs, h113.facts, hb13.facts, fMg]
  refine m_call (ltoMethod_ok nm st v cs hl _ (by first | exact h.ext hx113 | exact h.ext (dr hx113))) ?_
  rintro _ w15 hxo ⟨x15, rfl, ho15⟩
  have hxo : Ext w13 w15 := by first | exact hxo | exact ud hxo | exact ud (ud hxo)
  have hb15 := hb13.ext hxo
  have hx115 := hx113.trans hxo
  simp only [↓vsd, vsn, gW, qd, qv, ev, pick, argE, zipE, ne_eq, eq_self, forall_const, implies_true, if_true, if_false, reduceIte, reduceCtorEq, Nat.reduceEqDiff, Nat.reduceAdd, Nat.reduceLT, ↓us_lFnExactGoodBobs, r_lFnExactGoodBobs, hb15.facts, fMg]
  refine m_call (leqMethod_ok nm nm st st x8 x15 cs cs (by omega) _ ((ho12.ext hxn).ext hxo).sq ho15.sq) ?_
  rintro _ w16 hxp rfl
  have hxp : Ext w15 w16 := by first | exact hxp | exact ud hxp | exact ud (ud hxp)
  have hx116 := hx115.trans hxp
  simp only [↓vsd, vsn, gW, qd, qv, ev, pick, argE, zipE, ne_eq, eq_self, forall_const, implies_true, if_true, if_false, reduceIte, reduceCtorEq, Nat.reduceEqDiff, Nat.reduceAdd, Nat.reduceLT, ↓us_lFnExactGoodBobs, r_lFnExactGoodBobs]
  refine m_call (ltoStringS_ok u bobs hbl _ (by first | exact h'.ext hx116 | exact h'.ext (dr hx116))) ?_
  rintro y17 w17 hxq hk17
  have hxq : Ext w16 w17 := by first | exact hxq | exact ud hxq | exact ud (ud hxq)
  simp only [↓vsd, vsn, gW, qd, qv, ev, pick, argE, zipE, ne_eq, eq_self, forall_const, implies_true, if_true, if_false, reduceIte, reduceCtorEq, Nat.reduceEqDiff, Nat.reduceAdd, Nat.reduceLT, ↓us_lFnExactGoodBobs, r_lFnExactGoodBobs]
  refine m_call (leqStringS_ok y10 y17 bobs bobs _ ((((hk12.ext hxn).ext hxo).ext hxp).ext hxq).sq hk17.sq (by omega)) ?_
  rintro _ w18 hxr rfl
  have hxr : Ext w17 w18 := by first | exact hxr | exact ud hxr | exact ud (ud hxr)
  simp only [↓vsd, vsn, gW, qd, qv, ev, pick, argE, zipE, ne_eq, eq_self, forall_const, implies_true, if_true, if_false, reduceIte, reduceCtorEq, Nat.reduceEqDiff, Nat.reduceAdd, Nat.reduceLT, ↓us_lFnExactGoodBobs, r_lFnExactGoodBobs]
  exact (hx116.trans hxq).trans hxr
end Go.Proofs.Ytnhealghpfjdcaa
