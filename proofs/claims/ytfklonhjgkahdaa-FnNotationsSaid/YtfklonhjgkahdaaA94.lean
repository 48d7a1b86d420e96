/-
  Place notation: tidied changes, mirrored lists, halves, printed texts, of both sides.
  Conditions: none.
-/
import Derived.Test.YtfklonhjgkahdaaPo
import Derived.Test.YtfklonhjgkahdaaA11
import Derived.Test.YtfklonhjgkahdaaD10
set_option linter.unusedSimpArgs false
set_option linter.unusedVariables false
set_option linter.defProp false
namespace Go.Proofs.Ytfklonhjgkahdaa
open Go Go.RowKit
section
variable (P : Program) (k : KT) (e : Env) (w : World)
abbrev b46_1 : X := (.cond (.t 8) (.reg [0, 1] (.c (.q 1 [] (.mv (.s [45]))) .nil)) .skip)
def t46_1 := b46_1
theorem u46_1 : vcK P t46_1 k e w = vcK P b46_1 k e w := rfl
abbrev b46_2 : X := (.cond (.t 29) (.seq (.reg [4] (.c (.q 30 [] (.mv (.t 6))) (.c (.q 4 [] (.mv (.t 30))) .nil))) .ret) .skip)
def t46_2 := b46_2
theorem u46_2 : vcK P t46_2 k e w = vcK P b46_2 k e w := rfl
abbrev b46_3 : X := (.seq (.reg [0, 6, 21, 22, 23, 29] (.c (.q 27 [] (.mv (.t 0))) (.c (.q 28 [] (.mv (.t 6))) (.c (.e (some 29) [] (.call false 76 [(.t 27), (.t 28)])) .nil)))) t46_2)
def t46_3 := b46_3
theorem u46_3 : vcK P t46_3 k e w = vcK P b46_3 k e w := rfl
abbrev b46_4 : X := (.reg [0, 21, 22, 23] (.c (.q 31 [] (.bin .add (.t 23) (.c (.int .i64 1)))) (.c (.q 23 [] (.mv (.t 31))) .nil)))
def t46_4 := b46_4
theorem u46_4 : vcK P t46_4 k e w = vcK P b46_4 k e w := rfl
abbrev b46_5 : X := (.seq (.blk 1 (.seq (.reg [0, 6, 21, 22, 23] (.c (.q 25 [] (.ia 1 (.t 21) (.t 23))) (.c (.q 26 [] (.ld (.t 25))) (.c (.q 6 [] (.mv (.t 26))) .nil)))) t46_3)) t46_4)
def t46_5 := b46_5
theorem u46_5 : vcK P t46_5 k e w = vcK P b46_5 k e w := rfl
abbrev b46_6 : X := (.seq (.cond (.t 24) .skip (.exit 0)) t46_5)
def t46_6 := b46_6
theorem u46_6 : vcK P t46_6 k e w = vcK P b46_6 k e w := rfl
abbrev b46_7 : X := (.seq (.reg [0, 21, 22, 23, 24] (.c (.q 24 [] (.bin .lss (.t 23) (.t 22))) .nil)) t46_6)
def t46_7 := b46_7
theorem u46_7 : vcK P t46_7 k e w = vcK P b46_7 k e w := rfl
abbrev b46_8 : X := (.blk 0 (.loop [23] [0, 21, 22] t46_7))
def t46_8 := b46_8
theorem u46_8 : vcK P t46_8 k e w = vcK P b46_8 k e w := rfl
abbrev b46_9 : X := (.seq (.reg [4] (.c (.q 4 [] (.mv (.s []))) .nil)) .ret)
def t46_9 := b46_9
theorem u46_9 : vcK P t46_9 k e w = vcK P b46_9 k e w := rfl
abbrev b46_10 : X := (.seq (.seq (.reg [0, 21, 22, 23] (.c (.q 9 [] (.mv (.t 1))) (.c (.q 10 [] (.mv (.t 1))) (.c (.q 11 [] (.mv (.t 0))) (.c (.e (some 12) [] (.call false 80 [(.t 11)])) (.c (.q 13 [] (.bin .add (.t 10) (.t 12))) (.c (.q 14 [] (.mv (.t 1))) (.c (.q 15 [] (.bin .add (.s [49]) (.t 14))) (.c (.q 16 [] (.mv (.t 1))) (.c (.q 17 [] (.bin .add (.s [49]) (.t 16))) (.c (.q 18 [] (.mv (.t 0))) (.c (.e (some 19) [] (.call false 80 [(.t 18)])) (.c (.q 20 [] (.bin .add (.t 17) (.t 19))) (.c (.e (some 21) [] (.bsl 9 1 [(.t 9), (.t 13), (.t 15), (.t 20)])) (.c (.q 22 [] (.lens (.t 21))) (.c (.q 23 [] (.mv (.c (.int .i64 0)))) .nil)))))))))))))))) t46_8) t46_9)
def t46_10 := b46_10
theorem u46_10 : vcK P t46_10 k e w = vcK P b46_10 k e w := rfl
abbrev b46_11 : X := (.seq (.seq (.reg [0, 1, 8] (.c (.q 7 [] (.mv (.t 1))) (.c (.q 8 [] (.bin .eql (.t 7) (.s [120]))) .nil))) t46_1) t46_10)
def t46_11 := b46_11
theorem u46_11 : vcK P t46_11 k e w = vcK P b46_11 k e w := rfl
abbrev b46_0 : X := (.seq (.reg [0, 1] (.c (.q 4 [] (.mv (.s []))) .nil)) t46_11)
def x_sl3Tidy := b46_0
theorem u46_0 : vcK P x_sl3Tidy k e w = vcK P b46_0 k e w := rfl
def r_sl3Tidy : List XO := [(.mv (.t 4))]
theorem c_sl3Tidy : convF Try.prog [38, 39, 41, 42, 49, 54, 55, 57, 58, 59, 79, 81, 84, 87, 139] Try.f46 [([0, 1], []), ([0, 1, 8], []), ([0, 1], []), ([0, 21, 22, 23], []), ([23], [0, 21, 22]), ([0, 21, 22, 23, 24], []), ([0, 6, 21, 22, 23], []), ([0, 6, 21, 22, 23, 29], []), ([4], []), ([0, 21, 22, 23], []), ([4], [])] = some (x_sl3Tidy, r_sl3Tidy) := by kernel_rfl
def us_sl3Tidy :=  (aI (aI (aI @u46_0 (aI @u46_1 @u46_2)) (aI @u46_3 (aI @u46_4 @u46_5))) (aI (aI @u46_6 (aI @u46_7 @u46_8)) (aI @u46_9 (aI @u46_10 @u46_11))))
abbrev b15_1 : X := (.cond (.t 11) (.seq (.reg [4, 5] (.c (.q 4 [] (.mv (.s []))) (.c (.q 5 [] (.mv (.c (.bool false)))) .nil))) .ret) .skip)
def t15_1 := b15_1
theorem u15_1 : vcK P t15_1 k e w = vcK P b15_1 k e w := rfl
abbrev b15_2 : X := (.cond (.t 13) (.reg [0, 1] (.c (.q 1 [] (.mv (.s [45]))) .nil)) .skip)
def t15_2 := b15_2
theorem u15_2 : vcK P t15_2 k e w = vcK P b15_2 k e w := rfl
abbrev b15_3 : X := (.cond (.t 37) (.seq (.reg [4, 5] (.c (.q 38 [] (.mv (.t 8))) (.c (.q 4 [] (.mv (.t 38))) (.c (.q 5 [] (.mv (.c (.bool true)))) .nil)))) .ret) .skip)
def t15_3 := b15_3
theorem u15_3 : vcK P t15_3 k e w = vcK P b15_3 k e w := rfl
abbrev b15_4 : X := (.seq (.reg [0, 8, 29, 30, 31, 37] (.c (.q 35 [] (.mv (.t 0))) (.c (.q 36 [] (.mv (.t 8))) (.c (.e (some 37) [] (.call false 17 [(.t 35), (.t 36)])) .nil)))) t15_3)
def t15_4 := b15_4
theorem u15_4 : vcK P t15_4 k e w = vcK P b15_4 k e w := rfl
abbrev b15_5 : X := (.reg [0, 29, 30, 31] (.c (.q 39 [] (.bin .add (.t 31) (.c (.int .i64 1)))) (.c (.q 31 [] (.mv (.t 39))) .nil)))
def t15_5 := b15_5
theorem u15_5 : vcK P t15_5 k e w = vcK P b15_5 k e w := rfl
abbrev b15_6 : X := (.seq (.blk 1 (.seq (.reg [0, 8, 29, 30, 31] (.c (.q 33 [] (.ia 1 (.t 29) (.t 31))) (.c (.q 34 [] (.ld (.t 33))) (.c (.q 8 [] (.mv (.t 34))) .nil)))) t15_4)) t15_5)
def t15_6 := b15_6
theorem u15_6 : vcK P t15_6 k e w = vcK P b15_6 k e w := rfl
abbrev b15_7 : X := (.seq (.cond (.t 32) .skip (.exit 0)) t15_6)
def t15_7 := b15_7
theorem u15_7 : vcK P t15_7 k e w = vcK P b15_7 k e w := rfl
abbrev b15_8 : X := (.seq (.reg [0, 29, 30, 31, 32] (.c (.q 32 [] (.bin .lss (.t 31) (.t 30))) .nil)) t15_7)
def t15_8 := b15_8
theorem u15_8 : vcK P t15_8 k e w = vcK P b15_8 k e w := rfl
abbrev b15_9 : X := (.blk 0 (.loop [31] [0, 29, 30] t15_8))
def t15_9 := b15_9
theorem u15_9 : vcK P t15_9 k e w = vcK P b15_9 k e w := rfl
abbrev b15_10 : X := (.seq (.reg [4, 5] (.c (.q 4 [] (.mv (.s []))) (.c (.q 5 [] (.mv (.c (.bool false)))) .nil))) .ret)
def t15_10 := b15_10
theorem u15_10 : vcK P t15_10 k e w = vcK P b15_10 k e w := rfl
abbrev b15_11 : X := (.seq (.seq (.reg [0, 29, 30, 31] (.c (.q 19 [] (.mv (.t 1))) (.c (.q 20 [] (.mv (.t 1))) (.c (.q 21 [] (.mv (.t 6))) (.c (.q 22 [] (.bin .add (.t 20) (.t 21))) (.c (.q 23 [] (.mv (.t 1))) (.c (.q 24 [] (.bin .add (.s [49]) (.t 23))) (.c (.q 25 [] (.mv (.t 1))) (.c (.q 26 [] (.bin .add (.s [49]) (.t 25))) (.c (.q 27 [] (.mv (.t 6))) (.c (.q 28 [] (.bin .add (.t 26) (.t 27))) (.c (.e (some 29) [] (.bsl 9 1 [(.t 19), (.t 22), (.t 24), (.t 28)])) (.c (.q 30 [] (.lens (.t 29))) (.c (.q 31 [] (.mv (.c (.int .i64 0)))) .nil)))))))))))))) t15_9) t15_10)
def t15_11 := b15_11
theorem u15_11 : vcK P t15_11 k e w = vcK P b15_11 k e w := rfl
abbrev b15_12 : X := (.seq (.reg [0, 1, 6] (.c (.q 14 [] (.mv (.t 0))) (.c (.e (some 15) [] (.call false 44 [(.t 14)])) (.c (.q 16 [] (.mv (.t 0))) (.c (.q 17 [] (.bin .sub (.t 16) (.c (.int .i64 1)))) (.c (.q 18 [] (.sub (.t 15) (some (.t 17)) none)) (.c (.q 6 [] (.mv (.t 18))) .nil))))))) t15_11)
def t15_12 := b15_12
theorem u15_12 : vcK P t15_12 k e w = vcK P b15_12 k e w := rfl
abbrev b15_13 : X := (.seq (.seq (.reg [0, 1, 13] (.c (.q 12 [] (.mv (.t 1))) (.c (.q 13 [] (.bin .eql (.t 12) (.s [120]))) .nil))) t15_2) t15_12)
def t15_13 := b15_13
theorem u15_13 : vcK P t15_13 k e w = vcK P b15_13 k e w := rfl
abbrev b15_14 : X := (.seq (.seq (.reg [0, 1, 11] (.c (.q 9 [] (.mv (.t 0))) (.c (.e (some 10) [] (.call false 43 [(.t 9)])) (.c (.q 11 [] (.not (.t 10))) .nil)))) t15_1) t15_13)
def t15_14 := b15_14
theorem u15_14 : vcK P t15_14 k e w = vcK P b15_14 k e w := rfl
abbrev b15_0 : X := (.seq (.reg [0, 1] (.c (.q 4 [] (.mv (.s []))) (.c (.q 5 [] (.mv (.c (.bool false)))) .nil))) t15_14)
def x_iTidyChange := b15_0
theorem u15_0 : vcK P x_iTidyChange k e w = vcK P b15_0 k e w := rfl
def r_iTidyChange : List XO := [(.mv (.t 4)), (.mv (.t 5))]
theorem c_iTidyChange : convF Try.prog [38, 39, 41, 42, 49, 54, 55, 57, 58, 59, 79, 81, 84, 87, 139] Try.f15 [([0, 1], []), ([0, 1, 11], []), ([4, 5], []), ([0, 1, 13], []), ([0, 1], []), ([0, 1, 6], []), ([0, 29, 30, 31], []), ([31], [0, 29, 30]), ([0, 29, 30, 31, 32], []), ([0, 8, 29, 30, 31], []), ([0, 8, 29, 30, 31, 37], []), ([4, 5], []), ([0, 29, 30, 31], []), ([4, 5], [])] = some (x_iTidyChange, r_iTidyChange) := by kernel_rfl
def us_iTidyChange :=  (aI (aI (aI @u15_0 (aI @u15_1 @u15_2)) (aI (aI @u15_3 @u15_4) (aI @u15_5 @u15_6))) (aI (aI (aI @u15_7 @u15_8) (aI @u15_9 @u15_10)) (aI (aI @u15_11 @u15_12) (aI @u15_13 @u15_14))))
abbrev b16_1 : X := (.cond (.t 14) (.seq (.reg [4, 5] (.c (.q 4 [] (.mv (.s []))) (.c (.q 5 [] (.mv (.c (.bool false)))) .nil))) .ret) .skip)
def t16_1 := b16_1
theorem u16_1 : vcK P t16_1 k e w = vcK P b16_1 k e w := rfl
abbrev b16_2 : X := (.seq (.reg [4, 5] (.c (.q 15 [] (.mv (.t 0))) (.c (.q 16 [] (.mv (.t 1))) (.c (.e (some 17) [] (.call false 46 [(.t 15), (.t 16)])) (.c (.q 4 [] (.mv (.t 17))) (.c (.q 5 [] (.mv (.c (.bool true)))) .nil)))))) .ret)
def t16_2 := b16_2
theorem u16_2 : vcK P t16_2 k e w = vcK P b16_2 k e w := rfl
abbrev b16_3 : X := (.seq (.seq (.reg [0, 1, 14] (.c (.q 6 [] (.mv (.t 0))) (.c (.e (some 7) [] (.call false 45 [(.t 6), (.c (.int .i64 3)), (.c (.int .i64 8))])) (.c (.q 8 [] (.not (.t 7))) (.c (.q 9 [] (.mv (.t 8))) (.c (.q 10 [(9, false)] (.mv (.t 0))) (.c (.q 11 [(9, false)] (.mv (.t 1))) (.c (.e (some 12) [(9, false)] (.call false 46 [(.t 10), (.t 11)])) (.c (.q 13 [(9, false)] (.bin .eql (.t 12) (.s []))) (.c (.q 14 [] (.pick (.t 9) (.c (.bool true)) (.t 13))) .nil)))))))))) t16_1) t16_2)
def t16_3 := b16_3
theorem u16_3 : vcK P t16_3 k e w = vcK P b16_3 k e w := rfl
abbrev b16_0 : X := (.seq (.reg [0, 1] (.c (.q 4 [] (.mv (.s []))) (.c (.q 5 [] (.mv (.c (.bool false)))) .nil))) t16_3)
def x_sTidyChange := b16_0
theorem u16_0 : vcK P x_sTidyChange k e w = vcK P b16_0 k e w := rfl
def r_sTidyChange : List XO := [(.mv (.t 4)), (.mv (.t 5))]
theorem c_sTidyChange : convF Try.prog [38, 39, 41, 42, 49, 54, 55, 57, 58, 59, 79, 81, 84, 87, 139] Try.f16 [([0, 1], []), ([0, 1, 14], []), ([4, 5], []), ([4, 5], [])] = some (x_sTidyChange, r_sTidyChange) := by kernel_rfl
def us_sTidyChange :=  (aI (aI @u16_0 @u16_1) (aI @u16_2 @u16_3))
abbrev b37_1 : X := (.cond (.t 11) .skip (.exit 0))
def t37_1 := b37_1
theorem u37_1 : vcK P t37_1 k e w = vcK P b37_1 k e w := rfl
abbrev b37_2 : X := (.reg [0, 3, 4] (.c (.q 12 [] (.mv (.t 4))) (.c (.q 13 [] (.bin .sub (.t 12) (.c (.int .i64 1)))) (.c (.q 4 [] (.mv (.t 13))) .nil))))
def t37_2 := b37_2
theorem u37_2 : vcK P t37_2 k e w = vcK P b37_2 k e w := rfl
abbrev b37_3 : X := (.seq (.blk 1 (.reg [0, 3, 4] (.c (.q 14 [] (.mv (.t 3))) (.c (.q 15 [] (.mv (.t 0))) (.c (.q 16 [] (.mv (.t 4))) (.c (.q 17 [] (.ia 1 (.t 15) (.t 16))) (.c (.q 18 [] (.ld (.t 17))) (.c (.e (some 19) [] (.bsl 9 1 [(.t 18)])) (.c (.e (some 20) [] (.app 24 9 1 16 [(S [])] 24 (.t 14) (.t 19))) (.c (.q 3 [] (.mv (.t 20))) .nil)))))))))) t37_2)
def t37_3 := b37_3
theorem u37_3 : vcK P t37_3 k e w = vcK P b37_3 k e w := rfl
abbrev b37_4 : X := (.seq (.seq (.reg [0, 3, 4, 11] (.c (.q 10 [] (.mv (.t 4))) (.c (.q 11 [] (.bin .geq (.t 10) (.c (.int .i64 0)))) .nil))) t37_1) t37_3)
def t37_4 := b37_4
theorem u37_4 : vcK P t37_4 k e w = vcK P b37_4 k e w := rfl
abbrev b37_5 : X := (.blk 0 (.loop [3, 4] [0] t37_4))
def t37_5 := b37_5
theorem u37_5 : vcK P t37_5 k e w = vcK P b37_5 k e w := rfl
abbrev b37_6 : X := (.seq (.reg [2] (.c (.q 21 [] (.mv (.t 3))) (.c (.q 2 [] (.mv (.t 21))) .nil))) .ret)
def t37_6 := b37_6
theorem u37_6 : vcK P t37_6 k e w = vcK P b37_6 k e w := rfl
abbrev b37_7 : X := (.seq (.seq (.reg [0, 3, 4] (.c (.q 7 [] (.mv (.t 0))) (.c (.q 8 [] (.lens (.t 7))) (.c (.q 9 [] (.bin .sub (.t 8) (.c (.int .i64 2)))) (.c (.q 4 [] (.mv (.t 9))) .nil))))) t37_5) t37_6)
def t37_7 := b37_7
theorem u37_7 : vcK P t37_7 k e w = vcK P b37_7 k e w := rfl
abbrev b37_8 : X := (.seq (.reg [0, 3] (.c (.q 5 [] (.mv (.t 0))) (.c (.e (some 6) [] (.call false 75 [(.t 5)])) (.c (.q 3 [] (.mv (.t 6))) .nil)))) t37_7)
def t37_8 := b37_8
theorem u37_8 : vcK P t37_8 k e w = vcK P b37_8 k e w := rfl
abbrev b37_0 : X := (.seq (.reg [0] (.c (.q 2 [] (.mv (.c (.slice none 0 0)))) .nil)) t37_8)
def x_imirrored := b37_0
theorem u37_0 : vcK P x_imirrored k e w = vcK P b37_0 k e w := rfl
def r_imirrored : List XO := [(.mv (.t 2))]
theorem c_imirrored : convF Try.prog [38, 39, 41, 42, 49, 54, 55, 57, 58, 59, 79, 81, 84, 87, 139] Try.f37 [([0], []), ([0, 3], []), ([0, 3, 4], []), ([3, 4], [0]), ([0, 3, 4, 11], []), ([0, 3, 4], []), ([0, 3, 4], []), ([2], [])] = some (x_imirrored, r_imirrored) := by kernel_rfl
def us_imirrored :=  (aI (aI (aI @u37_0 @u37_1) (aI @u37_2 @u37_3)) (aI (aI @u37_4 @u37_5) (aI @u37_6 (aI @u37_7 @u37_8))))
abbrev b40_1 : X := (.cond (.t 11) .skip (.exit 0))
def t40_1 := b40_1
theorem u40_1 : vcK P t40_1 k e w = vcK P b40_1 k e w := rfl
abbrev b40_2 : X := (.reg [0, 3, 4] (.c (.q 12 [] (.mv (.t 4))) (.c (.q 13 [] (.bin .sub (.t 12) (.c (.int .i64 1)))) (.c (.q 4 [] (.mv (.t 13))) .nil))))
def t40_2 := b40_2
theorem u40_2 : vcK P t40_2 k e w = vcK P b40_2 k e w := rfl
abbrev b40_3 : X := (.seq (.blk 1 (.reg [0, 3, 4] (.c (.q 14 [] (.mv (.t 3))) (.c (.q 15 [] (.mv (.t 0))) (.c (.q 16 [] (.mv (.t 4))) (.c (.q 17 [] (.ia 1 (.t 15) (.t 16))) (.c (.q 18 [] (.ld (.t 17))) (.c (.e (some 19) [] (.bsl 9 1 [(.t 18)])) (.c (.e (some 20) [] (.app 24 9 1 16 [(S [])] 24 (.t 14) (.t 19))) (.c (.q 3 [] (.mv (.t 20))) .nil)))))))))) t40_2)
def t40_3 := b40_3
theorem u40_3 : vcK P t40_3 k e w = vcK P b40_3 k e w := rfl
abbrev b40_4 : X := (.seq (.seq (.reg [0, 3, 4, 11] (.c (.q 10 [] (.mv (.t 4))) (.c (.q 11 [] (.bin .geq (.t 10) (.c (.int .i64 0)))) .nil))) t40_1) t40_3)
def t40_4 := b40_4
theorem u40_4 : vcK P t40_4 k e w = vcK P b40_4 k e w := rfl
abbrev b40_5 : X := (.blk 0 (.loop [3, 4] [0] t40_4))
def t40_5 := b40_5
theorem u40_5 : vcK P t40_5 k e w = vcK P b40_5 k e w := rfl
abbrev b40_6 : X := (.seq (.reg [2] (.c (.q 21 [] (.mv (.t 3))) (.c (.q 2 [] (.mv (.t 21))) .nil))) .ret)
def t40_6 := b40_6
theorem u40_6 : vcK P t40_6 k e w = vcK P b40_6 k e w := rfl
abbrev b40_7 : X := (.seq (.seq (.reg [0, 3, 4] (.c (.q 7 [] (.mv (.t 0))) (.c (.q 8 [] (.lens (.t 7))) (.c (.q 9 [] (.bin .sub (.t 8) (.c (.int .i64 2)))) (.c (.q 4 [] (.mv (.t 9))) .nil))))) t40_5) t40_6)
def t40_7 := b40_7
theorem u40_7 : vcK P t40_7 k e w = vcK P b40_7 k e w := rfl
abbrev b40_8 : X := (.seq (.reg [0, 3] (.c (.q 5 [] (.mv (.t 0))) (.c (.e (some 6) [] (.call false 78 [(.t 5)])) (.c (.q 3 [] (.mv (.t 6))) .nil)))) t40_7)
def t40_8 := b40_8
theorem u40_8 : vcK P t40_8 k e w = vcK P b40_8 k e w := rfl
abbrev b40_0 : X := (.seq (.reg [0] (.c (.q 2 [] (.mv (.c (.slice none 0 0)))) .nil)) t40_8)
def x_sl3Mirror := b40_0
theorem u40_0 : vcK P x_sl3Mirror k e w = vcK P b40_0 k e w := rfl
def r_sl3Mirror : List XO := [(.mv (.t 2))]
theorem c_sl3Mirror : convF Try.prog [38, 39, 41, 42, 49, 54, 55, 57, 58, 59, 79, 81, 84, 87, 139] Try.f40 [([0], []), ([0, 3], []), ([0, 3, 4], []), ([3, 4], [0]), ([0, 3, 4, 11], []), ([0, 3, 4], []), ([0, 3, 4], []), ([2], [])] = some (x_sl3Mirror, r_sl3Mirror) := by kernel_rfl
def us_sl3Mirror :=  (aI (aI (aI @u40_0 @u40_1) (aI @u40_2 @u40_3)) (aI (aI @u40_4 @u40_5) (aI @u40_6 (aI @u40_7 @u40_8))))
abbrev b11_1 : X := (.cond (.t 13) (.seq (.reg [2, 3] (.c (.q 2 [] (.mv (.c (.slice none 0 0)))) (.c (.q 3 [] (.mv (.c (.bool false)))) .nil))) .ret) .skip)
def t11_1 := b11_1
theorem u11_1 : vcK P t11_1 k e w = vcK P b11_1 k e w := rfl
abbrev b11_2 : X := (.seq (.reg [2, 3] (.c (.q 14 [] (.mv (.t 0))) (.c (.e (some 15) [] (.call false 37 [(.t 14)])) (.c (.q 2 [] (.mv (.t 15))) (.c (.q 3 [] (.mv (.c (.bool true)))) .nil))))) .ret)
def t11_2 := b11_2
theorem u11_2 : vcK P t11_2 k e w = vcK P b11_2 k e w := rfl
abbrev b11_3 : X := (.seq (.seq (.reg [0, 13] (.c (.q 4 [] (.mv (.t 0))) (.c (.q 5 [] (.lens (.t 4))) (.c (.q 6 [] (.bin .gtr (.t 5) (.c (.int .i64 40)))) (.c (.q 7 [] (.mv (.t 6))) (.c (.q 8 [(7, false)] (.mv (.t 0))) (.c (.q 9 [(7, false)] (.lens (.t 8))) (.c (.q 10 [(7, false)] (.bin .mul (.c (.int .i64 2)) (.t 9))) (.c (.q 11 [(7, false)] (.bin .sub (.t 10) (.c (.int .i64 1)))) (.c (.q 12 [(7, false)] (.bin .gtr (.t 11) (.c (.int .i64 40)))) (.c (.q 13 [] (.pick (.t 7) (.c (.bool true)) (.t 12))) .nil))))))))))) t11_1) t11_2)
def t11_3 := b11_3
theorem u11_3 : vcK P t11_3 k e w = vcK P b11_3 k e w := rfl
abbrev b11_0 : X := (.seq (.reg [0] (.c (.q 2 [] (.mv (.c (.slice none 0 0)))) (.c (.q 3 [] (.mv (.c (.bool false)))) .nil))) t11_3)
def x_iMirrorAll := b11_0
theorem u11_0 : vcK P x_iMirrorAll k e w = vcK P b11_0 k e w := rfl
def r_iMirrorAll : List XO := [(.mv (.t 2)), (.mv (.t 3))]
theorem c_iMirrorAll : convF Try.prog [38, 39, 41, 42, 49, 54, 55, 57, 58, 59, 79, 81, 84, 87, 139] Try.f11 [([0], []), ([0, 13], []), ([2, 3], []), ([2, 3], [])] = some (x_iMirrorAll, r_iMirrorAll) := by kernel_rfl
def us_iMirrorAll :=  (aI (aI @u11_0 @u11_1) (aI @u11_2 @u11_3))
abbrev b13_1 : X := (.cond (.t 12) (.seq (.reg [2, 3] (.c (.q 2 [] (.mv (.c (.slice none 0 0)))) (.c (.q 3 [] (.mv (.c (.bool false)))) .nil))) .ret) .skip)
def t13_1 := b13_1
theorem u13_1 : vcK P t13_1 k e w = vcK P b13_1 k e w := rfl
abbrev b13_2 : X := (.seq (.reg [2, 3] (.c (.q 13 [] (.mv (.t 0))) (.c (.e (some 14) [] (.call false 40 [(.t 13)])) (.c (.q 2 [] (.mv (.t 14))) (.c (.q 3 [] (.mv (.c (.bool true)))) .nil))))) .ret)
def t13_2 := b13_2
theorem u13_2 : vcK P t13_2 k e w = vcK P b13_2 k e w := rfl
abbrev b13_3 : X := (.seq (.seq (.reg [0, 12] (.c (.q 4 [] (.mv (.t 0))) (.c (.q 5 [] (.lens (.t 4))) (.c (.q 6 [] (.bin .gtr (.t 5) (.c (.int .i64 40)))) (.c (.q 7 [] (.mv (.t 6))) (.c (.q 8 [(7, false)] (.mv (.t 0))) (.c (.e (some 9) [(7, false)] (.call false 40 [(.t 8)])) (.c (.q 10 [(7, false)] (.lens (.t 9))) (.c (.q 11 [(7, false)] (.bin .gtr (.t 10) (.c (.int .i64 40)))) (.c (.q 12 [] (.pick (.t 7) (.c (.bool true)) (.t 11))) .nil)))))))))) t13_1) t13_2)
def t13_3 := b13_3
theorem u13_3 : vcK P t13_3 k e w = vcK P b13_3 k e w := rfl
abbrev b13_0 : X := (.seq (.reg [0] (.c (.q 2 [] (.mv (.c (.slice none 0 0)))) (.c (.q 3 [] (.mv (.c (.bool false)))) .nil))) t13_3)
def x_sMirrorAll := b13_0
theorem u13_0 : vcK P x_sMirrorAll k e w = vcK P b13_0 k e w := rfl
def r_sMirrorAll : List XO := [(.mv (.t 2)), (.mv (.t 3))]
theorem c_sMirrorAll : convF Try.prog [38, 39, 41, 42, 49, 54, 55, 57, 58, 59, 79, 81, 84, 87, 139] Try.f13 [([0], []), ([0, 12], []), ([2, 3], []), ([2, 3], [])] = some (x_sMirrorAll, r_sMirrorAll) := by kernel_rfl
def us_sMirrorAll :=  (aI (aI @u13_0 @u13_1) (aI @u13_2 @u13_3))
abbrev b34_1 : X := (.cond (.t 11) .skip (.exit 0))
def t34_1 := b34_1
theorem u34_1 : vcK P t34_1 k e w = vcK P b34_1 k e w := rfl
abbrev b34_2 : X := (.cond (.t 34) (.seq (.drw [2, 3, 4] (.c (.q 35 [] (.mv (.t 0))) (.c (.q 36 [] (.mv (.t 6))) (.c (.q 37 [] (.bin .quo (.t 36) (.c (.int .i64 2)))) (.c (.q 38 [] (.bin .add (.t 37) (.c (.int .i64 1)))) (.c (.q 39 [] (.ssl 1 (.t 35) none (some (.t 38)))) (.c (.q 41 [] (.mv (.t 0))) (.c (.q 42 [] (.mv (.t 6))) (.c (.q 43 [] (.mv (.t 6))) (.c (.q 44 [] (.mv (.t 5))) (.c (.q 45 [] (.bin .add (.t 43) (.t 44))) (.c (.q 46 [] (.ssl 1 (.t 41) (some (.t 42)) (some (.t 45)))) (.c (.e (some 40) [] (.call false 75 [(.t 39)])) (.c (.e (some 47) [] (.call false 75 [(.t 46)])) (.c (.q 2 [] (.mv (.t 40))) (.c (.q 3 [] (.mv (.t 47))) (.c (.q 4 [] (.mv (.c (.bool true)))) .nil))))))))))))))))) .ret) .skip)
def t34_2 := b34_2
theorem u34_2 : vcK P t34_2 k e w = vcK P b34_2 k e w := rfl
abbrev b34_3 : X := (.seq (.reg [0, 5, 6, 34] (.c (.q 20 [] (.mv (.t 6))) (.c (.q 21 [] (.bin .rem (.t 20) (.c (.int .i64 2)))) (.c (.q 22 [] (.bin .eql (.t 21) (.c (.int .i64 1)))) (.c (.q 23 [] (.mv (.t 22))) (.c (.q 24 [(23, true)] (.mv (.t 0))) (.c (.q 25 [(23, true)] (.mv (.t 6))) (.c (.q 26 [(23, true)] (.ssl 1 (.t 24) none (some (.t 25)))) (.c (.e (some 27) [(23, true)] (.call false 74 [(.t 26)])) (.c (.q 28 [] (.pick (.t 23) (.t 27) (.c (.bool false)))) (.c (.q 29 [] (.mv (.t 28))) (.c (.q 30 [(29, true)] (.mv (.t 0))) (.c (.q 31 [(29, true)] (.mv (.t 6))) (.c (.q 32 [(29, true)] (.ssl 1 (.t 30) (some (.t 31)) none)) (.c (.e (some 33) [(29, true)] (.call false 74 [(.t 32)])) (.c (.q 34 [] (.pick (.t 29) (.t 33) (.c (.bool false)))) .nil)))))))))))))))) t34_2)
def t34_3 := b34_3
theorem u34_3 : vcK P t34_3 k e w = vcK P b34_3 k e w := rfl
abbrev b34_4 : X := (.reg [0, 5] (.c (.q 12 [] (.mv (.t 5))) (.c (.q 13 [] (.bin .add (.t 12) (.c (.int .i64 1)))) (.c (.q 5 [] (.mv (.t 13))) .nil))))
def t34_4 := b34_4
theorem u34_4 : vcK P t34_4 k e w = vcK P b34_4 k e w := rfl
abbrev b34_5 : X := (.seq (.blk 1 (.seq (.reg [0, 5, 6] (.c (.q 14 [] (.mv (.t 0))) (.c (.q 15 [] (.lens (.t 14))) (.c (.q 16 [] (.mv (.t 5))) (.c (.q 17 [] (.bin .mul (.c (.int .i64 2)) (.t 16))) (.c (.q 18 [] (.bin .sub (.t 15) (.t 17))) (.c (.q 19 [] (.bin .add (.t 18) (.c (.int .i64 1)))) (.c (.q 6 [] (.mv (.t 19))) .nil)))))))) t34_3)) t34_4)
def t34_5 := b34_5
theorem u34_5 : vcK P t34_5 k e w = vcK P b34_5 k e w := rfl
abbrev b34_6 : X := (.seq (.seq (.reg [0, 5, 11] (.c (.q 7 [] (.mv (.t 5))) (.c (.q 8 [] (.bin .mul (.c (.int .i64 2)) (.t 7))) (.c (.q 9 [] (.mv (.t 0))) (.c (.q 10 [] (.lens (.t 9))) (.c (.q 11 [] (.bin .leq (.t 8) (.t 10))) .nil)))))) t34_1) t34_5)
def t34_6 := b34_6
theorem u34_6 : vcK P t34_6 k e w = vcK P b34_6 k e w := rfl
abbrev b34_7 : X := (.blk 0 (.loop [5] [0] t34_6))
def t34_7 := b34_7
theorem u34_7 : vcK P t34_7 k e w = vcK P b34_7 k e w := rfl
abbrev b34_8 : X := (.seq (.reg [2, 3, 4] (.c (.q 2 [] (.mv (.c (.slice none 0 0)))) (.c (.q 3 [] (.mv (.c (.slice none 0 0)))) (.c (.q 4 [] (.mv (.c (.bool false)))) .nil)))) .ret)
def t34_8 := b34_8
theorem u34_8 : vcK P t34_8 k e w = vcK P b34_8 k e w := rfl
abbrev b34_9 : X := (.seq (.seq (.reg [0, 5] (.c (.q 5 [] (.mv (.c (.int .i64 1)))) .nil)) t34_7) t34_8)
def t34_9 := b34_9
theorem u34_9 : vcK P t34_9 k e w = vcK P b34_9 k e w := rfl
abbrev b34_0 : X := (.seq (.reg [0] (.c (.q 2 [] (.mv (.c (.slice none 0 0)))) (.c (.q 3 [] (.mv (.c (.slice none 0 0)))) (.c (.q 4 [] (.mv (.c (.bool false)))) .nil)))) t34_9)
def x_ihalves := b34_0
theorem u34_0 : vcK P x_ihalves k e w = vcK P b34_0 k e w := rfl
def r_ihalves : List XO := [(.mv (.t 2)), (.mv (.t 3)), (.mv (.t 4))]
theorem c_ihalves : convF Try.prog [38, 39, 41, 42, 49, 54, 55, 57, 58, 59, 79, 81, 84, 87, 139] Try.f34 [([0], []), ([0, 5], []), ([5], [0]), ([0, 5, 11], []), ([0, 5, 6], []), ([0, 5, 6, 34], []), ([2, 3, 4], []), ([0, 5], []), ([2, 3, 4], [])] = some (x_ihalves, r_ihalves) := by kernel_rfl
def us_ihalves :=  (aI (aI (aI @u34_0 @u34_1) (aI @u34_2 (aI @u34_3 @u34_4))) (aI (aI @u34_5 @u34_6) (aI @u34_7 (aI @u34_8 @u34_9))))
abbrev b77_1 : X := (.cond (.t 21) (.seq (.reg [2] (.c (.q 2 [] (.mv (.c (.bool false)))) .nil)) .ret) .skip)
def t77_1 := b77_1
theorem u77_1 : vcK P t77_1 k e w = vcK P b77_1 k e w := rfl
abbrev b77_2 : X := (.seq (.drw [0, 5, 6, 21] (.c (.q 9 [] (.mv (.t 0))) (.c (.q 10 [] (.mv (.t 3))) (.c (.q 11 [] (.ia 1 (.t 9) (.t 10))) (.c (.q 12 [] (.ld (.t 11))) (.c (.q 13 [] (.mv (.t 0))) (.c (.q 14 [] (.mv (.t 0))) (.c (.q 15 [] (.lens (.t 14))) (.c (.q 16 [] (.bin .sub (.t 15) (.c (.int .i64 1)))) (.c (.q 17 [] (.mv (.t 3))) (.c (.q 18 [] (.bin .sub (.t 16) (.t 17))) (.c (.q 19 [] (.ia 1 (.t 13) (.t 18))) (.c (.q 20 [] (.ld (.t 19))) (.c (.q 21 [] (.bin .neq (.t 12) (.t 20))) .nil)))))))))))))) t77_1)
def t77_2 := b77_2
theorem u77_2 : vcK P t77_2 k e w = vcK P b77_2 k e w := rfl
abbrev b77_3 : X := (.reg [0, 5, 6] (.c (.q 22 [] (.bin .add (.t 6) (.c (.int .i64 1)))) (.c (.q 6 [] (.mv (.t 22))) .nil)))
def t77_3 := b77_3
theorem u77_3 : vcK P t77_3 k e w = vcK P b77_3 k e w := rfl
abbrev b77_4 : X := (.seq (.blk 1 (.seq (.reg [0, 3, 5, 6] (.c (.q 8 [] (.mv (.t 6))) (.c (.q 3 [] (.mv (.t 8))) .nil))) t77_2)) t77_3)
def t77_4 := b77_4
theorem u77_4 : vcK P t77_4 k e w = vcK P b77_4 k e w := rfl
abbrev b77_5 : X := (.seq (.cond (.t 7) .skip (.exit 0)) t77_4)
def t77_5 := b77_5
theorem u77_5 : vcK P t77_5 k e w = vcK P b77_5 k e w := rfl
abbrev b77_6 : X := (.seq (.reg [0, 5, 6, 7] (.c (.q 7 [] (.bin .lss (.t 6) (.t 5))) .nil)) t77_5)
def t77_6 := b77_6
theorem u77_6 : vcK P t77_6 k e w = vcK P b77_6 k e w := rfl
abbrev b77_7 : X := (.blk 0 (.loop [6] [0, 5] t77_6))
def t77_7 := b77_7
theorem u77_7 : vcK P t77_7 k e w = vcK P b77_7 k e w := rfl
abbrev b77_8 : X := (.seq (.reg [2] (.c (.q 23 [] (.mv (.t 0))) (.c (.q 24 [] (.lens (.t 23))) (.c (.q 25 [] (.bin .rem (.t 24) (.c (.int .i64 2)))) (.c (.q 26 [] (.bin .eql (.t 25) (.c (.int .i64 1)))) (.c (.q 2 [] (.mv (.t 26))) .nil)))))) .ret)
def t77_8 := b77_8
theorem u77_8 : vcK P t77_8 k e w = vcK P b77_8 k e w := rfl
abbrev b77_9 : X := (.seq (.seq (.reg [0, 5, 6] (.c (.q 4 [] (.mv (.t 0))) (.c (.q 5 [] (.lens (.t 4))) (.c (.q 6 [] (.mv (.c (.int .i64 0)))) .nil)))) t77_7) t77_8)
def t77_9 := b77_9
theorem u77_9 : vcK P t77_9 k e w = vcK P b77_9 k e w := rfl
abbrev b77_0 : X := (.seq (.reg [0] (.c (.q 2 [] (.mv (.c (.bool false)))) .nil)) t77_9)
def x_sl3Same := b77_0
theorem u77_0 : vcK P x_sl3Same k e w = vcK P b77_0 k e w := rfl
def r_sl3Same : List XO := [(.mv (.t 2))]
theorem c_sl3Same : convF Try.prog [38, 39, 41, 42, 49, 54, 55, 57, 58, 59, 79, 81, 84, 87, 139] Try.f77 [([0], []), ([0, 5, 6], []), ([6], [0, 5]), ([0, 5, 6, 7], []), ([0, 3, 5, 6], []), ([0, 5, 6, 21], []), ([2], []), ([0, 5, 6], []), ([2], [])] = some (x_sl3Same, r_sl3Same) := by kernel_rfl
def us_sl3Same :=  (aI (aI (aI @u77_0 @u77_1) (aI @u77_2 (aI @u77_3 @u77_4))) (aI (aI @u77_5 @u77_6) (aI @u77_7 (aI @u77_8 @u77_9))))
abbrev b36_1 : X := (.cond (.t 10) .skip (.exit 0))
def t36_1 := b36_1
theorem u36_1 : vcK P t36_1 k e w = vcK P b36_1 k e w := rfl
abbrev b36_2 : X := (.cond (.t 26) (.seq (.drw [2, 3, 4] (.c (.q 27 [] (.mv (.t 0))) (.c (.q 28 [] (.mv (.t 6))) (.c (.q 29 [] (.bin .add (.t 28) (.c (.int .i64 1)))) (.c (.q 30 [] (.bin .quo (.t 29) (.c (.int .i64 2)))) (.c (.q 31 [] (.ssl 1 (.t 27) none (some (.t 30)))) (.c (.q 33 [] (.mv (.t 0))) (.c (.q 34 [] (.mv (.t 6))) (.c (.q 35 [] (.mv (.t 6))) (.c (.q 36 [] (.mv (.t 5))) (.c (.q 37 [] (.bin .add (.t 36) (.c (.int .i64 1)))) (.c (.q 38 [] (.bin .quo (.t 37) (.c (.int .i64 2)))) (.c (.q 39 [] (.bin .add (.t 35) (.t 38))) (.c (.q 40 [] (.ssl 1 (.t 33) (some (.t 34)) (some (.t 39)))) (.c (.e (some 32) [] (.call false 78 [(.t 31)])) (.c (.e (some 41) [] (.call false 78 [(.t 40)])) (.c (.q 2 [] (.mv (.t 32))) (.c (.q 3 [] (.mv (.t 41))) (.c (.q 4 [] (.mv (.c (.bool true)))) .nil))))))))))))))))))) .ret) .skip)
def t36_2 := b36_2
theorem u36_2 : vcK P t36_2 k e w = vcK P b36_2 k e w := rfl
abbrev b36_3 : X := (.seq (.reg [0, 5, 6, 26] (.c (.q 17 [] (.mv (.t 0))) (.c (.q 18 [] (.mv (.t 6))) (.c (.q 19 [] (.ssl 1 (.t 17) none (some (.t 18)))) (.c (.e (some 20) [] (.call false 77 [(.t 19)])) (.c (.q 21 [] (.mv (.t 20))) (.c (.q 22 [(21, true)] (.mv (.t 0))) (.c (.q 23 [(21, true)] (.mv (.t 6))) (.c (.q 24 [(21, true)] (.ssl 1 (.t 22) (some (.t 23)) none)) (.c (.e (some 25) [(21, true)] (.call false 77 [(.t 24)])) (.c (.q 26 [] (.pick (.t 21) (.t 25) (.c (.bool false)))) .nil))))))))))) t36_2)
def t36_3 := b36_3
theorem u36_3 : vcK P t36_3 k e w = vcK P b36_3 k e w := rfl
abbrev b36_4 : X := (.reg [0, 5] (.c (.q 11 [] (.mv (.t 5))) (.c (.q 12 [] (.bin .add (.t 11) (.c (.int .i64 1)))) (.c (.q 5 [] (.mv (.t 12))) .nil))))
def t36_4 := b36_4
theorem u36_4 : vcK P t36_4 k e w = vcK P b36_4 k e w := rfl
abbrev b36_5 : X := (.seq (.blk 1 (.seq (.reg [0, 5, 6] (.c (.q 13 [] (.mv (.t 0))) (.c (.q 14 [] (.lens (.t 13))) (.c (.q 15 [] (.mv (.t 5))) (.c (.q 16 [] (.bin .sub (.t 14) (.t 15))) (.c (.q 6 [] (.mv (.t 16))) .nil)))))) t36_3)) t36_4)
def t36_5 := b36_5
theorem u36_5 : vcK P t36_5 k e w = vcK P b36_5 k e w := rfl
abbrev b36_6 : X := (.seq (.seq (.reg [0, 5, 10] (.c (.q 7 [] (.mv (.t 5))) (.c (.q 8 [] (.mv (.t 0))) (.c (.q 9 [] (.lens (.t 8))) (.c (.q 10 [] (.bin .lss (.t 7) (.t 9))) .nil))))) t36_1) t36_5)
def t36_6 := b36_6
theorem u36_6 : vcK P t36_6 k e w = vcK P b36_6 k e w := rfl
abbrev b36_7 : X := (.blk 0 (.loop [5] [0] t36_6))
def t36_7 := b36_7
theorem u36_7 : vcK P t36_7 k e w = vcK P b36_7 k e w := rfl
abbrev b36_8 : X := (.seq (.reg [2, 3, 4] (.c (.q 2 [] (.mv (.c (.slice none 0 0)))) (.c (.q 3 [] (.mv (.c (.slice none 0 0)))) (.c (.q 4 [] (.mv (.c (.bool false)))) .nil)))) .ret)
def t36_8 := b36_8
theorem u36_8 : vcK P t36_8 k e w = vcK P b36_8 k e w := rfl
abbrev b36_9 : X := (.seq (.seq (.reg [0, 5] (.c (.q 5 [] (.mv (.c (.int .i64 1)))) .nil)) t36_7) t36_8)
def t36_9 := b36_9
theorem u36_9 : vcK P t36_9 k e w = vcK P b36_9 k e w := rfl
abbrev b36_0 : X := (.seq (.reg [0] (.c (.q 2 [] (.mv (.c (.slice none 0 0)))) (.c (.q 3 [] (.mv (.c (.slice none 0 0)))) (.c (.q 4 [] (.mv (.c (.bool false)))) .nil)))) t36_9)
def x_sl3Halves := b36_0
theorem u36_0 : vcK P x_sl3Halves k e w = vcK P b36_0 k e w := rfl
def r_sl3Halves : List XO := [(.mv (.t 2)), (.mv (.t 3)), (.mv (.t 4))]
theorem c_sl3Halves : convF Try.prog [38, 39, 41, 42, 49, 54, 55, 57, 58, 59, 79, 81, 84, 87, 139] Try.f36 [([0], []), ([0, 5], []), ([5], [0]), ([0, 5, 10], []), ([0, 5, 6], []), ([0, 5, 6, 26], []), ([2, 3, 4], []), ([0, 5], []), ([2, 3, 4], [])] = some (x_sl3Halves, r_sl3Halves) := by kernel_rfl
def us_sl3Halves :=  (aI (aI (aI @u36_0 @u36_1) (aI @u36_2 (aI @u36_3 @u36_4))) (aI (aI @u36_5 @u36_6) (aI @u36_7 (aI @u36_8 @u36_9))))
abbrev b35_1 : X := (.cond (.t 16) (.seq (.reg [4] (.c (.q 4 [] (.mv (.c (.bool false)))) .nil)) .ret) .skip)
def t35_1 := b35_1
theorem u35_1 : vcK P t35_1 k e w = vcK P b35_1 k e w := rfl
abbrev b35_2 : X := (.seq (.reg [0, 1, 7, 8, 9, 16] (.c (.q 13 [] (.mv (.t 0))) (.c (.q 14 [] (.mv (.t 6))) (.c (.e (some 15) [] (.call false 76 [(.t 13), (.t 14)])) (.c (.q 16 [] (.not (.t 15))) .nil))))) t35_1)
def t35_2 := b35_2
theorem u35_2 : vcK P t35_2 k e w = vcK P b35_2 k e w := rfl
abbrev b35_3 : X := (.reg [0, 1, 7, 8, 9] (.c (.q 17 [] (.bin .add (.t 9) (.c (.int .i64 1)))) (.c (.q 9 [] (.mv (.t 17))) .nil)))
def t35_3 := b35_3
theorem u35_3 : vcK P t35_3 k e w = vcK P b35_3 k e w := rfl
abbrev b35_4 : X := (.seq (.blk 1 (.seq (.reg [0, 1, 6, 7, 8, 9] (.c (.q 11 [] (.ia 1 (.t 7) (.t 9))) (.c (.q 12 [] (.ld (.t 11))) (.c (.q 6 [] (.mv (.t 12))) .nil)))) t35_2)) t35_3)
def t35_4 := b35_4
theorem u35_4 : vcK P t35_4 k e w = vcK P b35_4 k e w := rfl
abbrev b35_5 : X := (.seq (.cond (.t 10) .skip (.exit 0)) t35_4)
def t35_5 := b35_5
theorem u35_5 : vcK P t35_5 k e w = vcK P b35_5 k e w := rfl
abbrev b35_6 : X := (.seq (.reg [0, 1, 7, 8, 9, 10] (.c (.q 10 [] (.bin .lss (.t 9) (.t 8))) .nil)) t35_5)
def t35_6 := b35_6
theorem u35_6 : vcK P t35_6 k e w = vcK P b35_6 k e w := rfl
abbrev b35_7 : X := (.blk 0 (.loop [9] [0, 1, 7, 8] t35_6))
def t35_7 := b35_7
theorem u35_7 : vcK P t35_7 k e w = vcK P b35_7 k e w := rfl
abbrev b35_8 : X := (.seq (.reg [4] (.c (.q 18 [] (.mv (.t 1))) (.c (.q 19 [] (.lens (.t 18))) (.c (.e (some 20) [] (.call false 45 [(.t 19), (.c (.int .i64 1)), (.c (.int .i64 40))])) (.c (.q 21 [] (.mv (.t 20))) (.c (.q 22 [(21, true)] (.mv (.t 0))) (.c (.e (some 23) [(21, true)] (.call false 45 [(.t 22), (.c (.int .i64 3)), (.c (.int .i64 8))])) (.c (.q 24 [] (.pick (.t 21) (.t 23) (.c (.bool false)))) (.c (.q 4 [] (.mv (.t 24))) .nil))))))))) .ret)
def t35_8 := b35_8
theorem u35_8 : vcK P t35_8 k e w = vcK P b35_8 k e w := rfl
abbrev b35_9 : X := (.seq (.seq (.reg [0, 1, 7, 8, 9] (.c (.q 7 [] (.mv (.t 1))) (.c (.q 8 [] (.lens (.t 7))) (.c (.q 9 [] (.mv (.c (.int .i64 0)))) .nil)))) t35_7) t35_8)
def t35_9 := b35_9
theorem u35_9 : vcK P t35_9 k e w = vcK P b35_9 k e w := rfl
abbrev b35_0 : X := (.seq (.reg [0, 1] (.c (.q 4 [] (.mv (.c (.bool false)))) .nil)) t35_9)
def x_sl3List := b35_0
theorem u35_0 : vcK P x_sl3List k e w = vcK P b35_0 k e w := rfl
def r_sl3List : List XO := [(.mv (.t 4))]
theorem c_sl3List : convF Try.prog [38, 39, 41, 42, 49, 54, 55, 57, 58, 59, 79, 81, 84, 87, 139] Try.f35 [([0, 1], []), ([0, 1, 7, 8, 9], []), ([9], [0, 1, 7, 8]), ([0, 1, 7, 8, 9, 10], []), ([0, 1, 6, 7, 8, 9], []), ([0, 1, 7, 8, 9, 16], []), ([4], []), ([0, 1, 7, 8, 9], []), ([4], [])] = some (x_sl3List, r_sl3List) := by kernel_rfl
def us_sl3List :=  (aI (aI (aI @u35_0 @u35_1) (aI @u35_2 (aI @u35_3 @u35_4))) (aI (aI @u35_5 @u35_6) (aI @u35_7 (aI @u35_8 @u35_9))))
abbrev b8_1 : X := (.cond (.t 10) (.seq (.reg [4, 5, 6] (.c (.q 4 [] (.mv (.c (.slice none 0 0)))) (.c (.q 5 [] (.mv (.c (.slice none 0 0)))) (.c (.q 6 [] (.mv (.c (.bool false)))) .nil)))) .ret) .skip)
def t8_1 := b8_1
theorem u8_1 : vcK P t8_1 k e w = vcK P b8_1 k e w := rfl
abbrev b8_2 : X := (.seq (.reg [4, 5, 6] (.c (.q 11 [] (.mv (.t 1))) (.c (.e (some 12) [] (.call false 34 [(.t 11)])) (.c (.q 13 [] (.ext 0 (.t 12))) (.c (.q 14 [] (.ext 1 (.t 12))) (.c (.q 15 [] (.ext 2 (.t 12))) (.c (.q 4 [] (.mv (.t 13))) (.c (.q 5 [] (.mv (.t 14))) (.c (.q 6 [] (.mv (.t 15))) .nil))))))))) .ret)
def t8_2 := b8_2
theorem u8_2 : vcK P t8_2 k e w = vcK P b8_2 k e w := rfl
abbrev b8_3 : X := (.seq (.seq (.reg [1, 10] (.c (.q 7 [] (.mv (.t 0))) (.c (.q 8 [] (.mv (.t 1))) (.c (.e (some 9) [] (.call false 33 [(.t 7), (.t 8)])) (.c (.q 10 [] (.not (.t 9))) .nil))))) t8_1) t8_2)
def t8_3 := b8_3
theorem u8_3 : vcK P t8_3 k e w = vcK P b8_3 k e w := rfl
abbrev b8_0 : X := (.seq (.reg [0, 1] (.c (.q 4 [] (.mv (.c (.slice none 0 0)))) (.c (.q 5 [] (.mv (.c (.slice none 0 0)))) (.c (.q 6 [] (.mv (.c (.bool false)))) .nil)))) t8_3)
def x_iHalvesOf := b8_0
theorem u8_0 : vcK P x_iHalvesOf k e w = vcK P b8_0 k e w := rfl
def r_iHalvesOf : List XO := [(.mv (.t 4)), (.mv (.t 5)), (.mv (.t 6))]
theorem c_iHalvesOf : convF Try.prog [38, 39, 41, 42, 49, 54, 55, 57, 58, 59, 79, 81, 84, 87, 139] Try.f8 [([0, 1], []), ([1, 10], []), ([4, 5, 6], []), ([4, 5, 6], [])] = some (x_iHalvesOf, r_iHalvesOf) := by kernel_rfl
def us_iHalvesOf :=  (aI (aI @u8_0 @u8_1) (aI @u8_2 @u8_3))
abbrev b9_1 : X := (.cond (.t 10) (.seq (.reg [4, 5, 6] (.c (.q 4 [] (.mv (.c (.slice none 0 0)))) (.c (.q 5 [] (.mv (.c (.slice none 0 0)))) (.c (.q 6 [] (.mv (.c (.bool false)))) .nil)))) .ret) .skip)
def t9_1 := b9_1
theorem u9_1 : vcK P t9_1 k e w = vcK P b9_1 k e w := rfl
abbrev b9_2 : X := (.seq (.reg [4, 5, 6] (.c (.q 11 [] (.mv (.t 1))) (.c (.e (some 12) [] (.call false 36 [(.t 11)])) (.c (.q 13 [] (.ext 0 (.t 12))) (.c (.q 14 [] (.ext 1 (.t 12))) (.c (.q 15 [] (.ext 2 (.t 12))) (.c (.q 4 [] (.mv (.t 13))) (.c (.q 5 [] (.mv (.t 14))) (.c (.q 6 [] (.mv (.t 15))) .nil))))))))) .ret)
def t9_2 := b9_2
theorem u9_2 : vcK P t9_2 k e w = vcK P b9_2 k e w := rfl
abbrev b9_3 : X := (.seq (.seq (.reg [1, 10] (.c (.q 7 [] (.mv (.t 0))) (.c (.q 8 [] (.mv (.t 1))) (.c (.e (some 9) [] (.call false 35 [(.t 7), (.t 8)])) (.c (.q 10 [] (.not (.t 9))) .nil))))) t9_1) t9_2)
def t9_3 := b9_3
theorem u9_3 : vcK P t9_3 k e w = vcK P b9_3 k e w := rfl
abbrev b9_0 : X := (.seq (.reg [0, 1] (.c (.q 4 [] (.mv (.c (.slice none 0 0)))) (.c (.q 5 [] (.mv (.c (.slice none 0 0)))) (.c (.q 6 [] (.mv (.c (.bool false)))) .nil)))) t9_3)
def x_sHalvesOf := b9_0
theorem u9_0 : vcK P x_sHalvesOf k e w = vcK P b9_0 k e w := rfl
def r_sHalvesOf : List XO := [(.mv (.t 4)), (.mv (.t 5)), (.mv (.t 6))]
theorem c_sHalvesOf : convF Try.prog [38, 39, 41, 42, 49, 54, 55, 57, 58, 59, 79, 81, 84, 87, 139] Try.f9 [([0, 1], []), ([1, 10], []), ([4, 5, 6], []), ([4, 5, 6], [])] = some (x_sHalvesOf, r_sHalvesOf) := by kernel_rfl
def us_sHalvesOf :=  (aI (aI @u9_0 @u9_1) (aI @u9_2 @u9_3))
abbrev b50_1 : X := (.cond (.t 26) (.reg [0, 3, 5, 6, 7, 8] (.c (.q 27 [] (.mv (.t 3))) (.c (.q 28 [] (.bin .add (.t 27) (.s [46]))) (.c (.q 3 [] (.mv (.t 28))) .nil)))) .skip)
def t50_1 := b50_1
theorem u50_1 : vcK P t50_1 k e w = vcK P b50_1 k e w := rfl
abbrev b50_2 : X := (.reg [0, 3, 6, 7, 8] (.c (.q 29 [] (.mv (.t 3))) (.c (.q 30 [] (.mv (.t 5))) (.c (.q 31 [] (.bin .add (.t 29) (.t 30))) (.c (.q 3 [] (.mv (.t 31))) .nil)))))
def t50_2 := b50_2
theorem u50_2 : vcK P t50_2 k e w = vcK P b50_2 k e w := rfl
abbrev b50_3 : X := (.seq (.seq (.reg [0, 3, 5, 6, 7, 8, 26] (.c (.q 13 [] (.mv (.t 4))) (.c (.q 14 [] (.bin .gtr (.t 13) (.c (.int .i64 0)))) (.c (.q 15 [] (.mv (.t 14))) (.c (.q 16 [(15, true)] (.mv (.t 5))) (.c (.q 17 [(15, true)] (.bin .neq (.t 16) (.s [45]))) (.c (.q 18 [] (.pick (.t 15) (.t 17) (.c (.bool false)))) (.c (.q 19 [] (.mv (.t 18))) (.c (.q 20 [(19, true)] (.mv (.t 0))) (.c (.q 21 [(19, true)] (.mv (.t 4))) (.c (.q 22 [(19, true)] (.bin .sub (.t 21) (.c (.int .i64 1)))) (.c (.q 23 [(19, true)] (.ia 1 (.t 20) (.t 22))) (.c (.q 24 [(19, true)] (.ld (.t 23))) (.c (.q 25 [(19, true)] (.bin .neq (.t 24) (.s [45]))) (.c (.q 26 [] (.pick (.t 19) (.t 25) (.c (.bool false)))) .nil))))))))))))))) t50_1) t50_2)
def t50_3 := b50_3
theorem u50_3 : vcK P t50_3 k e w = vcK P b50_3 k e w := rfl
abbrev b50_4 : X := (.reg [0, 3, 6, 7, 8] (.c (.q 32 [] (.bin .add (.t 8) (.c (.int .i64 1)))) (.c (.q 8 [] (.mv (.t 32))) .nil)))
def t50_4 := b50_4
theorem u50_4 : vcK P t50_4 k e w = vcK P b50_4 k e w := rfl
abbrev b50_5 : X := (.seq (.blk 1 (.seq (.reg [0, 3, 4, 5, 6, 7, 8] (.c (.q 10 [] (.mv (.t 8))) (.c (.q 11 [] (.ia 1 (.t 6) (.t 8))) (.c (.q 12 [] (.ld (.t 11))) (.c (.q 4 [] (.mv (.t 10))) (.c (.q 5 [] (.mv (.t 12))) .nil)))))) t50_3)) t50_4)
def t50_5 := b50_5
theorem u50_5 : vcK P t50_5 k e w = vcK P b50_5 k e w := rfl
abbrev b50_6 : X := (.seq (.cond (.t 9) .skip (.exit 0)) t50_5)
def t50_6 := b50_6
theorem u50_6 : vcK P t50_6 k e w = vcK P b50_6 k e w := rfl
abbrev b50_7 : X := (.seq (.reg [0, 3, 6, 7, 8, 9] (.c (.q 9 [] (.bin .lss (.t 8) (.t 7))) .nil)) t50_6)
def t50_7 := b50_7
theorem u50_7 : vcK P t50_7 k e w = vcK P b50_7 k e w := rfl
abbrev b50_8 : X := (.blk 0 (.loop [3, 8] [0, 6, 7] t50_7))
def t50_8 := b50_8
theorem u50_8 : vcK P t50_8 k e w = vcK P b50_8 k e w := rfl
abbrev b50_9 : X := (.seq (.reg [2] (.c (.q 33 [] (.mv (.t 3))) (.c (.q 2 [] (.mv (.t 33))) .nil))) .ret)
def t50_9 := b50_9
theorem u50_9 : vcK P t50_9 k e w = vcK P b50_9 k e w := rfl
abbrev b50_10 : X := (.seq (.seq (.reg [0, 3, 6, 7, 8] (.c (.q 6 [] (.mv (.t 0))) (.c (.q 7 [] (.lens (.t 6))) (.c (.q 8 [] (.mv (.c (.int .i64 0)))) .nil)))) t50_8) t50_9)
def t50_10 := b50_10
theorem u50_10 : vcK P t50_10 k e w = vcK P b50_10 k e w := rfl
abbrev b50_11 : X := (.seq (.reg [0, 3] (.c (.q 3 [] (.mv (.s []))) .nil)) t50_10)
def t50_11 := b50_11
theorem u50_11 : vcK P t50_11 k e w = vcK P b50_11 k e w := rfl
abbrev b50_0 : X := (.seq (.reg [0] (.c (.q 2 [] (.mv (.s []))) .nil)) t50_11)
def x_inotationText := b50_0
theorem u50_0 : vcK P x_inotationText k e w = vcK P b50_0 k e w := rfl
def r_inotationText : List XO := [(.mv (.t 2))]
theorem c_inotationText : convF Try.prog [38, 39, 41, 42, 49, 54, 55, 57, 58, 59, 79, 81, 84, 87, 139] Try.f50 [([0], []), ([0, 3], []), ([0, 3, 6, 7, 8], []), ([3, 8], [0, 6, 7]), ([0, 3, 6, 7, 8, 9], []), ([0, 3, 4, 5, 6, 7, 8], []), ([0, 3, 5, 6, 7, 8, 26], []), ([0, 3, 5, 6, 7, 8], []), ([0, 3, 6, 7, 8], []), ([0, 3, 6, 7, 8], []), ([2], [])] = some (x_inotationText, r_inotationText) := by kernel_rfl
def us_inotationText :=  (aI (aI (aI @u50_0 (aI @u50_1 @u50_2)) (aI @u50_3 (aI @u50_4 @u50_5))) (aI (aI @u50_6 (aI @u50_7 @u50_8)) (aI @u50_9 (aI @u50_10 @u50_11))))
abbrev b51_1 : X := (.cond (.t 26) (.reg [0, 3, 5, 6, 7, 8] (.c (.q 27 [] (.mv (.t 3))) (.c (.q 28 [] (.bin .add (.t 27) (.s [46]))) (.c (.q 3 [] (.mv (.t 28))) .nil)))) .skip)
def t51_1 := b51_1
theorem u51_1 : vcK P t51_1 k e w = vcK P b51_1 k e w := rfl
abbrev b51_2 : X := (.reg [0, 3, 6, 7, 8] (.c (.q 29 [] (.mv (.t 3))) (.c (.q 30 [] (.mv (.t 5))) (.c (.q 31 [] (.bin .add (.t 29) (.t 30))) (.c (.q 3 [] (.mv (.t 31))) .nil)))))
def t51_2 := b51_2
theorem u51_2 : vcK P t51_2 k e w = vcK P b51_2 k e w := rfl
abbrev b51_3 : X := (.seq (.seq (.reg [0, 3, 5, 6, 7, 8, 26] (.c (.q 13 [] (.mv (.t 4))) (.c (.q 14 [] (.bin .gtr (.t 13) (.c (.int .i64 0)))) (.c (.q 15 [] (.mv (.t 14))) (.c (.q 16 [(15, true)] (.mv (.t 5))) (.c (.q 17 [(15, true)] (.bin .neq (.t 16) (.s [45]))) (.c (.q 18 [] (.pick (.t 15) (.t 17) (.c (.bool false)))) (.c (.q 19 [] (.mv (.t 18))) (.c (.q 20 [(19, true)] (.mv (.t 0))) (.c (.q 21 [(19, true)] (.mv (.t 4))) (.c (.q 22 [(19, true)] (.bin .sub (.t 21) (.c (.int .i64 1)))) (.c (.q 23 [(19, true)] (.ia 1 (.t 20) (.t 22))) (.c (.q 24 [(19, true)] (.ld (.t 23))) (.c (.q 25 [(19, true)] (.bin .neq (.t 24) (.s [45]))) (.c (.q 26 [] (.pick (.t 19) (.t 25) (.c (.bool false)))) .nil))))))))))))))) t51_1) t51_2)
def t51_3 := b51_3
theorem u51_3 : vcK P t51_3 k e w = vcK P b51_3 k e w := rfl
abbrev b51_4 : X := (.reg [0, 3, 6, 7, 8] (.c (.q 32 [] (.bin .add (.t 8) (.c (.int .i64 1)))) (.c (.q 8 [] (.mv (.t 32))) .nil)))
def t51_4 := b51_4
theorem u51_4 : vcK P t51_4 k e w = vcK P b51_4 k e w := rfl
abbrev b51_5 : X := (.seq (.blk 1 (.seq (.reg [0, 3, 4, 5, 6, 7, 8] (.c (.q 10 [] (.mv (.t 8))) (.c (.q 11 [] (.ia 1 (.t 6) (.t 8))) (.c (.q 12 [] (.ld (.t 11))) (.c (.q 4 [] (.mv (.t 10))) (.c (.q 5 [] (.mv (.t 12))) .nil)))))) t51_3)) t51_4)
def t51_5 := b51_5
theorem u51_5 : vcK P t51_5 k e w = vcK P b51_5 k e w := rfl
abbrev b51_6 : X := (.seq (.cond (.t 9) .skip (.exit 0)) t51_5)
def t51_6 := b51_6
theorem u51_6 : vcK P t51_6 k e w = vcK P b51_6 k e w := rfl
abbrev b51_7 : X := (.seq (.reg [0, 3, 6, 7, 8, 9] (.c (.q 9 [] (.bin .lss (.t 8) (.t 7))) .nil)) t51_6)
def t51_7 := b51_7
theorem u51_7 : vcK P t51_7 k e w = vcK P b51_7 k e w := rfl
abbrev b51_8 : X := (.blk 0 (.loop [3, 8] [0, 6, 7] t51_7))
def t51_8 := b51_8
theorem u51_8 : vcK P t51_8 k e w = vcK P b51_8 k e w := rfl
abbrev b51_9 : X := (.seq (.reg [2] (.c (.q 33 [] (.mv (.t 3))) (.c (.q 2 [] (.mv (.t 33))) .nil))) .ret)
def t51_9 := b51_9
theorem u51_9 : vcK P t51_9 k e w = vcK P b51_9 k e w := rfl
abbrev b51_10 : X := (.seq (.seq (.reg [0, 3, 6, 7, 8] (.c (.q 6 [] (.mv (.t 0))) (.c (.q 7 [] (.lens (.t 6))) (.c (.q 8 [] (.mv (.c (.int .i64 0)))) .nil)))) t51_8) t51_9)
def t51_10 := b51_10
theorem u51_10 : vcK P t51_10 k e w = vcK P b51_10 k e w := rfl
abbrev b51_11 : X := (.seq (.reg [0, 3] (.c (.q 3 [] (.mv (.s []))) .nil)) t51_10)
def t51_11 := b51_11
theorem u51_11 : vcK P t51_11 k e w = vcK P b51_11 k e w := rfl
abbrev b51_0 : X := (.seq (.reg [0] (.c (.q 2 [] (.mv (.s []))) .nil)) t51_11)
def x_sl3Text := b51_0
theorem u51_0 : vcK P x_sl3Text k e w = vcK P b51_0 k e w := rfl
def r_sl3Text : List XO := [(.mv (.t 2))]
theorem c_sl3Text : convF Try.prog [38, 39, 41, 42, 49, 54, 55, 57, 58, 59, 79, 81, 84, 87, 139] Try.f51 [([0], []), ([0, 3], []), ([0, 3, 6, 7, 8], []), ([3, 8], [0, 6, 7]), ([0, 3, 6, 7, 8, 9], []), ([0, 3, 4, 5, 6, 7, 8], []), ([0, 3, 5, 6, 7, 8, 26], []), ([0, 3, 5, 6, 7, 8], []), ([0, 3, 6, 7, 8], []), ([0, 3, 6, 7, 8], []), ([2], [])] = some (x_sl3Text, r_sl3Text) := by kernel_rfl
def us_sl3Text :=  (aI (aI (aI @u51_0 (aI @u51_1 @u51_2)) (aI @u51_3 (aI @u51_4 @u51_5))) (aI (aI @u51_6 (aI @u51_7 @u51_8)) (aI @u51_9 (aI @u51_10 @u51_11))))
abbrev b22_1 : X := (.cond (.t 9) (.seq (.reg [4, 5] (.c (.q 4 [] (.mv (.s []))) (.c (.q 5 [] (.mv (.c (.bool false)))) .nil))) .ret) .skip)
def t22_1 := b22_1
theorem u22_1 : vcK P t22_1 k e w = vcK P b22_1 k e w := rfl
abbrev b22_2 : X := (.seq (.reg [4, 5] (.c (.q 10 [] (.mv (.t 1))) (.c (.e (some 11) [] (.call false 50 [(.t 10)])) (.c (.q 4 [] (.mv (.t 11))) (.c (.q 5 [] (.mv (.c (.bool true)))) .nil))))) .ret)
def t22_2 := b22_2
theorem u22_2 : vcK P t22_2 k e w = vcK P b22_2 k e w := rfl
abbrev b22_3 : X := (.seq (.seq (.reg [1, 9] (.c (.q 6 [] (.mv (.t 0))) (.c (.q 7 [] (.mv (.t 1))) (.c (.e (some 8) [] (.call false 33 [(.t 6), (.t 7)])) (.c (.q 9 [] (.not (.t 8))) .nil))))) t22_1) t22_2)
def t22_3 := b22_3
theorem u22_3 : vcK P t22_3 k e w = vcK P b22_3 k e w := rfl
abbrev b22_0 : X := (.seq (.reg [0, 1] (.c (.q 4 [] (.mv (.s []))) (.c (.q 5 [] (.mv (.c (.bool false)))) .nil))) t22_3)
def x_iNotationText := b22_0
theorem u22_0 : vcK P x_iNotationText k e w = vcK P b22_0 k e w := rfl
def r_iNotationText : List XO := [(.mv (.t 4)), (.mv (.t 5))]
theorem c_iNotationText : convF Try.prog [38, 39, 41, 42, 49, 54, 55, 57, 58, 59, 79, 81, 84, 87, 139] Try.f22 [([0, 1], []), ([1, 9], []), ([4, 5], []), ([4, 5], [])] = some (x_iNotationText, r_iNotationText) := by kernel_rfl
def us_iNotationText :=  (aI (aI @u22_0 @u22_1) (aI @u22_2 @u22_3))
abbrev b23_1 : X := (.cond (.t 9) (.seq (.reg [4, 5] (.c (.q 4 [] (.mv (.s []))) (.c (.q 5 [] (.mv (.c (.bool false)))) .nil))) .ret) .skip)
def t23_1 := b23_1
theorem u23_1 : vcK P t23_1 k e w = vcK P b23_1 k e w := rfl
abbrev b23_2 : X := (.seq (.reg [4, 5] (.c (.q 10 [] (.mv (.t 1))) (.c (.e (some 11) [] (.call false 51 [(.t 10)])) (.c (.q 4 [] (.mv (.t 11))) (.c (.q 5 [] (.mv (.c (.bool true)))) .nil))))) .ret)
def t23_2 := b23_2
theorem u23_2 : vcK P t23_2 k e w = vcK P b23_2 k e w := rfl
abbrev b23_3 : X := (.seq (.seq (.reg [1, 9] (.c (.q 6 [] (.mv (.t 0))) (.c (.q 7 [] (.mv (.t 1))) (.c (.e (some 8) [] (.call false 35 [(.t 6), (.t 7)])) (.c (.q 9 [] (.not (.t 8))) .nil))))) t23_1) t23_2)
def t23_3 := b23_3
theorem u23_3 : vcK P t23_3 k e w = vcK P b23_3 k e w := rfl
abbrev b23_0 : X := (.seq (.reg [0, 1] (.c (.q 4 [] (.mv (.s []))) (.c (.q 5 [] (.mv (.c (.bool false)))) .nil))) t23_3)
def x_sNotationText := b23_0
theorem u23_0 : vcK P x_sNotationText k e w = vcK P b23_0 k e w := rfl
def r_sNotationText : List XO := [(.mv (.t 4)), (.mv (.t 5))]
theorem c_sNotationText : convF Try.prog [38, 39, 41, 42, 49, 54, 55, 57, 58, 59, 79, 81, 84, 87, 139] Try.f23 [([0, 1], []), ([1, 9], []), ([4, 5], []), ([4, 5], [])] = some (x_sNotationText, r_sNotationText) := by kernel_rfl
def us_sNotationText :=  (aI (aI @u23_0 @u23_1) (aI @u23_2 @u23_3))
abbrev b52_1 : X := (.cond (.t 27) (.seq (.reg [2] (.c (.q 28 [] (.mv (.t 7))) (.c (.q 2 [] (.mv (.t 28))) .nil))) .ret) .skip)
def t52_1 := b52_1
theorem u52_1 : vcK P t52_1 k e w = vcK P b52_1 k e w := rfl
abbrev b52_2 : X := (.seq (.reg [3, 7, 27] (.c (.q 23 [] (.mv (.t 7))) (.c (.q 24 [] (.len (.t 23))) (.c (.q 25 [] (.mv (.t 3))) (.c (.q 26 [] (.len (.t 25))) (.c (.q 27 [] (.bin .lss (.t 24) (.t 26))) .nil)))))) t52_1)
def t52_2 := b52_2
theorem u52_2 : vcK P t52_2 k e w = vcK P b52_2 k e w := rfl
abbrev b52_3 : X := (.cond (.t 16) (.seq (.reg [3, 7] (.c (.q 17 [] (.mv (.t 4))) (.c (.e (some 18) [] (.call false 50 [(.t 17)])) (.c (.q 19 [] (.bin .add (.t 18) (.s [44]))) (.c (.q 20 [] (.mv (.t 5))) (.c (.e (some 21) [] (.call false 50 [(.t 20)])) (.c (.q 22 [] (.bin .add (.t 19) (.t 21))) (.c (.q 7 [] (.mv (.t 22))) .nil)))))))) t52_2) .skip)
def t52_3 := b52_3
theorem u52_3 : vcK P t52_3 k e w = vcK P b52_3 k e w := rfl
abbrev b52_4 : X := (.seq (.reg [2] (.c (.q 29 [] (.mv (.t 3))) (.c (.q 2 [] (.mv (.t 29))) .nil))) .ret)
def t52_4 := b52_4
theorem u52_4 : vcK P t52_4 k e w = vcK P b52_4 k e w := rfl
abbrev b52_5 : X := (.seq (.seq (.reg [3, 4, 5, 16] (.c (.q 16 [] (.mv (.t 6))) .nil)) t52_3) t52_4)
def t52_5 := b52_5
theorem u52_5 : vcK P t52_5 k e w = vcK P b52_5 k e w := rfl
abbrev b52_6 : X := (.seq (.reg [3, 4, 5, 6] (.c (.q 11 [] (.mv (.t 0))) (.c (.e (some 12) [] (.call false 34 [(.t 11)])) (.c (.q 10 [] (.mv (.t 12))) (.c (.q 13 [] (.ext 0 (.t 10))) (.c (.q 14 [] (.ext 1 (.t 10))) (.c (.q 15 [] (.ext 2 (.t 10))) (.c (.q 4 [] (.mv (.t 13))) (.c (.q 5 [] (.mv (.t 14))) (.c (.q 6 [] (.mv (.t 15))) .nil)))))))))) t52_5)
def t52_6 := b52_6
theorem u52_6 : vcK P t52_6 k e w = vcK P b52_6 k e w := rfl
abbrev b52_7 : X := (.seq (.reg [0, 3] (.c (.q 8 [] (.mv (.t 0))) (.c (.e (some 9) [] (.call false 50 [(.t 8)])) (.c (.q 3 [] (.mv (.t 9))) .nil)))) t52_6)
def t52_7 := b52_7
theorem u52_7 : vcK P t52_7 k e w = vcK P b52_7 k e w := rfl
abbrev b52_0 : X := (.seq (.reg [0] (.c (.q 2 [] (.mv (.s []))) .nil)) t52_7)
def x_ishortNotation := b52_0
theorem u52_0 : vcK P x_ishortNotation k e w = vcK P b52_0 k e w := rfl
def r_ishortNotation : List XO := [(.mv (.t 2))]
theorem c_ishortNotation : convF Try.prog [38, 39, 41, 42, 49, 54, 55, 57, 58, 59, 79, 81, 84, 87, 139] Try.f52 [([0], []), ([0, 3], []), ([3, 4, 5, 6], []), ([3, 4, 5, 16], []), ([3, 7], []), ([3, 7, 27], []), ([2], []), ([2], [])] = some (x_ishortNotation, r_ishortNotation) := by kernel_rfl
def us_ishortNotation :=  (aI (aI (aI @u52_0 @u52_1) (aI @u52_2 @u52_3)) (aI (aI @u52_4 @u52_5) (aI @u52_6 @u52_7)))
abbrev b24_1 : X := (.cond (.t 9) (.seq (.reg [4, 5] (.c (.q 4 [] (.mv (.s []))) (.c (.q 5 [] (.mv (.c (.bool false)))) .nil))) .ret) .skip)
def t24_1 := b24_1
theorem u24_1 : vcK P t24_1 k e w = vcK P b24_1 k e w := rfl
abbrev b24_2 : X := (.seq (.reg [4, 5] (.c (.q 10 [] (.mv (.t 1))) (.c (.e (some 11) [] (.call false 52 [(.t 10)])) (.c (.q 4 [] (.mv (.t 11))) (.c (.q 5 [] (.mv (.c (.bool true)))) .nil))))) .ret)
def t24_2 := b24_2
theorem u24_2 : vcK P t24_2 k e w = vcK P b24_2 k e w := rfl
abbrev b24_3 : X := (.seq (.seq (.reg [1, 9] (.c (.q 6 [] (.mv (.t 0))) (.c (.q 7 [] (.mv (.t 1))) (.c (.e (some 8) [] (.call false 33 [(.t 6), (.t 7)])) (.c (.q 9 [] (.not (.t 8))) .nil))))) t24_1) t24_2)
def t24_3 := b24_3
theorem u24_3 : vcK P t24_3 k e w = vcK P b24_3 k e w := rfl
abbrev b24_0 : X := (.seq (.reg [0, 1] (.c (.q 4 [] (.mv (.s []))) (.c (.q 5 [] (.mv (.c (.bool false)))) .nil))) t24_3)
def x_iShortNotation := b24_0
theorem u24_0 : vcK P x_iShortNotation k e w = vcK P b24_0 k e w := rfl
def r_iShortNotation : List XO := [(.mv (.t 4)), (.mv (.t 5))]
theorem c_iShortNotation : convF Try.prog [38, 39, 41, 42, 49, 54, 55, 57, 58, 59, 79, 81, 84, 87, 139] Try.f24 [([0, 1], []), ([1, 9], []), ([4, 5], []), ([4, 5], [])] = some (x_iShortNotation, r_iShortNotation) := by kernel_rfl
def us_iShortNotation :=  (aI (aI @u24_0 @u24_1) (aI @u24_2 @u24_3))
abbrev b25_1 : X := (.cond (.t 13) (.seq (.reg [4, 5] (.c (.q 4 [] (.mv (.s []))) (.c (.q 5 [] (.mv (.c (.bool false)))) .nil))) .ret) .skip)
def t25_1 := b25_1
theorem u25_1 : vcK P t25_1 k e w = vcK P b25_1 k e w := rfl
abbrev b25_2 : X := (.cond (.t 34) (.seq (.reg [4, 5] (.c (.q 35 [] (.mv (.t 9))) (.c (.q 4 [] (.mv (.t 35))) (.c (.q 5 [] (.mv (.c (.bool true)))) .nil)))) .ret) .skip)
def t25_2 := b25_2
theorem u25_2 : vcK P t25_2 k e w = vcK P b25_2 k e w := rfl
abbrev b25_3 : X := (.seq (.reg [1, 9, 34] (.c (.q 26 [] (.mv (.t 8))) (.c (.q 27 [] (.mv (.t 26))) (.c (.q 28 [(27, true)] (.mv (.t 9))) (.c (.q 29 [(27, true)] (.len (.t 28))) (.c (.q 30 [(27, true)] (.mv (.t 1))) (.c (.e (some 31) [(27, true)] (.call false 51 [(.t 30)])) (.c (.q 32 [(27, true)] (.len (.t 31))) (.c (.q 33 [(27, true)] (.bin .lss (.t 29) (.t 32))) (.c (.q 34 [] (.pick (.t 27) (.t 33) (.c (.bool false)))) .nil)))))))))) t25_2)
def t25_3 := b25_3
theorem u25_3 : vcK P t25_3 k e w = vcK P b25_3 k e w := rfl
abbrev b25_4 : X := (.seq (.reg [4, 5] (.c (.q 36 [] (.mv (.t 1))) (.c (.e (some 37) [] (.call false 51 [(.t 36)])) (.c (.q 4 [] (.mv (.t 37))) (.c (.q 5 [] (.mv (.c (.bool true)))) .nil))))) .ret)
def t25_4 := b25_4
theorem u25_4 : vcK P t25_4 k e w = vcK P b25_4 k e w := rfl
abbrev b25_5 : X := (.seq (.seq (.reg [1, 8, 9] (.c (.q 20 [] (.mv (.t 6))) (.c (.e (some 21) [] (.call false 51 [(.t 20)])) (.c (.q 22 [] (.bin .add (.t 21) (.s [44]))) (.c (.q 23 [] (.mv (.t 7))) (.c (.e (some 24) [] (.call false 51 [(.t 23)])) (.c (.q 25 [] (.bin .add (.t 22) (.t 24))) (.c (.q 9 [] (.mv (.t 25))) .nil)))))))) t25_3) t25_4)
def t25_5 := b25_5
theorem u25_5 : vcK P t25_5 k e w = vcK P b25_5 k e w := rfl
abbrev b25_6 : X := (.seq (.reg [1, 6, 7, 8] (.c (.q 15 [] (.mv (.t 1))) (.c (.e (some 16) [] (.call false 36 [(.t 15)])) (.c (.q 14 [] (.mv (.t 16))) (.c (.q 17 [] (.ext 0 (.t 14))) (.c (.q 18 [] (.ext 1 (.t 14))) (.c (.q 19 [] (.ext 2 (.t 14))) (.c (.q 6 [] (.mv (.t 17))) (.c (.q 7 [] (.mv (.t 18))) (.c (.q 8 [] (.mv (.t 19))) .nil)))))))))) t25_5)
def t25_6 := b25_6
theorem u25_6 : vcK P t25_6 k e w = vcK P b25_6 k e w := rfl
abbrev b25_7 : X := (.seq (.seq (.reg [1, 13] (.c (.q 10 [] (.mv (.t 0))) (.c (.q 11 [] (.mv (.t 1))) (.c (.e (some 12) [] (.call false 35 [(.t 10), (.t 11)])) (.c (.q 13 [] (.not (.t 12))) .nil))))) t25_1) t25_6)
def t25_7 := b25_7
theorem u25_7 : vcK P t25_7 k e w = vcK P b25_7 k e w := rfl
abbrev b25_0 : X := (.seq (.reg [0, 1] (.c (.q 4 [] (.mv (.s []))) (.c (.q 5 [] (.mv (.c (.bool false)))) .nil))) t25_7)
def x_sShortNotation := b25_0
theorem u25_0 : vcK P x_sShortNotation k e w = vcK P b25_0 k e w := rfl
def r_sShortNotation : List XO := [(.mv (.t 4)), (.mv (.t 5))]
theorem c_sShortNotation : convF Try.prog [38, 39, 41, 42, 49, 54, 55, 57, 58, 59, 79, 81, 84, 87, 139] Try.f25 [([0, 1], []), ([1, 13], []), ([4, 5], []), ([1, 6, 7, 8], []), ([1, 8, 9], []), ([1, 9, 34], []), ([4, 5], []), ([4, 5], [])] = some (x_sShortNotation, r_sShortNotation) := by kernel_rfl
def us_sShortNotation :=  (aI (aI (aI @u25_0 @u25_1) (aI @u25_2 @u25_3)) (aI (aI @u25_4 @u25_5) (aI @u25_6 @u25_7)))
end

theorem tidyF_at {n : Nat} : ∀ {l : List Bs} {k : Nat}, k < l.length → (∀ j < k, ¬ IsChange n (l.getD j [])) → IsChange n (l.getD k []) → tidyF n l = l.getD k []
  | [], k, hk, _, _ => by simp at hk
  | c :: l, 0, _, _, h => if_pos h
  | c :: l, k + 1, hk, hno, h => (if_neg (hno 0 (by omega))).trans (tidyF_at (by simpa using hk) (fun j hj => hno (j + 1) (by omega)) h)
theorem tidyF_none {n : Nat} : ∀ {l : List Bs}, (∀ j < l.length, ¬ IsChange n (l.getD j [])) → tidyF n l = []
  | [], _ => rfl
  | c :: l, hno => (if_neg (hno 0 (by simp))).trans (tidyF_none fun j hj => hno (j + 1) (by simp; omega))
theorem candL_small (n : Nat) (s : Bs) (hs : s.length ≤ 1000) : ∀ c ∈ candL n s, c.length ≤ 1048576 := by
  have ht : (tidy1 s).length ≤ 1001 := by
    unfold tidy1; split
    · simp
    · omega
  intro c hc
  unfold candL at hc
  simp only [List.mem_cons, List.not_mem_nil, or_false] at hc
  rcases hc with rfl | rfl | rfl | rfl
  · omega
  · rw [List.length_append, List.length_singleton]; omega
  · rw [List.length_cons]; omega
  · rw [List.length_cons, List.length_append, List.length_singleton]; omega
/-- A tidied change with the word whether there is one. -/
def TdOk (n : Int) (s : Bs) : Prop := (3 ≤ n ∧ n ≤ 8) ∧ tidyL n.toNat s ≠ []
instance (n : Int) (s : Bs) : Decidable (TdOk n s) := by unfold TdOk; infer_instance
def tdV (n : Int) (s : Bs) : Value := .tuple ⟨[S (if TdOk n s then tidyL n.toNat s else []), .bool (decide (TdOk n s))]⟩
theorem tdV_no {n : Int} {s : Bs} (h : ¬ TdOk n s) : tdV n s = .tuple ⟨[S [], .bool false]⟩ := by rw [tdV, if_neg h, decide_eq_false h]
theorem tdV_yes {n : Nat} {s c : Bs} (hn : 3 ≤ (n : Int) ∧ (n : Int) ≤ 8) (h : tidyL n s ≠ []) (hc : tidyL n s = c) : tdV n s = .tuple ⟨[S c, .bool true]⟩ := by
  have hok : TdOk n s := ⟨hn, h⟩
  rw [tdV, if_pos hok, decide_eq_true hok, Int.toNat_natCast, hc]
theorem last_round (n : Nat) (h : 3 ≤ n ∧ n ≤ 8) : ((roundsL n).take n).drop (n - 1) = [UInt8.ofNat (48 + n)] := by
  have : ∀ n < 9, 3 ≤ n → ((roundsL n).take n).drop (n - 1) = [UInt8.ofNat (48 + n)] := by decide
  exact this n (by omega) h.1
theorem sl3Tidy_ok (n : Nat) (s : Bs) (hn : 3 ≤ n ∧ n ≤ 8) (hs : s.length ≤ 1000) (w : World) : Fn 46 [.int .i64 n, S s] w (fun r _ => r = S (tidyL n s)) := by
  (refine callsV_of mix Try.func46 c_sl3Tidy ?_; simp only [↓vsd, vsn, gW, qd, qv, ev, pick, argE, zipE, ne_eq, eq_self, forall_const, implies_true, if_true, if_false, reduceIte, reduceCtorEq, Nat.reduceEqDiff, Nat.reduceAdd, Nat.reduceLT, ↓us_sl3Tidy, r_sl3Tidy])
  by_cases hx : s = [120]
  · have hts : tidy1 s = [45] := if_pos hx
    simp only [↓vsd, vsn, gW, qd, qv, ev, pick, argE, zipE, ne_eq, eq_self, forall_const, implies_true, if_true, if_false, reduceIte, reduceCtorEq, Nat.reduceEqDiff, Nat.reduceAdd, Nat.reduceLT, ↓us_sl3Tidy, r_sl3Tidy, hx]
    refine m_call (sl1Num_dig n (by omega) _) ?_
    rintro _ w1 hx1 rfl
    simp only [↓vsd, vsn, gW, qd, qv, ev, pick, argE, zipE, ne_eq, eq_self, forall_const, implies_true, if_true, if_false, reduceIte, reduceCtorEq, Nat.reduceEqDiff, Nat.reduceAdd, Nat.reduceLT, ↓us_sl3Tidy, r_sl3Tidy]
    repeat (refine ⟨by first | omega | decide | (simp only [List.length_append, List.length_cons, List.length_nil]; omega), ?_⟩)
    refine m_call (sl1Num_dig n (by omega) _) ?_
    rintro _ w2 hx2 rfl
    simp only [↓vsd, vsn, gW, qd, qv, ev, pick, argE, zipE, ne_eq, eq_self, forall_const, implies_true, if_true, if_false, reduceIte, reduceCtorEq, Nat.reduceEqDiff, Nat.reduceAdd, Nat.reduceLT, ↓us_sl3Tidy, r_sl3Tidy]
    repeat (refine ⟨by first | omega | decide | (simp only [List.length_append, List.length_cons, List.length_nil]; omega), ?_⟩)
    refine m_bsl (fun p hp => by simp only [List.mem_cons, List.not_mem_nil, or_false] at hp; rcases hp with rfl | rfl | rfl | rfl <;> rfl) ?_
    rintro b3 w3 hb3 hblk3 hx3 hs3
    have hx03 := (hx1.trans hx2).trans hx3
    have hql : Sq fS 1 w3 (.slice (some ⟨b3, 0, none⟩) 4 4) (candL n s) := Sq.lit _ 4 fS_len hblk3 (by unfold candL; rw [hts]; rfl) rfl
    simp only [↓vsd, vsn, gW, qd, qv, ev, pick, argE, zipE, ne_eq, eq_self, forall_const, implies_true, if_true, if_false, reduceIte, reduceCtorEq, Nat.reduceEqDiff, Nat.reduceAdd, Nat.reduceLT, ↓us_sl3Tidy, r_sl3Tidy]
    generalize Value.slice (some ⟨b3, 0, none⟩) 4 4 = q at *
    refine m_upto 4 (fun k vs w' => vs = [.int .i64 k] ∧ (∀ j < k, ¬ IsChange n ((candL n s).getD j [])) ∧ Ext w3 w') ⟨rfl, fun j hj => absurd hj (Nat.not_lt_zero j), Ext.refl _⟩ ?_
    rintro k vs w4 hk ⟨rfl, hno, hx4⟩
    have hq4 := hql.ext hx4
    have hcl : (candL n s).length = 4 := rfl
    have hx04 := hx03.trans hx4
    by_cases hlt : k < 4
    · have hltI : (k : Int) < ((4 : Nat) : Int) := by omega
      have hltJ : ¬ ((4 : Nat) : Int) ≤ k := by omega
      have a4 := hq4.at1 [] (i := k) (by omega)
      have hmem := getD_mem (l := candL n s) (k := k) [] (by omega)
      have hsm := candL_small n s hs _ hmem
      have f4 := hq4.facts
      rw [hcl] at f4
      simp only [↓vsd, vsn, gW, qd, qv, ev, pick, argE, zipE, ne_eq, eq_self, forall_const, implies_true, if_true, if_false, reduceIte, reduceCtorEq, Nat.reduceEqDiff, Nat.reduceAdd, Nat.reduceLT, ↓us_sl3Tidy, r_sl3Tidy, hltI, hltJ, f4, a4]
      refine ⟨by omega, m_call (sl2Change_ok n _ hsm _) ?_⟩
      rintro _ w5 hx5 rfl
      have hx5 : Ext w4 w5 := by first | exact hx5 | exact ud hx5 | exact ud (ud hx5)
      by_cases hch : IsChange n ((candL n s).getD k [])
      · have ht : tidyL n s = (candL n s).getD k [] := tidyF_at (by omega) hno hch
        have hne := change_ne hch
        simp only [↓vsd, vsn, gW, qd, qv, ev, pick, argE, zipE, ne_eq, eq_self, forall_const, implies_true, if_true, if_false, reduceIte, reduceCtorEq, Nat.reduceEqDiff, Nat.reduceAdd, Nat.reduceLT, ↓us_sl3Tidy, r_sl3Tidy, hch]
        have hx05 := hx04.trans hx5
        first
          | exact ⟨hx05, by rw [ht]⟩
          | exact ⟨hx05, by rw [← hx, ht]⟩
          | exact ⟨hx05, (tdV_yes hn (ht ▸ hne) ht).symm⟩
          | (rw [← hx]; exact ⟨hx05, (tdV_yes hn (ht ▸ hne) ht).symm⟩)
      · simp only [↓vsd, vsn, gW, qd, qv, ev, pick, argE, zipE, ne_eq, eq_self, forall_const, implies_true, if_true, if_false, reduceIte, reduceCtorEq, Nat.reduceEqDiff, Nat.reduceAdd, Nat.reduceLT, ↓us_sl3Tidy, r_sl3Tidy, hch]
        refine ⟨inR_i64 (by omega), UpTo.next hlt ⟨rfl, fun j hj => ?_, hx4.trans hx5⟩⟩
        by_cases he : j = k
        · rw [he]; exact hch
        · exact hno j (by omega)
    · obtain rfl : k = 4 := by omega
      have hltI : ¬ ((4 : Nat) : Int) < ((4 : Nat) : Int) := by omega
      have hnone : tidyL n s = [] := tidyF_none fun j hj => hno j (by omega)
      simp only [↓vsd, vsn, gW, qd, qv, ev, pick, argE, zipE, ne_eq, eq_self, forall_const, implies_true, if_true, if_false, reduceIte, reduceCtorEq, Nat.reduceEqDiff, Nat.reduceAdd, Nat.reduceLT, ↓us_sl3Tidy, r_sl3Tidy, hltI]
      first
        | exact ⟨hx04, by rw [hnone]⟩
        | exact ⟨hx04, by rw [← hx, hnone]⟩
        | exact ⟨hx04, (tdV_no (n := (n : Int)) (s := s) (fun hh => hh.2 hnone)).symm⟩
        | (rw [← hx]; exact ⟨hx04, (tdV_no (n := (n : Int)) (s := s) (fun hh => hh.2 hnone)).symm⟩)
  · have hts : tidy1 s = s := if_neg hx
    simp only [↓vsd, vsn, gW, qd, qv, ev, pick, argE, zipE, ne_eq, eq_self, forall_const, implies_true, if_true, if_false, reduceIte, reduceCtorEq, Nat.reduceEqDiff, Nat.reduceAdd, Nat.reduceLT, ↓us_sl3Tidy, r_sl3Tidy, hx]
    refine m_call (sl1Num_dig n (by omega) _) ?_
    rintro _ w1 hx1 rfl
    simp only [↓vsd, vsn, gW, qd, qv, ev, pick, argE, zipE, ne_eq, eq_self, forall_const, implies_true, if_true, if_false, reduceIte, reduceCtorEq, Nat.reduceEqDiff, Nat.reduceAdd, Nat.reduceLT, ↓us_sl3Tidy, r_sl3Tidy]
    repeat (refine ⟨by first | omega | decide | (simp only [List.length_append, List.length_cons, List.length_nil]; omega), ?_⟩)
    refine m_call (sl1Num_dig n (by omega) _) ?_
    rintro _ w2 hx2 rfl
    simp only [↓vsd, vsn, gW, qd, qv, ev, pick, argE, zipE, ne_eq, eq_self, forall_const, implies_true, if_true, if_false, reduceIte, reduceCtorEq, Nat.reduceEqDiff, Nat.reduceAdd, Nat.reduceLT, ↓us_sl3Tidy, r_sl3Tidy]
    repeat (refine ⟨by first | omega | decide | (simp only [List.length_append, List.length_cons, List.length_nil]; omega), ?_⟩)
    refine m_bsl (fun p hp => by simp only [List.mem_cons, List.not_mem_nil, or_false] at hp; rcases hp with rfl | rfl | rfl | rfl <;> rfl) ?_
    rintro b3 w3 hb3 hblk3 hx3 hs3
    have hx03 := (hx1.trans hx2).trans hx3
    have hql : Sq fS 1 w3 (.slice (some ⟨b3, 0, none⟩) 4 4) (candL n s) := Sq.lit _ 4 fS_len hblk3 (by unfold candL; rw [hts]; rfl) rfl
    simp only [↓vsd, vsn, gW, qd, qv, ev, pick, argE, zipE, ne_eq, eq_self, forall_const, implies_true, if_true, if_false, reduceIte, reduceCtorEq, Nat.reduceEqDiff, Nat.reduceAdd, Nat.reduceLT, ↓us_sl3Tidy, r_sl3Tidy]
    generalize Value.slice (some ⟨b3, 0, none⟩) 4 4 = q at *
    refine m_upto 4 (fun k vs w' => vs = [.int .i64 k] ∧ (∀ j < k, ¬ IsChange n ((candL n s).getD j [])) ∧ Ext w3 w') ⟨rfl, fun j hj => absurd hj (Nat.not_lt_zero j), Ext.refl _⟩ ?_
    rintro k vs w4 hk ⟨rfl, hno, hx4⟩
    have hq4 := hql.ext hx4
    have hcl : (candL n s).length = 4 := rfl
    have hx04 := hx03.trans hx4
    by_cases hlt : k < 4
    · have hltI : (k : Int) < ((4 : Nat) : Int) := by omega
      have hltJ : ¬ ((4 : Nat) : Int) ≤ k := by omega
      have a4 := hq4.at1 [] (i := k) (by omega)
      have hmem := getD_mem (l := candL n s) (k := k) [] (by omega)
      have hsm := candL_small n s hs _ hmem
      have f4 := hq4.facts
      rw [hcl] at f4
      simp only [↓vsd, vsn, gW, qd, qv, ev, pick, argE, zipE, ne_eq, eq_self, forall_const, implies_true, if_true, if_false, reduceIte, reduceCtorEq, Nat.reduceEqDiff, Nat.reduceAdd, Nat.reduceLT, ↓us_sl3Tidy, r_sl3Tidy, hltI, hltJ, f4, a4]
      refine ⟨by omega, m_call (sl2Change_ok n _ hsm _) ?_⟩
      rintro _ w5 hx5 rfl
      have hx5 : Ext w4 w5 := by first | exact hx5 | exact ud hx5 | exact ud (ud hx5)
      by_cases hch : IsChange n ((candL n s).getD k [])
      · have ht : tidyL n s = (candL n s).getD k [] := tidyF_at (by omega) hno hch
        have hne := change_ne hch
        simp only [↓vsd, vsn, gW, qd, qv, ev, pick, argE, zipE, ne_eq, eq_self, forall_const, implies_true, if_true, if_false, reduceIte, reduceCtorEq, Nat.reduceEqDiff, Nat.reduceAdd, Nat.reduceLT, ↓us_sl3Tidy, r_sl3Tidy, hch]
        have hx05 := hx04.trans hx5
        first
          | exact ⟨hx05, by rw [ht]⟩
          | exact ⟨hx05, by rw [← hx, ht]⟩
          | exact ⟨hx05, (tdV_yes hn (ht ▸ hne) ht).symm⟩
          | (rw [← hx]; exact ⟨hx05, (tdV_yes hn (ht ▸ hne) ht).symm⟩)
      · simp only [↓vsd, vsn, gW, qd, qv, ev, pick, argE, zipE, ne_eq, eq_self, forall_const, implies_true, if_true, if_false, reduceIte, reduceCtorEq, Nat.reduceEqDiff, Nat.reduceAdd, Nat.reduceLT, ↓us_sl3Tidy, r_sl3Tidy, hch]
        refine ⟨inR_i64 (by omega), UpTo.next hlt ⟨rfl, fun j hj => ?_, hx4.trans hx5⟩⟩
        by_cases he : j = k
        · rw [he]; exact hch
        · exact hno j (by omega)
    · obtain rfl : k = 4 := by omega
      have hltI : ¬ ((4 : Nat) : Int) < ((4 : Nat) : Int) := by omega
      have hnone : tidyL n s = [] := tidyF_none fun j hj => hno j (by omega)
      simp only [↓vsd, vsn, gW, qd, qv, ev, pick, argE, zipE, ne_eq, eq_self, forall_const, implies_true, if_true, if_false, reduceIte, reduceCtorEq, Nat.reduceEqDiff, Nat.reduceAdd, Nat.reduceLT, ↓us_sl3Tidy, r_sl3Tidy, hltI]
      first
        | exact ⟨hx04, by rw [hnone]⟩
        | exact ⟨hx04, by rw [← hx, hnone]⟩
        | exact ⟨hx04, (tdV_no (n := (n : Int)) (s := s) (fun hh => hh.2 hnone)).symm⟩
        | (rw [← hx]; exact ⟨hx04, (tdV_no (n := (n : Int)) (s := s) (fun hh => hh.2 hnone)).symm⟩)
theorem last_round2 (n : Nat) (h : 3 ≤ n ∧ n ≤ 8) : (roundsL n).drop (n - 1) = [UInt8.ofNat (48 + n)] := by
  have : ∀ n < 9, 3 ≤ n → (roundsL n).drop (n - 1) = [UInt8.ofNat (48 + n)] := by decide
  exact this n (by omega) h.1
theorem iTidyChange_ok (n : Int) (s : Bs) (hs : s.length ≤ 1000) (w : World) : Fn 15 [.int .i64 n, S s] w (fun r _ => r = tdV n s) := by
  (refine callsV_of mix Try.func15 c_iTidyChange ?_; simp only [↓vsd, vsn, gW, qd, qv, ev, pick, argE, zipE, ne_eq, eq_self, forall_const, implies_true, if_true, if_false, reduceIte, reduceCtorEq, Nat.reduceEqDiff, Nat.reduceAdd, Nat.reduceLT, ↓us_iTidyChange, r_iTidyChange])
  refine m_call (iisStage_ok n _) ?_
  rintro _ w0 hx0 rfl
  by_cases hn : 3 ≤ n ∧ n ≤ 8
  · obtain ⟨n, rfl⟩ : ∃ m : Nat, n = m := ⟨n.toNat, by omega⟩
    have h38 : 3 ≤ n ∧ n ≤ 8 := by omega
    have hnd : (decide ((3 : Int) ≤ (n : Int)) && decide ((n : Int) ≤ (8 : Int))) = true := by rw [Bool.and_eq_true, decide_eq_true_eq, decide_eq_true_eq]; omega
    have hla : ((roundsL n).take n).drop (n - 1) = [UInt8.ofNat (48 + n)] := last_round n h38
    by_cases hx : s = [120]
    · have hts : tidy1 s = [45] := if_pos hx
      simp only [↓vsd, vsn, gW, qd, qv, ev, pick, argE, zipE, ne_eq, eq_self, forall_const, implies_true, if_true, if_false, reduceIte, reduceCtorEq, Nat.reduceEqDiff, Nat.reduceAdd, Nat.reduceLT, ↓us_iTidyChange, r_iTidyChange, hnd, hx]
      refine m_call (irounds_ok n (by omega) _) ?_
      rintro _ w1 hx1 rfl
      have eN : (n : Int) - 1 = ((n - 1 : Nat) : Int) := by omega
      have hrl := roundsL_len n
      have hlb : ((roundsL n).drop (n - 1)) = [UInt8.ofNat (48 + n)] := last_round2 n h38
      simp only [↓vsd, vsn, gW, qd, qv, ev, pick, argE, zipE, ne_eq, eq_self, forall_const, implies_true, if_true, if_false, reduceIte, reduceCtorEq, Nat.reduceEqDiff, Nat.reduceAdd, Nat.reduceLT, ↓us_iTidyChange, r_iTidyChange, eN, hrl, hlb]
      refine ⟨inR_i64 (by omega), ⟨by omega, by omega⟩, ?_⟩
      repeat (refine ⟨by first | omega | decide | (simp only [List.length_append, List.length_cons, List.length_nil]; omega), ?_⟩)
      refine m_bsl (fun p hp => by simp only [List.mem_cons, List.not_mem_nil, or_false] at hp; rcases hp with rfl | rfl | rfl | rfl <;> rfl) ?_
      rintro b3 w3 hb3 hblk3 hx3 hs3
      have hx03 := (hx0.trans hx1).trans hx3
      have hql : Sq fS 1 w3 (.slice (some ⟨b3, 0, none⟩) 4 4) (candL n s) := Sq.lit _ 4 fS_len hblk3 (by unfold candL; rw [hts]; rfl) rfl
      simp only [↓vsd, vsn, gW, qd, qv, ev, pick, argE, zipE, ne_eq, eq_self, forall_const, implies_true, if_true, if_false, reduceIte, reduceCtorEq, Nat.reduceEqDiff, Nat.reduceAdd, Nat.reduceLT, ↓us_iTidyChange, r_iTidyChange]
      generalize Value.slice (some ⟨b3, 0, none⟩) 4 4 = q at *
      refine m_upto 4 (fun k vs w' => vs = [.int .i64 k] ∧ (∀ j < k, ¬ IsChange n ((candL n s).getD j [])) ∧ Ext w3 w') ⟨rfl, fun j hj => absurd hj (Nat.not_lt_zero j), Ext.refl _⟩ ?_
      rintro k vs w4 hk ⟨rfl, hno, hx4⟩
      have hq4 := hql.ext hx4
      have hcl : (candL n s).length = 4 := rfl
      have hx04 := hx03.trans hx4
      by_cases hlt : k < 4
      · have hltI : (k : Int) < ((4 : Nat) : Int) := by omega
        have hltJ : ¬ ((4 : Nat) : Int) ≤ k := by omega
        have a4 := hq4.at1 [] (i := k) (by omega)
        have hmem := getD_mem (l := candL n s) (k := k) [] (by omega)
        have hsm := candL_small n s hs _ hmem
        have f4 := hq4.facts
        rw [hcl] at f4
        simp only [↓vsd, vsn, gW, qd, qv, ev, pick, argE, zipE, ne_eq, eq_self, forall_const, implies_true, if_true, if_false, reduceIte, reduceCtorEq, Nat.reduceEqDiff, Nat.reduceAdd, Nat.reduceLT, ↓us_iTidyChange, r_iTidyChange, hltI, hltJ, f4, a4]
        refine ⟨by omega, m_call (iGoodChange_ok n _ hsm _) ?_⟩
        rintro _ w5 hx5 rfl
        have hx5 : Ext w4 w5 := by first | exact hx5 | exact ud hx5 | exact ud (ud hx5)
        by_cases hch : IsChange n ((candL n s).getD k [])
        · have ht : tidyL n s = (candL n s).getD k [] := tidyF_at (by omega) hno hch
          have hne := change_ne hch
          simp only [↓vsd, vsn, gW, qd, qv, ev, pick, argE, zipE, ne_eq, eq_self, forall_const, implies_true, if_true, if_false, reduceIte, reduceCtorEq, Nat.reduceEqDiff, Nat.reduceAdd, Nat.reduceLT, ↓us_iTidyChange, r_iTidyChange, hch]
          have hx05 := hx04.trans hx5
          first
            | exact ⟨hx05, by rw [ht]⟩
            | exact ⟨hx05, by rw [← hx, ht]⟩
            | exact ⟨hx05, (tdV_yes hn (ht ▸ hne) ht).symm⟩
            | (rw [← hx]; exact ⟨hx05, (tdV_yes hn (ht ▸ hne) ht).symm⟩)
        · simp only [↓vsd, vsn, gW, qd, qv, ev, pick, argE, zipE, ne_eq, eq_self, forall_const, implies_true, if_true, if_false, reduceIte, reduceCtorEq, Nat.reduceEqDiff, Nat.reduceAdd, Nat.reduceLT, ↓us_iTidyChange, r_iTidyChange, hch]
          refine ⟨inR_i64 (by omega), UpTo.next hlt ⟨rfl, fun j hj => ?_, hx4.trans hx5⟩⟩
          by_cases he : j = k
          · rw [he]; exact hch
          · exact hno j (by omega)
      · obtain rfl : k = 4 := by omega
        have hltI : ¬ ((4 : Nat) : Int) < ((4 : Nat) : Int) := by omega
        have hnone : tidyL n s = [] := tidyF_none fun j hj => hno j (by omega)
        simp only [↓vsd, vsn, gW, qd, qv, ev, pick, argE, zipE, ne_eq, eq_self, forall_const, implies_true, if_true, if_false, reduceIte, reduceCtorEq, Nat.reduceEqDiff, Nat.reduceAdd, Nat.reduceLT, ↓us_iTidyChange, r_iTidyChange, hltI]
        first
          | exact ⟨hx04, by rw [hnone]⟩
          | exact ⟨hx04, by rw [← hx, hnone]⟩
          | exact ⟨hx04, (tdV_no (n := (n : Int)) (s := s) (fun hh => hh.2 hnone)).symm⟩
          | (rw [← hx]; exact ⟨hx04, (tdV_no (n := (n : Int)) (s := s) (fun hh => hh.2 hnone)).symm⟩)
    · have hts : tidy1 s = s := if_neg hx
      simp only [↓vsd, vsn, gW, qd, qv, ev, pick, argE, zipE, ne_eq, eq_self, forall_const, implies_true, if_true, if_false, reduceIte, reduceCtorEq, Nat.reduceEqDiff, Nat.reduceAdd, Nat.reduceLT, ↓us_iTidyChange, r_iTidyChange, hnd, hx]
      refine m_call (irounds_ok n (by omega) _) ?_
      rintro _ w1 hx1 rfl
      have eN : (n : Int) - 1 = ((n - 1 : Nat) : Int) := by omega
      have hrl := roundsL_len n
      have hlb : ((roundsL n).drop (n - 1)) = [UInt8.ofNat (48 + n)] := last_round2 n h38
      simp only [↓vsd, vsn, gW, qd, qv, ev, pick, argE, zipE, ne_eq, eq_self, forall_const, implies_true, if_true, if_false, reduceIte, reduceCtorEq, Nat.reduceEqDiff, Nat.reduceAdd, Nat.reduceLT, ↓us_iTidyChange, r_iTidyChange, eN, hrl, hlb]
      refine ⟨inR_i64 (by omega), ⟨by omega, by omega⟩, ?_⟩
      repeat (refine ⟨by first | omega | decide | (simp only [List.length_append, List.length_cons, List.length_nil]; omega), ?_⟩)
      refine m_bsl (fun p hp => by simp only [List.mem_cons, List.not_mem_nil, or_false] at hp; rcases hp with rfl | rfl | rfl | rfl <;> rfl) ?_
      rintro b3 w3 hb3 hblk3 hx3 hs3
      have hx03 := (hx0.trans hx1).trans hx3
      have hql : Sq fS 1 w3 (.slice (some ⟨b3, 0, none⟩) 4 4) (candL n s) := Sq.lit _ 4 fS_len hblk3 (by unfold candL; rw [hts]; rfl) rfl
      simp only [↓vsd, vsn, gW, qd, qv, ev, pick, argE, zipE, ne_eq, eq_self, forall_const, implies_true, if_true, if_false, reduceIte, reduceCtorEq, Nat.reduceEqDiff, Nat.reduceAdd, Nat.reduceLT, ↓us_iTidyChange, r_iTidyChange]
      generalize Value.slice (some ⟨b3, 0, none⟩) 4 4 = q at *
      refine m_upto 4 (fun k vs w' => vs = [.int .i64 k] ∧ (∀ j < k, ¬ IsChange n ((candL n s).getD j [])) ∧ Ext w3 w') ⟨rfl, fun j hj => absurd hj (Nat.not_lt_zero j), Ext.refl _⟩ ?_
      rintro k vs w4 hk ⟨rfl, hno, hx4⟩
      have hq4 := hql.ext hx4
      have hcl : (candL n s).length = 4 := rfl
      have hx04 := hx03.trans hx4
      by_cases hlt : k < 4
      · have hltI : (k : Int) < ((4 : Nat) : Int) := by omega
        have hltJ : ¬ ((4 : Nat) : Int) ≤ k := by omega
        have a4 := hq4.at1 [] (i := k) (by omega)
        have hmem := getD_mem (l := candL n s) (k := k) [] (by omega)
        have hsm := candL_small n s hs _ hmem
        have f4 := hq4.facts
        rw [hcl] at f4
        simp only [↓vsd, vsn, gW, qd, qv, ev, pick, argE, zipE, ne_eq, eq_self, forall_const, implies_true, if_true, if_false, reduceIte, reduceCtorEq, Nat.reduceEqDiff, Nat.reduceAdd, Nat.reduceLT, ↓us_iTidyChange, r_iTidyChange, hltI, hltJ, f4, a4]
        refine ⟨by omega, m_call (iGoodChange_ok n _ hsm _) ?_⟩
        rintro _ w5 hx5 rfl
        have hx5 : Ext w4 w5 := by first | exact hx5 | exact ud hx5 | exact ud (ud hx5)
        by_cases hch : IsChange n ((candL n s).getD k [])
        · have ht : tidyL n s = (candL n s).getD k [] := tidyF_at (by omega) hno hch
          have hne := change_ne hch
          simp only [↓vsd, vsn, gW, qd, qv, ev, pick, argE, zipE, ne_eq, eq_self, forall_const, implies_true, if_true, if_false, reduceIte, reduceCtorEq, Nat.reduceEqDiff, Nat.reduceAdd, Nat.reduceLT, ↓us_iTidyChange, r_iTidyChange, hch]
          have hx05 := hx04.trans hx5
          first
            | exact ⟨hx05, by rw [ht]⟩
            | exact ⟨hx05, by rw [← hx, ht]⟩
            | exact ⟨hx05, (tdV_yes hn (ht ▸ hne) ht).symm⟩
            | (rw [← hx]; exact ⟨hx05, (tdV_yes hn (ht ▸ hne) ht).symm⟩)
        · simp only [↓vsd, vsn, gW, qd, qv, ev, pick, argE, zipE, ne_eq, eq_self, forall_const, implies_true, if_true, if_false, reduceIte, reduceCtorEq, Nat.reduceEqDiff, Nat.reduceAdd, Nat.reduceLT, ↓us_iTidyChange, r_iTidyChange, hch]
          refine ⟨inR_i64 (by omega), UpTo.next hlt ⟨rfl, fun j hj => ?_, hx4.trans hx5⟩⟩
          by_cases he : j = k
          · rw [he]; exact hch
          · exact hno j (by omega)
      · obtain rfl : k = 4 := by omega
        have hltI : ¬ ((4 : Nat) : Int) < ((4 : Nat) : Int) := by omega
        have hnone : tidyL n s = [] := tidyF_none fun j hj => hno j (by omega)
        simp only [↓vsd, vsn, gW, qd, qv, ev, pick, argE, zipE, ne_eq, eq_self, forall_const, implies_true, if_true, if_false, reduceIte, reduceCtorEq, Nat.reduceEqDiff, Nat.reduceAdd, Nat.reduceLT, ↓us_iTidyChange, r_iTidyChange, hltI]
        first
          | exact ⟨hx04, by rw [hnone]⟩
          | exact ⟨hx04, by rw [← hx, hnone]⟩
          | exact ⟨hx04, (tdV_no (n := (n : Int)) (s := s) (fun hh => hh.2 hnone)).symm⟩
          | (rw [← hx]; exact ⟨hx04, (tdV_no (n := (n : Int)) (s := s) (fun hh => hh.2 hnone)).symm⟩)
  · have hnd : (decide ((3 : Int) ≤ n) && decide (n ≤ 8)) = false := by
      rw [Bool.and_eq_false_iff, decide_eq_false_iff_not, decide_eq_false_iff_not]; omega
    simp only [↓vsd, vsn, gW, qd, qv, ev, pick, argE, zipE, ne_eq, eq_self, forall_const, implies_true, if_true, if_false, reduceIte, reduceCtorEq, Nat.reduceEqDiff, Nat.reduceAdd, Nat.reduceLT, ↓us_iTidyChange, r_iTidyChange, hnd]
    exact ⟨hx0, (tdV_no (fun hh => hn hh.1)).symm⟩
theorem sTidyChange_ok (n : Int) (s : Bs) (hs : s.length ≤ 1000) (w : World) : Fn 16 [.int .i64 n, S s] w (fun r _ => r = tdV n s) := by
  (refine callsV_of mix Try.func16 c_sTidyChange ?_; simp only [↓vsd, vsn, gW, qd, qv, ev, pick, argE, zipE, ne_eq, eq_self, forall_const, implies_true, if_true, if_false, reduceIte, reduceCtorEq, Nat.reduceEqDiff, Nat.reduceAdd, Nat.reduceLT, ↓us_sTidyChange, r_sTidyChange])
  refine m_call (sl1In_ok _ _ _ _) ?_
  rintro _ w0 hx0 rfl
  by_cases hn : 3 ≤ n ∧ n ≤ 8
  · obtain ⟨n, rfl⟩ : ∃ m : Nat, n = m := ⟨n.toNat, by omega⟩
    have hnd : (decide ((3 : Int) ≤ (n : Int)) && decide ((n : Int) ≤ (8 : Int))) = true := by rw [Bool.and_eq_true, decide_eq_true_eq, decide_eq_true_eq]; omega
    simp only [↓vsd, vsn, gW, qd, qv, ev, pick, argE, zipE, ne_eq, eq_self, forall_const, implies_true, if_true, if_false, reduceIte, reduceCtorEq, Nat.reduceEqDiff, Nat.reduceAdd, Nat.reduceLT, ↓us_sTidyChange, r_sTidyChange, hnd]
    refine m_call (sl3Tidy_ok n s (by omega) hs _) ?_
    rintro _ w1 hx1 rfl
    by_cases he : tidyL n s = []
    · simp only [↓vsd, vsn, gW, qd, qv, ev, pick, argE, zipE, ne_eq, eq_self, forall_const, implies_true, if_true, if_false, reduceIte, reduceCtorEq, Nat.reduceEqDiff, Nat.reduceAdd, Nat.reduceLT, ↓us_sTidyChange, r_sTidyChange, he]
      exact ⟨hx0.trans hx1, (tdV_no (n := (n : Int)) (s := s) (fun hh => hh.2 he)).symm⟩
    · simp only [↓vsd, vsn, gW, qd, qv, ev, pick, argE, zipE, ne_eq, eq_self, forall_const, implies_true, if_true, if_false, reduceIte, reduceCtorEq, Nat.reduceEqDiff, Nat.reduceAdd, Nat.reduceLT, ↓us_sTidyChange, r_sTidyChange, he]
      refine m_call (sl3Tidy_ok n s (by omega) hs _) ?_
      rintro _ w2 hx2 rfl
      simp only [↓vsd, vsn, gW, qd, qv, ev, pick, argE, zipE, ne_eq, eq_self, forall_const, implies_true, if_true, if_false, reduceIte, reduceCtorEq, Nat.reduceEqDiff, Nat.reduceAdd, Nat.reduceLT, ↓us_sTidyChange, r_sTidyChange]
      exact ⟨(hx0.trans hx1).trans hx2, (tdV_yes hn he rfl).symm⟩
  · have hnd : (decide ((3 : Int) ≤ n) && decide (n ≤ 8)) = false := by
      rw [Bool.and_eq_false_iff, decide_eq_false_iff_not, decide_eq_false_iff_not]; omega
    simp only [↓vsd, vsn, gW, qd, qv, ev, pick, argE, zipE, ne_eq, eq_self, forall_const, implies_true, if_true, if_false, reduceIte, reduceCtorEq, Nat.reduceEqDiff, Nat.reduceAdd, Nat.reduceLT, ↓us_sTidyChange, r_sTidyChange, hnd]
    exact ⟨hx0, (tdV_no (fun hh => hn hh.1)).symm⟩
end Go.Proofs.Ytfklonhjgkahdaa
