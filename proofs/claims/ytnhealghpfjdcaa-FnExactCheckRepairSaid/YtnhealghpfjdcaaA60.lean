/-
  The layers between two rows, of both sides, and slices of slices in the laws.
  Conditions: none.
-/
import Derived.Test.YtnhealghpfjdcaaA58
set_option linter.unusedSimpArgs false
set_option linter.unusedVariables false
set_option linter.defProp false
namespace Go.Proofs.Ytnhealghpfjdcaa
open Go Go.RowKit
section
variable (P : Program) (k : KT) (e : Env) (w : World)
abbrev b28_1 : X := (.cond (.t 15) (.seq (.reg [8, 9] (.c (.q 8 [] (.mv (.c (.slice none 0 0)))) (.c (.q 9 [] (.mv (.c (.bool false)))) .nil))) .ret) .skip)
def t28_1 := b28_1
theorem u28_1 : vcK P t28_1 k e w = vcK P b28_1 k e w := rfl
abbrev b28_2 : X := (.seq (.reg [8, 9] (.c (.q 16 [] (.lda 3 (.t 4))) (.c (.q 17 [] (.lda 2 (.t 5))) (.c (.q 18 [] (.mv (.t 2))) (.c (.q 19 [] (.mv (.t 3))) (.c (.e (some 20) [] (.call false 73 [(.t 16), (.t 17), (.t 18), (.t 19)])) (.c (.q 21 [] (.ext 0 (.t 20))) (.c (.q 22 [] (.ext 1 (.t 20))) (.c (.q 8 [] (.mv (.t 21))) (.c (.q 9 [] (.mv (.t 22))) .nil)))))))))) .ret)
def t28_2 := b28_2
theorem u28_2 : vcK P t28_2 k e w = vcK P b28_2 k e w := rfl
abbrev b28_3 : X := (.seq (.seq (.reg [2, 3, 4, 5, 15] (.c (.q 10 [] (.lda 3 (.t 4))) (.c (.q 11 [] (.lda 2 (.t 5))) (.c (.q 12 [] (.mv (.t 2))) (.c (.q 13 [] (.mv (.t 3))) (.c (.e (some 14) [] (.call false 72 [(.t 10), (.t 11), (.t 12), (.t 13)])) (.c (.q 15 [] (.not (.t 14))) .nil))))))) t28_1) t28_2)
def t28_3 := b28_3
theorem u28_3 : vcK P t28_3 k e w = vcK P b28_3 k e w := rfl
abbrev b28_0 : X := (.seq (.reg [2, 3, 4, 5] (.c (.e (some 4) [] (.box 31 (.t 0))) (.c (.e (some 5) [] (.box 33 (.t 1))) (.c (.q 8 [] (.mv (.c (.slice none 0 0)))) (.c (.q 9 [] (.mv (.c (.bool false)))) .nil))))) t28_3)
def x_iRepairLayers := b28_0
theorem u28_0 : vcK P x_iRepairLayers k e w = vcK P b28_0 k e w := rfl
def r_iRepairLayers : List XO := [(.mv (.t 8)), (.mv (.t 9))]
theorem c_iRepairLayers : convF Try.prog [89, 116, 117, 121, 143, 161, 162, 163, 166, 168, 234] Try.f28 [([2, 3, 4, 5], []), ([2, 3, 4, 5, 15], []), ([8, 9], []), ([8, 9], [])] = some (x_iRepairLayers, r_iRepairLayers) := by kernel_rfl
def us_iRepairLayers := aI @u28_0 (aI @u28_1 (aI @u28_2 @u28_3))
abbrev b27_1 : X := (.cond (.t 15) (.seq (.reg [8, 9] (.c (.q 8 [] (.mv (.c (.slice none 0 0)))) (.c (.q 9 [] (.mv (.c (.bool false)))) .nil))) .ret) .skip)
def t27_1 := b27_1
theorem u27_1 : vcK P t27_1 k e w = vcK P b27_1 k e w := rfl
abbrev b27_2 : X := (.seq (.reg [8, 9] (.c (.q 16 [] (.lda 3 (.t 4))) (.c (.q 17 [] (.lda 2 (.t 5))) (.c (.q 18 [] (.mv (.t 2))) (.c (.q 19 [] (.mv (.t 3))) (.c (.e (some 20) [] (.call false 70 [(.t 16), (.t 17), (.t 18), (.t 19)])) (.c (.q 21 [] (.ext 0 (.t 20))) (.c (.q 22 [] (.ext 1 (.t 20))) (.c (.q 8 [] (.mv (.t 21))) (.c (.q 9 [] (.mv (.t 22))) .nil)))))))))) .ret)
def t27_2 := b27_2
theorem u27_2 : vcK P t27_2 k e w = vcK P b27_2 k e w := rfl
abbrev b27_3 : X := (.seq (.seq (.reg [2, 3, 4, 5, 15] (.c (.q 10 [] (.lda 3 (.t 4))) (.c (.q 11 [] (.lda 2 (.t 5))) (.c (.q 12 [] (.mv (.t 2))) (.c (.q 13 [] (.mv (.t 3))) (.c (.e (some 14) [] (.call false 69 [(.t 10), (.t 11), (.t 12), (.t 13)])) (.c (.q 15 [] (.not (.t 14))) .nil))))))) t27_1) t27_2)
def t27_3 := b27_3
theorem u27_3 : vcK P t27_3 k e w = vcK P b27_3 k e w := rfl
abbrev b27_0 : X := (.seq (.reg [2, 3, 4, 5] (.c (.e (some 4) [] (.box 31 (.t 0))) (.c (.e (some 5) [] (.box 33 (.t 1))) (.c (.q 8 [] (.mv (.c (.slice none 0 0)))) (.c (.q 9 [] (.mv (.c (.bool false)))) .nil))))) t27_3)
def x_sRepairLayers := b27_0
theorem u27_0 : vcK P x_sRepairLayers k e w = vcK P b27_0 k e w := rfl
def r_sRepairLayers : List XO := [(.mv (.t 8)), (.mv (.t 9))]
theorem c_sRepairLayers : convF Try.prog [89, 116, 117, 121, 143, 161, 162, 163, 166, 168, 234] Try.f27 [([2, 3, 4, 5], []), ([2, 3, 4, 5, 15], []), ([8, 9], []), ([8, 9], [])] = some (x_sRepairLayers, r_sRepairLayers) := by kernel_rfl
def us_sRepairLayers := aI @u27_0 (aI @u27_1 (aI @u27_2 @u27_3))
abbrev b29_1 : X := (.cond (.t 10) (.seq (.reg [4] (.c (.q 4 [] (.mv (.c (.bool false)))) .nil)) .ret) .skip)
def t29_1 := b29_1
theorem u29_1 : vcK P t29_1 k e w = vcK P b29_1 k e w := rfl
abbrev b29_2 : X := (.cond (.t 14) .skip (.exit 0))
def t29_2 := b29_2
theorem u29_2 : vcK P t29_2 k e w = vcK P b29_2 k e w := rfl
abbrev b29_3 : X := (.cond (.t 26) (.seq (.reg [4] (.c (.q 4 [] (.mv (.c (.bool false)))) .nil)) .ret) .skip)
def t29_3 := b29_3
theorem u29_3 : vcK P t29_3 k e w = vcK P b29_3 k e w := rfl
abbrev b29_4 : X := (.reg [0, 1, 5] (.c (.q 15 [] (.mv (.t 5))) (.c (.q 16 [] (.bin .add (.t 15) (.c (.int .i64 1)))) (.c (.q 5 [] (.mv (.t 16))) .nil))))
def t29_4 := b29_4
theorem u29_4 : vcK P t29_4 k e w = vcK P b29_4 k e w := rfl
abbrev b29_5 : X := (.seq (.blk 1 (.seq (.drw [0, 1, 5, 26] (.c (.q 17 [] (.mv (.t 0))) (.c (.q 18 [] (.mv (.t 5))) (.c (.q 19 [] (.ia 1 (.t 17) (.t 18))) (.c (.q 20 [] (.ld (.t 19))) (.c (.q 21 [] (.mv (.t 1))) (.c (.q 22 [] (.mv (.t 5))) (.c (.q 23 [] (.ia 1 (.t 21) (.t 22))) (.c (.q 24 [] (.ld (.t 23))) (.c (.e (some 25) [] (.call false 21 [(.t 20), (.t 24)])) (.c (.q 26 [] (.not (.t 25))) .nil))))))))))) t29_3)) t29_4)
def t29_5 := b29_5
theorem u29_5 : vcK P t29_5 k e w = vcK P b29_5 k e w := rfl
abbrev b29_6 : X := (.seq (.seq (.reg [0, 1, 5, 14] (.c (.q 11 [] (.mv (.t 5))) (.c (.q 12 [] (.mv (.t 0))) (.c (.q 13 [] (.lens (.t 12))) (.c (.q 14 [] (.bin .lss (.t 11) (.t 13))) .nil))))) t29_2) t29_5)
def t29_6 := b29_6
theorem u29_6 : vcK P t29_6 k e w = vcK P b29_6 k e w := rfl
abbrev b29_7 : X := (.blk 0 (.loop [5] [0, 1] t29_6))
def t29_7 := b29_7
theorem u29_7 : vcK P t29_7 k e w = vcK P b29_7 k e w := rfl
abbrev b29_8 : X := (.seq (.reg [4] (.c (.q 4 [] (.mv (.c (.bool true)))) .nil)) .ret)
def t29_8 := b29_8
theorem u29_8 : vcK P t29_8 k e w = vcK P b29_8 k e w := rfl
abbrev b29_9 : X := (.seq (.seq (.reg [0, 1, 5] (.c (.q 5 [] (.mv (.c (.int .i64 0)))) .nil)) t29_7) t29_8)
def t29_9 := b29_9
theorem u29_9 : vcK P t29_9 k e w = vcK P b29_9 k e w := rfl
abbrev b29_10 : X := (.seq (.seq (.reg [0, 1, 10] (.c (.q 6 [] (.mv (.t 0))) (.c (.q 7 [] (.lens (.t 6))) (.c (.q 8 [] (.mv (.t 1))) (.c (.q 9 [] (.lens (.t 8))) (.c (.q 10 [] (.bin .neq (.t 7) (.t 9))) .nil)))))) t29_1) t29_9)
def t29_10 := b29_10
theorem u29_10 : vcK P t29_10 k e w = vcK P b29_10 k e w := rfl
abbrev b29_0 : X := (.seq (.reg [0, 1] (.c (.q 4 [] (.mv (.c (.bool false)))) .nil)) t29_10)
def x_leqStringSS := b29_0
theorem u29_0 : vcK P x_leqStringSS k e w = vcK P b29_0 k e w := rfl
def r_leqStringSS : List XO := [(.mv (.t 4))]
theorem c_leqStringSS : convF Try.prog [89, 116, 117, 121, 143, 161, 162, 163, 166, 168, 234] Try.f29 [([0, 1], []), ([0, 1, 10], []), ([4], []), ([0, 1, 5], []), ([5], [0, 1]), ([0, 1, 5, 14], []), ([0, 1, 5, 26], []), ([4], []), ([0, 1, 5], []), ([4], [])] = some (x_leqStringSS, r_leqStringSS) := by kernel_rfl
def us_leqStringSS := aI @u29_0 (aI @u29_1 (aI @u29_2 (aI @u29_3 (aI @u29_4 (aI @u29_5 (aI @u29_6 (aI @u29_7 (aI @u29_8 (aI @u29_9 @u29_10)))))))))
abbrev b30_1 : X := (.cond (.t 9) .skip (.exit 0))
def t30_1 := b30_1
theorem u30_1 : vcK P t30_1 k e w = vcK P b30_1 k e w := rfl
abbrev b30_2 : X := (.reg [0, 1, 5] (.c (.q 10 [] (.mv (.t 5))) (.c (.q 11 [] (.bin .add (.t 10) (.c (.int .i64 1)))) (.c (.q 5 [] (.mv (.t 11))) .nil))))
def t30_2 := b30_2
theorem u30_2 : vcK P t30_2 k e w = vcK P b30_2 k e w := rfl
abbrev b30_3 : X := (.seq (.blk 1 (.reg [0, 1, 5] (.c (.q 12 [] (.mv (.t 0))) (.c (.q 13 [] (.mv (.t 5))) (.c (.q 14 [] (.ia 1 (.t 12) (.t 13))) (.c (.q 15 [] (.ld (.t 14))) (.c (.q 16 [] (.mv (.t 1))) (.c (.e (some 17) [] (.call false 23 [(.t 15), (.t 16)])) (.c (.q 1 [] (.mv (.t 17))) .nil))))))))) t30_2)
def t30_3 := b30_3
theorem u30_3 : vcK P t30_3 k e w = vcK P b30_3 k e w := rfl
abbrev b30_4 : X := (.seq (.seq (.reg [0, 1, 5, 9] (.c (.q 6 [] (.mv (.t 5))) (.c (.q 7 [] (.mv (.t 0))) (.c (.q 8 [] (.lens (.t 7))) (.c (.q 9 [] (.bin .lss (.t 6) (.t 8))) .nil))))) t30_1) t30_3)
def t30_4 := b30_4
theorem u30_4 : vcK P t30_4 k e w = vcK P b30_4 k e w := rfl
abbrev b30_5 : X := (.blk 0 (.loop [1, 5] [0] t30_4))
def t30_5 := b30_5
theorem u30_5 : vcK P t30_5 k e w = vcK P b30_5 k e w := rfl
abbrev b30_6 : X := (.seq (.reg [4] (.c (.q 18 [] (.mv (.t 1))) (.c (.q 4 [] (.mv (.t 18))) .nil))) .ret)
def t30_6 := b30_6
theorem u30_6 : vcK P t30_6 k e w = vcK P b30_6 k e w := rfl
abbrev b30_7 : X := (.seq (.seq (.reg [0, 1, 5] (.c (.q 5 [] (.mv (.c (.int .i64 0)))) .nil)) t30_5) t30_6)
def t30_7 := b30_7
theorem u30_7 : vcK P t30_7 k e w = vcK P b30_7 k e w := rfl
abbrev b30_0 : X := (.seq (.reg [0, 1] (.c (.q 4 [] (.mv (.c (.int .i64 0)))) .nil)) t30_7)
def x_lmarkStringSS := b30_0
theorem u30_0 : vcK P x_lmarkStringSS k e w = vcK P b30_0 k e w := rfl
def r_lmarkStringSS : List XO := [(.mv (.t 4))]
theorem c_lmarkStringSS : convF Try.prog [89, 116, 117, 121, 143, 161, 162, 163, 166, 168, 234] Try.f30 [([0, 1], []), ([0, 1, 5], []), ([1, 5], [0]), ([0, 1, 5, 9], []), ([0, 1, 5], []), ([0, 1, 5], []), ([4], [])] = some (x_lmarkStringSS, r_lmarkStringSS) := by kernel_rfl
def us_lmarkStringSS := aI @u30_0 (aI @u30_1 (aI @u30_2 (aI @u30_3 (aI @u30_4 (aI @u30_5 (aI @u30_6 @u30_7))))))
abbrev b31_1 : X := (.cond (.t 9) .skip (.exit 0))
def t31_1 := b31_1
theorem u31_1 : vcK P t31_1 k e w = vcK P b31_1 k e w := rfl
abbrev b31_2 : X := (.cond (.t 19) (.seq (.reg [4] (.c (.q 4 [] (.mv (.c (.int .i64 (-1))))) .nil)) .ret) .skip)
def t31_2 := b31_2
theorem u31_2 : vcK P t31_2 k e w = vcK P b31_2 k e w := rfl
abbrev b31_3 : X := (.seq (.reg [0, 1, 5, 19] (.c (.q 18 [] (.mv (.t 1))) (.c (.q 19 [] (.bin .lss (.t 18) (.c (.int .i64 0)))) .nil))) t31_2)
def t31_3 := b31_3
theorem u31_3 : vcK P t31_3 k e w = vcK P b31_3 k e w := rfl
abbrev b31_4 : X := (.reg [0, 1, 5] (.c (.q 10 [] (.mv (.t 5))) (.c (.q 11 [] (.bin .add (.t 10) (.c (.int .i64 1)))) (.c (.q 5 [] (.mv (.t 11))) .nil))))
def t31_4 := b31_4
theorem u31_4 : vcK P t31_4 k e w = vcK P b31_4 k e w := rfl
abbrev b31_5 : X := (.seq (.blk 1 (.seq (.reg [0, 1, 5] (.c (.q 12 [] (.mv (.t 0))) (.c (.q 13 [] (.mv (.t 5))) (.c (.q 14 [] (.ia 1 (.t 12) (.t 13))) (.c (.q 15 [] (.ld (.t 14))) (.c (.q 16 [] (.mv (.t 1))) (.c (.e (some 17) [] (.call false 24 [(.t 15), (.t 16)])) (.c (.q 1 [] (.mv (.t 17))) .nil)))))))) t31_3)) t31_4)
def t31_5 := b31_5
theorem u31_5 : vcK P t31_5 k e w = vcK P b31_5 k e w := rfl
abbrev b31_6 : X := (.seq (.seq (.reg [0, 1, 5, 9] (.c (.q 6 [] (.mv (.t 5))) (.c (.q 7 [] (.mv (.t 0))) (.c (.q 8 [] (.lens (.t 7))) (.c (.q 9 [] (.bin .lss (.t 6) (.t 8))) .nil))))) t31_1) t31_5)
def t31_6 := b31_6
theorem u31_6 : vcK P t31_6 k e w = vcK P b31_6 k e w := rfl
abbrev b31_7 : X := (.blk 0 (.loop [1, 5] [0] t31_6))
def t31_7 := b31_7
theorem u31_7 : vcK P t31_7 k e w = vcK P b31_7 k e w := rfl
abbrev b31_8 : X := (.seq (.reg [4] (.c (.q 20 [] (.mv (.t 1))) (.c (.q 4 [] (.mv (.t 20))) .nil))) .ret)
def t31_8 := b31_8
theorem u31_8 : vcK P t31_8 k e w = vcK P b31_8 k e w := rfl
abbrev b31_9 : X := (.seq (.seq (.reg [0, 1, 5] (.c (.q 5 [] (.mv (.c (.int .i64 0)))) .nil)) t31_7) t31_8)
def t31_9 := b31_9
theorem u31_9 : vcK P t31_9 k e w = vcK P b31_9 k e w := rfl
abbrev b31_0 : X := (.seq (.reg [0, 1] (.c (.q 4 [] (.mv (.c (.int .i64 0)))) .nil)) t31_9)
def x_lheldStringSS := b31_0
theorem u31_0 : vcK P x_lheldStringSS k e w = vcK P b31_0 k e w := rfl
def r_lheldStringSS : List XO := [(.mv (.t 4))]
theorem c_lheldStringSS : convF Try.prog [89, 116, 117, 121, 143, 161, 162, 163, 166, 168, 234] Try.f31 [([0, 1], []), ([0, 1, 5], []), ([1, 5], [0]), ([0, 1, 5, 9], []), ([0, 1, 5], []), ([0, 1, 5, 19], []), ([4], []), ([0, 1, 5], []), ([4], [])] = some (x_lheldStringSS, r_lheldStringSS) := by kernel_rfl
def us_lheldStringSS := aI @u31_0 (aI @u31_1 (aI @u31_2 (aI @u31_3 (aI @u31_4 (aI @u31_5 (aI @u31_6 (aI @u31_7 (aI @u31_8 @u31_9))))))))
abbrev b6_1 : X := (.cond (.t 22) (.seq (.reg [8] (.c (.q 8 [] (.mv (.c (.bool true)))) .nil)) .ret) .skip)
def t6_1 := b6_1
theorem u6_1 : vcK P t6_1 k e w = vcK P b6_1 k e w := rfl
abbrev b6_2 : X := (.cond (.t 25) (.seq (.reg [8] (.c (.q 8 [] (.mv (.c (.bool true)))) .nil)) .ret) .skip)
def t6_2 := b6_2
theorem u6_2 : vcK P t6_2 k e w = vcK P b6_2 k e w := rfl
abbrev b6_3 : X := (.cond (.t 30) (.seq (.reg [8] (.c (.q 8 [] (.mv (.c (.bool true)))) .nil)) .ret) .skip)
def t6_3 := b6_3
theorem u6_3 : vcK P t6_3 k e w = vcK P b6_3 k e w := rfl
abbrev b6_4 : X := (.cond (.t 35) (.seq (.reg [8] (.c (.q 8 [] (.mv (.c (.bool true)))) .nil)) .ret) .skip)
def t6_4 := b6_4
theorem u6_4 : vcK P t6_4 k e w = vcK P b6_4 k e w := rfl
abbrev b6_5 : X := (.cond (.t 65) (.seq (.reg [8] (.c (.q 8 [] (.mv (.c (.bool false)))) .nil)) .ret) .skip)
def t6_5 := b6_5
theorem u6_5 : vcK P t6_5 k e w = vcK P b6_5 k e w := rfl
abbrev b6_6 : X := (.cond (.t 70) (.seq (.reg [8] (.c (.q 8 [] (.mv (.c (.bool false)))) .nil)) .ret) .skip)
def t6_6 := b6_6
theorem u6_6 : vcK P t6_6 k e w = vcK P b6_6 k e w := rfl
abbrev b6_7 : X := (.cond (.t 86) (.seq (.reg [8] (.c (.q 8 [] (.mv (.c (.bool false)))) .nil)) .ret) .skip)
def t6_7 := b6_7
theorem u6_7 : vcK P t6_7 k e w = vcK P b6_7 k e w := rfl
abbrev b6_8 : X := (.cond (.t 94) (.seq (.reg [8] (.c (.q 8 [] (.mv (.c (.bool false)))) .nil)) .ret) .skip)
def t6_8 := b6_8
theorem u6_8 : vcK P t6_8 k e w = vcK P b6_8 k e w := rfl
abbrev b6_9 : X := (.cond (.t 97) (.seq (.reg [8] (.c (.q 8 [] (.mv (.c (.bool false)))) .nil)) .ret) .skip)
def t6_9 := b6_9
theorem u6_9 : vcK P t6_9 k e w = vcK P b6_9 k e w := rfl
abbrev b6_10 : X := (.cond (.t 116) (.seq (.reg [8] (.c (.q 8 [] (.mv (.c (.bool false)))) .nil)) .ret) .skip)
def t6_10 := b6_10
theorem u6_10 : vcK P t6_10 k e w = vcK P b6_10 k e w := rfl
abbrev b6_11 : X := (.cond (.t 121) (.seq (.reg [8] (.c (.q 8 [] (.mv (.c (.bool false)))) .nil)) .ret) .skip)
def t6_11 := b6_11
theorem u6_11 : vcK P t6_11 k e w = vcK P b6_11 k e w := rfl
abbrev b6_12 : X := (.cond (.t 124) (.seq (.reg [8] (.c (.q 8 [] (.mv (.c (.bool false)))) .nil)) .ret) .skip)
def t6_12 := b6_12
theorem u6_12 : vcK P t6_12 k e w = vcK P b6_12 k e w := rfl
abbrev b6_13 : X := (.seq (.reg [8] (.c (.q 8 [] (.mv (.c (.bool true)))) .nil)) .ret)
def t6_13 := b6_13
theorem u6_13 : vcK P t6_13 k e w = vcK P b6_13 k e w := rfl
abbrev b6_14 : X := (.seq (.seq (.reg [124] (.c (.q 122 [] (.mv (.t 17))) (.c (.q 123 [] (.mv (.t 16))) (.c (.q 124 [] (.bin .neq (.t 122) (.t 123))) .nil)))) t6_12) t6_13)
def t6_14 := b6_14
theorem u6_14 : vcK P t6_14 k e w = vcK P b6_14 k e w := rfl
abbrev b6_15 : X := (.seq (.seq (.reg [16, 17, 121] (.c (.q 120 [] (.mv (.t 17))) (.c (.q 121 [] (.bin .lss (.t 120) (.c (.int .i64 0)))) .nil))) t6_11) t6_14)
def t6_15 := b6_15
theorem u6_15 : vcK P t6_15 k e w = vcK P b6_15 k e w := rfl
abbrev b6_16 : X := (.seq (.reg [16, 17] (.c (.q 117 [] (.mv (.t 13))) (.c (.q 118 [] (.mv (.t 17))) (.c (.e (some 119) [] (.call false 31 [(.t 117), (.t 118)])) (.c (.q 17 [] (.mv (.t 119))) .nil))))) t6_15)
def t6_16 := b6_16
theorem u6_16 : vcK P t6_16 k e w = vcK P b6_16 k e w := rfl
abbrev b6_17 : X := (.seq (.reg [13, 16, 17] (.c (.q 17 [] (.mv (.c (.int .i64 1)))) .nil)) t6_16)
def t6_17 := b6_17
theorem u6_17 : vcK P t6_17 k e w = vcK P b6_17 k e w := rfl
abbrev b6_18 : X := (.seq (.seq (.reg [13, 16, 116] (.c (.q 108 [] (.mv (.t 18))) (.c (.q 109 [] (.mv (.t 10))) (.c (.e (some 110) [] (.call false 29 [(.t 108), (.t 109)])) (.c (.q 111 [] (.not (.t 110))) (.c (.q 112 [] (.mv (.t 111))) (.c (.q 113 [(112, false)] (.mv (.t 19))) (.c (.q 114 [(112, false)] (.mv (.t 11))) (.c (.q 115 [(112, false)] (.beq true (.t 113) (.t 114))) (.c (.q 116 [] (.pick (.t 112) (.c (.bool true)) (.t 115))) .nil)))))))))) t6_10) t6_17)
def t6_18 := b6_18
theorem u6_18 : vcK P t6_18 k e w = vcK P b6_18 k e w := rfl
abbrev b6_19 : X := (.seq (.drw [10, 11, 13, 16, 18, 19] (.c (.q 99 [] (.lda 3 (.t 4))) (.c (.q 101 [] (.lda 2 (.t 5))) (.c (.q 103 [] (.mv (.t 2))) (.c (.q 104 [] (.mv (.t 3))) (.c (.e (some 100) [] (.call false 15 [(.t 99)])) (.c (.e (some 102) [] (.call false 16 [(.t 101)])) (.c (.e (some 105) [] (.call false 28 [(.t 100), (.t 102), (.t 103), (.t 104)])) (.c (.q 98 [] (.mv (.t 105))) (.c (.q 106 [] (.ext 0 (.t 98))) (.c (.q 107 [] (.ext 1 (.t 98))) (.c (.q 18 [] (.mv (.t 106))) (.c (.q 19 [] (.mv (.t 107))) .nil))))))))))))) t6_18)
def t6_19 := b6_19
theorem u6_19 : vcK P t6_19 k e w = vcK P b6_19 k e w := rfl
abbrev b6_20 : X := (.seq (.seq (.reg [2, 3, 4, 5, 10, 11, 13, 16, 97] (.c (.q 95 [] (.mv (.t 17))) (.c (.q 96 [] (.mv (.t 16))) (.c (.q 97 [] (.bin .neq (.t 95) (.t 96))) .nil)))) t6_9) t6_19)
def t6_20 := b6_20
theorem u6_20 : vcK P t6_20 k e w = vcK P b6_20 k e w := rfl
abbrev b6_21 : X := (.seq (.seq (.reg [2, 3, 4, 5, 10, 11, 13, 16, 17, 94] (.c (.q 93 [] (.mv (.t 17))) (.c (.q 94 [] (.bin .lss (.t 93) (.c (.int .i64 0)))) .nil))) t6_8) t6_20)
def t6_21 := b6_21
theorem u6_21 : vcK P t6_21 k e w = vcK P b6_21 k e w := rfl
abbrev b6_22 : X := (.seq (.reg [2, 3, 4, 5, 10, 11, 13, 16, 17] (.c (.q 90 [] (.mv (.t 13))) (.c (.q 91 [] (.mv (.t 17))) (.c (.e (some 92) [] (.call false 31 [(.t 90), (.t 91)])) (.c (.q 17 [] (.mv (.t 92))) .nil))))) t6_21)
def t6_22 := b6_22
theorem u6_22 : vcK P t6_22 k e w = vcK P b6_22 k e w := rfl
abbrev b6_23 : X := (.seq (.reg [2, 3, 4, 5, 10, 11, 13, 16, 17] (.c (.q 17 [] (.mv (.c (.int .i64 1)))) .nil)) t6_22)
def t6_23 := b6_23
theorem u6_23 : vcK P t6_23 k e w = vcK P b6_23 k e w := rfl
abbrev b6_24 : X := (.seq (.reg [2, 3, 4, 5, 10, 11, 13, 16] (.c (.q 87 [] (.mv (.t 13))) (.c (.q 88 [] (.mv (.t 16))) (.c (.e (some 89) [] (.call false 30 [(.t 87), (.t 88)])) (.c (.q 16 [] (.mv (.t 89))) .nil))))) t6_23)
def t6_24 := b6_24
theorem u6_24 : vcK P t6_24 k e w = vcK P b6_24 k e w := rfl
abbrev b6_25 : X := (.seq (.reg [2, 3, 4, 5, 10, 11, 13, 16] (.c (.q 16 [] (.mv (.c (.int .i64 1)))) .nil)) t6_24)
def t6_25 := b6_25
theorem u6_25 : vcK P t6_25 k e w = vcK P b6_25 k e w := rfl
abbrev b6_26 : X := (.seq (.seq (.reg [2, 3, 4, 5, 10, 11, 13, 86] (.c (.q 74 [] (.mv (.t 15))) (.c (.q 75 [] (.bin .lss (.t 74) (.c (.int .i64 0)))) (.c (.q 76 [] (.mv (.t 75))) (.c (.q 77 [(76, false)] (.mv (.t 13))) (.c (.q 78 [(76, false)] (.mv (.t 10))) (.c (.e (some 79) [(76, false)] (.call false 29 [(.t 77), (.t 78)])) (.c (.q 80 [(76, false)] (.not (.t 79))) (.c (.q 81 [] (.pick (.t 76) (.c (.bool true)) (.t 80))) (.c (.q 82 [] (.mv (.t 81))) (.c (.q 83 [(82, false)] (.mv (.t 14))) (.c (.q 84 [(82, false)] (.mv (.t 11))) (.c (.q 85 [(82, false)] (.beq true (.t 83) (.t 84))) (.c (.q 86 [] (.pick (.t 82) (.c (.bool true)) (.t 85))) .nil)))))))))))))) t6_7) t6_25)
def t6_26 := b6_26
theorem u6_26 : vcK P t6_26 k e w = vcK P b6_26 k e w := rfl
abbrev b6_27 : X := (.seq (.reg [2, 3, 4, 5, 10, 11, 13, 14, 15] (.c (.q 71 [] (.lda 3 (.t 12))) (.c (.q 72 [] (.mv (.t 15))) (.c (.e (some 73) [] (.call false 22 [(.t 71), (.t 72)])) (.c (.q 15 [] (.mv (.t 73))) .nil))))) t6_26)
def t6_27 := b6_27
theorem u6_27 : vcK P t6_27 k e w = vcK P b6_27 k e w := rfl
abbrev b6_28 : X := (.seq (.reg [2, 3, 4, 5, 10, 11, 12, 13, 14, 15] (.c (.q 15 [] (.mv (.c (.int .i64 1)))) .nil)) t6_27)
def t6_28 := b6_28
theorem u6_28 : vcK P t6_28 k e w = vcK P b6_28 k e w := rfl
abbrev b6_29 : X := (.seq (.seq (.drw [2, 3, 4, 5, 10, 11, 12, 13, 14, 70] (.c (.q 66 [] (.lda 3 (.t 12))) (.c (.q 67 [] (.lda 3 (.t 4))) (.c (.e (some 68) [] (.call false 15 [(.t 67)])) (.c (.e (some 69) [] (.call false 18 [(.t 66), (.t 68)])) (.c (.q 70 [] (.not (.t 69))) .nil)))))) t6_6) t6_28)
def t6_29 := b6_29
theorem u6_29 : vcK P t6_29 k e w = vcK P b6_29 k e w := rfl
abbrev b6_30 : X := (.seq (.seq (.reg [2, 3, 4, 5, 10, 11, 12, 13, 14, 65] (.c (.q 57 [] (.mv (.t 13))) (.c (.q 58 [] (.mv (.t 10))) (.c (.e (some 59) [] (.call false 29 [(.t 57), (.t 58)])) (.c (.q 60 [] (.not (.t 59))) (.c (.q 61 [] (.mv (.t 60))) (.c (.q 62 [(61, false)] (.mv (.t 14))) (.c (.q 63 [(61, false)] (.mv (.t 11))) (.c (.q 64 [(61, false)] (.beq true (.t 62) (.t 63))) (.c (.q 65 [] (.pick (.t 61) (.c (.bool true)) (.t 64))) .nil)))))))))) t6_5) t6_29)
def t6_30 := b6_30
theorem u6_30 : vcK P t6_30 k e w = vcK P b6_30 k e w := rfl
abbrev b6_31 : X := (.seq (.drw [2, 3, 4, 5, 10, 11, 12, 13, 14] (.c (.q 49 [] (.lda 3 (.t 12))) (.c (.q 50 [] (.lda 2 (.t 5))) (.c (.q 52 [] (.mv (.t 2))) (.c (.q 53 [] (.mv (.t 3))) (.c (.e (some 51) [] (.call false 16 [(.t 50)])) (.c (.e (some 54) [] (.call false 28 [(.t 49), (.t 51), (.t 52), (.t 53)])) (.c (.q 48 [] (.mv (.t 54))) (.c (.q 55 [] (.ext 0 (.t 48))) (.c (.q 56 [] (.ext 1 (.t 48))) (.c (.q 13 [] (.mv (.t 55))) (.c (.q 14 [] (.mv (.t 56))) .nil)))))))))))) t6_30)
def t6_31 := b6_31
theorem u6_31 : vcK P t6_31 k e w = vcK P b6_31 k e w := rfl
abbrev b6_32 : X := (.seq (.reg [2, 3, 4, 5, 10, 11, 12] (.c (.q 46 [] (.lda 3 (.t 4))) (.c (.e (some 47) [] (.call false 15 [(.t 46)])) (.c (.e (some 12) [] (.al 31 [(S []), (.int .i64 0), (.slice none 0 0)])) (.c (.e none [] (.st 3 (.t 12) (.t 47))) .nil))))) t6_31)
def t6_32 := b6_32
theorem u6_32 : vcK P t6_32 k e w = vcK P b6_32 k e w := rfl
abbrev b6_33 : X := (.seq (.drw [2, 3, 4, 5, 10, 11] (.c (.q 37 [] (.lda 3 (.t 4))) (.c (.q 39 [] (.lda 2 (.t 5))) (.c (.q 41 [] (.mv (.t 2))) (.c (.q 42 [] (.mv (.t 3))) (.c (.e (some 38) [] (.call false 15 [(.t 37)])) (.c (.e (some 40) [] (.call false 16 [(.t 39)])) (.c (.e (some 43) [] (.call false 27 [(.t 38), (.t 40), (.t 41), (.t 42)])) (.c (.q 36 [] (.mv (.t 43))) (.c (.q 44 [] (.ext 0 (.t 36))) (.c (.q 45 [] (.ext 1 (.t 36))) (.c (.q 10 [] (.mv (.t 44))) (.c (.q 11 [] (.mv (.t 45))) .nil))))))))))))) t6_32)
def t6_33 := b6_33
theorem u6_33 : vcK P t6_33 k e w = vcK P b6_33 k e w := rfl
abbrev b6_34 : X := (.seq (.seq (.reg [2, 3, 4, 5, 35] (.c (.q 34 [] (.mv (.t 9))) (.c (.q 35 [] (.bin .lss (.t 34) (.c (.int .i64 0)))) .nil))) t6_4) t6_33)
def t6_34 := b6_34
theorem u6_34 : vcK P t6_34 k e w = vcK P b6_34 k e w := rfl
abbrev b6_35 : X := (.seq (.reg [2, 3, 4, 5, 9] (.c (.q 31 [] (.lda 2 (.t 5))) (.c (.q 32 [] (.mv (.t 9))) (.c (.e (some 33) [] (.call false 13 [(.t 31), (.t 32)])) (.c (.q 9 [] (.mv (.t 33))) .nil))))) t6_34)
def t6_35 := b6_35
theorem u6_35 : vcK P t6_35 k e w = vcK P b6_35 k e w := rfl
abbrev b6_36 : X := (.seq (.seq (.reg [2, 3, 4, 5, 9, 30] (.c (.q 29 [] (.mv (.t 9))) (.c (.q 30 [] (.bin .lss (.t 29) (.c (.int .i64 0)))) .nil))) t6_3) t6_35)
def t6_36 := b6_36
theorem u6_36 : vcK P t6_36 k e w = vcK P b6_36 k e w := rfl
abbrev b6_37 : X := (.seq (.reg [2, 3, 4, 5, 9] (.c (.q 26 [] (.lda 3 (.t 4))) (.c (.q 27 [] (.mv (.t 9))) (.c (.e (some 28) [] (.call false 12 [(.t 26), (.t 27)])) (.c (.q 9 [] (.mv (.t 28))) .nil))))) t6_36)
def t6_37 := b6_37
theorem u6_37 : vcK P t6_37 k e w = vcK P b6_37 k e w := rfl
abbrev b6_38 : X := (.seq (.reg [2, 3, 4, 5, 9] (.c (.q 9 [] (.mv (.c (.int .i64 1048576)))) .nil)) t6_37)
def t6_38 := b6_38
theorem u6_38 : vcK P t6_38 k e w = vcK P b6_38 k e w := rfl
abbrev b6_39 : X := (.seq (.seq (.reg [2, 3, 4, 5, 25] (.c (.q 23 [] (.mv (.t 3))) (.c (.q 24 [] (.len (.t 23))) (.c (.q 25 [] (.bin .gtr (.t 24) (.c (.int .i64 1048576)))) .nil)))) t6_2) t6_38)
def t6_39 := b6_39
theorem u6_39 : vcK P t6_39 k e w = vcK P b6_39 k e w := rfl
abbrev b6_40 : X := (.seq (.seq (.reg [2, 3, 4, 5, 22] (.c (.q 20 [] (.mv (.t 2))) (.c (.q 21 [] (.len (.t 20))) (.c (.q 22 [] (.bin .gtr (.t 21) (.c (.int .i64 1048576)))) .nil)))) t6_1) t6_39)
def t6_40 := b6_40
theorem u6_40 : vcK P t6_40 k e w = vcK P b6_40 k e w := rfl
abbrev b6_0 : X := (.seq (.reg [2, 3, 4, 5] (.c (.e (some 4) [] (.box 24 (.t 0))) (.c (.e (some 5) [] (.box 26 (.t 1))) (.c (.q 8 [] (.mv (.c (.bool false)))) .nil)))) t6_40)
def x_lFnExactRepairLayers := b6_0
theorem u6_0 : vcK P x_lFnExactRepairLayers k e w = vcK P b6_0 k e w := rfl
def r_lFnExactRepairLayers : List XO := [(.mv (.t 8))]
theorem c_lFnExactRepairLayers : convF Try.prog [89, 116, 117, 121, 143, 161, 162, 163, 166, 168, 234] Try.f6 [([2, 3, 4, 5], []), ([2, 3, 4, 5, 22], []), ([8], []), ([2, 3, 4, 5, 25], []), ([8], []), ([2, 3, 4, 5, 9], []), ([2, 3, 4, 5, 9], []), ([2, 3, 4, 5, 9, 30], []), ([8], []), ([2, 3, 4, 5, 9], []), ([2, 3, 4, 5, 35], []), ([8], []), ([2, 3, 4, 5, 10, 11], []), ([2, 3, 4, 5, 10, 11, 12], []), ([2, 3, 4, 5, 10, 11, 12, 13, 14], []), ([2, 3, 4, 5, 10, 11, 12, 13, 14, 65], []), ([8], []), ([2, 3, 4, 5, 10, 11, 12, 13, 14, 70], []), ([8], []), ([2, 3, 4, 5, 10, 11, 12, 13, 14, 15], []), ([2, 3, 4, 5, 10, 11, 13, 14, 15], []), ([2, 3, 4, 5, 10, 11, 13, 86], []), ([8], []), ([2, 3, 4, 5, 10, 11, 13, 16], []), ([2, 3, 4, 5, 10, 11, 13, 16], []), ([2, 3, 4, 5, 10, 11, 13, 16, 17], []), ([2, 3, 4, 5, 10, 11, 13, 16, 17], []), ([2, 3, 4, 5, 10, 11, 13, 16, 17, 94], []), ([8], []), ([2, 3, 4, 5, 10, 11, 13, 16, 97], []), ([8], []), ([10, 11, 13, 16, 18, 19], []), ([13, 16, 116], []), ([8], []), ([13, 16, 17], []), ([16, 17], []), ([16, 17, 121], []), ([8], []), ([124], []), ([8], []), ([8], [])] = some (x_lFnExactRepairLayers, r_lFnExactRepairLayers) := by kernel_rfl
def us_lFnExactRepairLayers := aI @u6_0 (aI @u6_1 (aI @u6_2 (aI @u6_3 (aI @u6_4 (aI @u6_5 (aI @u6_6 (aI @u6_7 (aI @u6_8 (aI @u6_9 (aI @u6_10 (aI @u6_11 (aI @u6_12 (aI @u6_13 (aI @u6_14 (aI @u6_15 (aI @u6_16 (aI @u6_17 (aI @u6_18 (aI @u6_19 (aI @u6_20 (aI @u6_21 (aI @u6_22 (aI @u6_23 (aI @u6_24 (aI @u6_25 (aI @u6_26 (aI @u6_27 (aI @u6_28 (aI @u6_29 (aI @u6_30 (aI @u6_31 (aI @u6_32 (aI @u6_33 (aI @u6_34 (aI @u6_35 (aI @u6_36 (aI @u6_37 (aI @u6_38 (aI @u6_39 @u6_40)))))))))))))))))))))))))))))))))))))))
end

/-- Are the layers asked, and come they to the row? -/
def LayOk (nm : Bs) (st : Int) (cs : List Bs) (b s f t : Bs) : Prop := RepOk nm st cs b s f t ∧ (lastK (hs3 (HC st.toNat cs b s)) f t).isSome = true
instance (nm : Bs) (st : Int) (cs : List Bs) (b s f t : Bs) : Decidable (LayOk nm st cs b s f t) := by unfold LayOk; infer_instance
theorem lay_dec {nm : Bs} {n : Nat} {cs : List Bs} {b s f t : Bs} (hR : RepOk nm n cs b s f t) : decide (LayOk nm n cs b s f t) = (lastK (hs3 (HC n cs b s)) f t).isSome := by
  by_cases h : (lastK (hs3 (HC n cs b s)) f t).isSome = true
  · rw [h, decide_eq_true (show LayOk nm n cs b s f t from ⟨hR, h⟩)]
  · rw [decide_eq_false (fun hh : LayOk nm n cs b s f t => h hh.2)]
    exact (Bool.not_eq_true _ ▸ h).symm
def layV (nm : Bs) (st : Int) (cs : List Bs) (b s f t : Bs) : List (List Bs) := if RepOk nm st cs b s f t then laysV (hs3 (HC st.toNat cs b s)) f t else []
section
variable (nm : Bs) (st : Int) (v : Value) (cs : List Bs) (b s f t : Bs) (hnm : nm.length ≤ 1048576) (hs : ∀ c ∈ cs, c.length ≤ 1048576) (hl : cs.length ≤ 1000000000) (hb : b.length ≤ 1048576 ∧ s.length ≤ 1048576)
include hnm hs hl hb
theorem iRepairLayers_ok (w : World) (h : Sq fS 1 w v cs) : Fn 28 [mV nm st v, kV b s, S f, S t] w (fun r w' => ∃ x, r = .tuple ⟨[x, .bool (decide (LayOk nm st cs b s f t))]⟩ ∧ NestU fS 9 22 w.heap.size w'.heap.size w' x (layV nm st cs b s f t)) := by
  (refine callsV_of mix Try.func28 c_iRepairLayers ?_; simp only [↓vsd, vsn, gW, qd, qv, ev, pick, argE, zipE, ne_eq, eq_self, forall_const, implies_true, if_true, if_false, reduceIte, reduceCtorEq, Nat.reduceEqDiff, Nat.reduceAdd, Nat.reduceLT, ↓us_iRepairLayers, r_iRepairLayers])
  refine m_al ?_
  rintro b1 w1 hb1 hblk1 hx1 hs1
  have h1 : Blk w1 b1 (fM nm st v) 31 := hblk1
  simp only [↓vsd, vsn, gW, qd, qv, ev, pick, argE, zipE, ne_eq, eq_self, forall_const, implies_true, if_true, if_false, reduceIte, reduceCtorEq, Nat.reduceEqDiff, Nat.reduceAdd, Nat.reduceLT, ↓us_iRepairLayers, r_iRepairLayers, h1.facts, fMg]
  refine m_al ?_
  rintro b2 w2 hb2 hblk2 hx2 hs2
  have h2 : Blk w2 b2 (fQ b s) 33 := hblk2
  have h12 := h1.ext hx2
  have hx12 := hx1.trans hx2
  simp only [↓vsd, vsn, gW, qd, qv, ev, pick, argE, zipE, ne_eq, eq_self, forall_const, implies_true, if_true, if_false, reduceIte, reduceCtorEq, Nat.reduceEqDiff, Nat.reduceAdd, Nat.reduceLT, ↓us_iRepairLayers, r_iRepairLayers, h12.facts, h2.facts, fMg, fQg]
  refine m_call (igoodRepair_ok nm st v cs b s f t hnm hs hl hb _ (by first | exact h.ext hx12 | exact h.ext (dr hx12))) ?_
  rintro _ w3 hx3 rfl
  have hx3 : Ext w2 w3 := by first | exact hx3 | exact ud hx3 | exact ud (ud hx3)
  have hx13 := hx12.trans hx3
  have h13 := h12.ext hx3
  have h23 := h2.ext hx3
  by_cases hR : RepOk nm st cs b s f t
  · obtain ⟨n, rfl⟩ : ∃ n : Nat, st = n := ⟨st.toNat, by have := hR.2.1.1.2.1; omega⟩
    have hf : IsRow f ∧ f.length = n := ⟨hR.2.2.1.1, by have := hR.2.2.1.2; omega⟩
    have hd := decide_eq_true hR
    simp only [↓vsd, vsn, gW, qd, qv, ev, pick, argE, zipE, ne_eq, eq_self, forall_const, implies_true, if_true, if_false, reduceIte, reduceCtorEq, Nat.reduceEqDiff, Nat.reduceAdd, Nat.reduceLT, ↓us_iRepairLayers, r_iRepairLayers, hd, h13.facts, h23.facts, fMg, fQg]
    refine m_call (irepairLayers_ok nm n v cs b s f t hR.2.1 hf _ (by first | exact h.ext hx13 | exact h.ext (dr hx13))) ?_
    rintro _ w4 hx4 ⟨x, rfl, hN⟩
    have hx4 : Ext w3 w4 := by first | exact hx4 | exact ud hx4 | exact ud (ud hx4)
    simp only [↓vsd, vsn, gW, qd, qv, ev, pick, argE, zipE, ne_eq, eq_self, forall_const, implies_true, if_true, if_false, reduceIte, reduceCtorEq, Nat.reduceEqDiff, Nat.reduceAdd, Nat.reduceLT, ↓us_iRepairLayers, r_iRepairLayers]
    exact ⟨hx13.trans hx4, x, by rw [lay_dec hR], by rw [layV, if_pos hR]; exact hN.mono hx13.size (Nat.le_refl _)⟩
  · have hd := decide_eq_false hR
    simp only [↓vsd, vsn, gW, qd, qv, ev, pick, argE, zipE, ne_eq, eq_self, forall_const, implies_true, if_true, if_false, reduceIte, reduceCtorEq, Nat.reduceEqDiff, Nat.reduceAdd, Nat.reduceLT, ↓us_iRepairLayers, r_iRepairLayers, hd]
    exact ⟨hx13, _, by rw [decide_eq_false (fun hh : LayOk nm st cs b s f t => hR hh.1)], by rw [layV, if_neg hR]; exact NestU.nil⟩
theorem sRepairLayers_ok (w : World) (h : Sq fS 1 w v cs) : Fn 27 [mV nm st v, kV b s, S f, S t] w (fun r w' => ∃ x, r = .tuple ⟨[x, .bool (decide (LayOk nm st cs b s f t))]⟩ ∧ NestU fS 9 22 w.heap.size w'.heap.size w' x (layV nm st cs b s f t)) := by
  (refine callsV_of mix Try.func27 c_sRepairLayers ?_; simp only [↓vsd, vsn, gW, qd, qv, ev, pick, argE, zipE, ne_eq, eq_self, forall_const, implies_true, if_true, if_false, reduceIte, reduceCtorEq, Nat.reduceEqDiff, Nat.reduceAdd, Nat.reduceLT, ↓us_sRepairLayers, r_sRepairLayers])
  refine m_al ?_
  rintro b1 w1 hb1 hblk1 hx1 hs1
  have h1 : Blk w1 b1 (fM nm st v) 31 := hblk1
  simp only [↓vsd, vsn, gW, qd, qv, ev, pick, argE, zipE, ne_eq, eq_self, forall_const, implies_true, if_true, if_false, reduceIte, reduceCtorEq, Nat.reduceEqDiff, Nat.reduceAdd, Nat.reduceLT, ↓us_sRepairLayers, r_sRepairLayers, h1.facts, fMg]
  refine m_al ?_
  rintro b2 w2 hb2 hblk2 hx2 hs2
  have h2 : Blk w2 b2 (fQ b s) 33 := hblk2
  have h12 := h1.ext hx2
  have hx12 := hx1.trans hx2
  simp only [↓vsd, vsn, gW, qd, qv, ev, pick, argE, zipE, ne_eq, eq_self, forall_const, implies_true, if_true, if_false, reduceIte, reduceCtorEq, Nat.reduceEqDiff, Nat.reduceAdd, Nat.reduceLT, ↓us_sRepairLayers, r_sRepairLayers, h12.facts, h2.facts, fMg, fQg]
  refine m_call (sl15Asked_ok nm st v cs b s f t hnm hs hl hb _ (by first | exact h.ext hx12 | exact h.ext (dr hx12))) ?_
  rintro _ w3 hx3 rfl
  have hx3 : Ext w2 w3 := by first | exact hx3 | exact ud hx3 | exact ud (ud hx3)
  have hx13 := hx12.trans hx3
  have h13 := h12.ext hx3
  have h23 := h2.ext hx3
  by_cases hR : RepOk nm st cs b s f t
  · obtain ⟨n, rfl⟩ : ∃ n : Nat, st = n := ⟨st.toNat, by have := hR.2.1.1.2.1; omega⟩
    have hf : IsRow f ∧ f.length = n := ⟨hR.2.2.1.1, by have := hR.2.2.1.2; omega⟩
    have hd := decide_eq_true hR
    simp only [↓vsd, vsn, gW, qd, qv, ev, pick, argE, zipE, ne_eq, eq_self, forall_const, implies_true, if_true, if_false, reduceIte, reduceCtorEq, Nat.reduceEqDiff, Nat.reduceAdd, Nat.reduceLT, ↓us_sRepairLayers, r_sRepairLayers, hd, h13.facts, h23.facts, fMg, fQg]
    refine m_call (sl15Layers_ok nm n v cs b s f t hR.2.1 hf _ (by first | exact h.ext hx13 | exact h.ext (dr hx13))) ?_
    rintro _ w4 hx4 ⟨x, rfl, hN⟩
    have hx4 : Ext w3 w4 := by first | exact hx4 | exact ud hx4 | exact ud (ud hx4)
    simp only [↓vsd, vsn, gW, qd, qv, ev, pick, argE, zipE, ne_eq, eq_self, forall_const, implies_true, if_true, if_false, reduceIte, reduceCtorEq, Nat.reduceEqDiff, Nat.reduceAdd, Nat.reduceLT, ↓us_sRepairLayers, r_sRepairLayers]
    exact ⟨hx13.trans hx4, x, by rw [lay_dec hR], by rw [layV, if_pos hR]; exact hN.mono hx13.size (Nat.le_refl _)⟩
  · have hd := decide_eq_false hR
    simp only [↓vsd, vsn, gW, qd, qv, ev, pick, argE, zipE, ne_eq, eq_self, forall_const, implies_true, if_true, if_false, reduceIte, reduceCtorEq, Nat.reduceEqDiff, Nat.reduceAdd, Nat.reduceLT, ↓us_sRepairLayers, r_sRepairLayers, hd]
    exact ⟨hx13, _, by rw [decide_eq_false (fun hh : LayOk nm st cs b s f t => hR hh.1)], by rw [layV, if_neg hR]; exact NestU.nil⟩
end
theorem leqStringSS_ok (v1 v2 : Value) (l1 l2 : List (List Bs)) (w : World) (h1 : Sq2 fS w v1 l1) (h2 : Sq2 fS w v2 l2) (hl : l1.length ≤ 1000000) (hs : ∀ x ∈ l1, x.length ≤ 1000000) : Fn 29 [v1, v2] w (fun v _ => v = .bool (decide (l1 = l2))) := by
  (refine callsV_of mix Try.func29 c_leqStringSS ?_; simp only [↓vsd, vsn, gW, qd, qv, ev, pick, argE, zipE, ne_eq, eq_self, forall_const, implies_true, if_true, if_false, reduceIte, reduceCtorEq, Nat.reduceEqDiff, Nat.reduceAdd, Nat.reduceLT, ↓us_leqStringSS, r_leqStringSS])
  simp only [↓vsd, vsn, gW, qd, qv, ev, pick, argE, zipE, ne_eq, eq_self, forall_const, implies_true, if_true, if_false, reduceIte, reduceCtorEq, Nat.reduceEqDiff, Nat.reduceAdd, Nat.reduceLT, ↓us_leqStringSS, r_leqStringSS, h1.facts, h2.facts]
  refine ⟨fun hne => ⟨Ext.refl _, by have : ¬ l1 = l2 := fun e => hne (by rw [e]); simp [this]⟩, fun he => ?_⟩
  have he : l1.length = l2.length := by omega
  refine m_upto l1.length (fun i vs w' => vs = [.int .i64 i] ∧ (∀ j < i, l1.getD j [] = l2.getD j []) ∧ Ext w w') ⟨rfl, fun j hj => by omega, Ext.refl _⟩ ?_
  rintro i vs w1 hi ⟨rfl, hall, hx1⟩
  have hq1 := h1.ext hx1
  have hq2 := h2.ext hx1
  by_cases hlt : i < l1.length
  · have hltI : (i : Int) < l1.length := by omega
    have hltJ : ¬ (l1.length : Int) ≤ i := by omega
    obtain ⟨u1, a1, hu1⟩ := hq1.at hlt
    obtain ⟨u2, a2, hu2⟩ := hq2.at (show i < l2.length by omega)
    simp only [↓vsd, vsn, gW, qd, qv, ev, pick, argE, zipE, ne_eq, eq_self, forall_const, implies_true, if_true, if_false, reduceIte, reduceCtorEq, Nat.reduceEqDiff, Nat.reduceAdd, Nat.reduceLT, ↓us_leqStringSS, r_leqStringSS, hltI, hltJ, hq1.facts, hq2.facts, a1, a2]
    refine ⟨by omega, by omega, m_call (leqStringS_ok u1 u2 _ _ _ (by first | exact hu1 | exact hu1.ext (dr (Ext.refl _))) (by first | exact hu2 | exact hu2.ext (dr (Ext.refl _))) (by have := hs _ (getD_mem [] hlt); omega)) ?_⟩
    rintro _ w2 hx2 rfl
    have hx2 : Ext w1 w2 := by first | exact hx2 | exact ud hx2 | exact ud (ud hx2)
    have hx12 := hx1.trans hx2
    simp only [↓vsd, vsn, gW, qd, qv, ev, pick, argE, zipE, ne_eq, eq_self, forall_const, implies_true, if_true, if_false, reduceIte, reduceCtorEq, Nat.reduceEqDiff, Nat.reduceAdd, Nat.reduceLT, ↓us_leqStringSS, r_leqStringSS]
    refine ⟨fun hne => ⟨hx12, ?_⟩, fun heq => ⟨inR_i64 (by omega), UpTo.next hlt ⟨by simp, fun j hj => ?_, hx12⟩⟩⟩
    · exact (decide_eq_false fun e => hne (by rw [e])).symm
    · by_cases hji : j = i
      · subst hji; exact heq
      · exact hall j (by omega)
  · obtain rfl : i = l1.length := by omega
    have hltI : ¬ (l1.length : Int) < l1.length := by omega
    simp only [↓vsd, vsn, gW, qd, qv, ev, pick, argE, zipE, ne_eq, eq_self, forall_const, implies_true, if_true, if_false, reduceIte, reduceCtorEq, Nat.reduceEqDiff, Nat.reduceAdd, Nat.reduceLT, ↓us_leqStringSS, r_leqStringSS, hq1.facts, hltI]
    exact ⟨hx1, (decide_eq_true (ext_getD he hall)).symm⟩
/-- How many texts lie ahead of list i. -/
def offS (ls : List (List Bs)) (i : Nat) : Nat := (ls.take i).flatten.length
theorem offS_succ (ls : List (List Bs)) (i : Nat) (hi : i < ls.length) : offS ls (i + 1) = offS ls i + (ls.getD i []).length := by
  unfold offS
  rw [List.take_add_one, List.getElem?_eq_getElem hi, List.getD_eq_getElem?_getD, List.getElem?_eq_getElem hi, List.flatten_append, List.length_append]
  simp
theorem offS_le (ls : List (List Bs)) (i : Nat) : offS ls i ≤ ls.flatten.length := by
  have : ls.flatten = (ls.take i).flatten ++ (ls.drop i).flatten := by rw [← List.flatten_append, List.take_append_drop]
  unfold offS
  rw [this, List.length_append]; omega
/-- The lists below i hold marks. -/
def Marked (ls : List (List Bs)) (k i : Nat) (M : List (List Bs)) : Prop := M.length = ls.length ∧ ∀ j < ls.length, M.getD j [] = if j < i then marksL (k + offS ls j) (ls.getD j []).length else ls.getD j []
theorem lmarkStringSS_ok (v : Value) (ls : List (List Bs)) (B T k : Nat) (hl : ls.length ≤ 1000000 ∧ ls.flatten.length ≤ 1000000) (hk : k ≤ 1000000) (w : World) (hB : B ≤ w.heap.size) (h : NestU fS 9 22 B T w v ls) :
    CallsV Try.prog 30 [v, .int .i64 k] w (fun v' w' => v' = .int .i64 (k + ls.flatten.length : Nat) ∧ (∃ M, Marked ls k ls.length M ∧ NestU fS 9 22 B T w' v M) ∧ Below B w w') := by
  (refine callsV_of mix Try.func30 c_lmarkStringSS ?_; simp only [↓vsd, vsn, gW, qd, qv, ev, pick, argE, zipE, ne_eq, eq_self, forall_const, implies_true, if_true, if_false, reduceIte, reduceCtorEq, Nat.reduceEqDiff, Nat.reduceAdd, Nat.reduceLT, ↓us_lmarkStringSS, r_lmarkStringSS])
  refine m_upto ls.length (fun i vs w' => vs = [.int .i64 (k + offS ls i : Nat), .int .i64 i] ∧ (∃ M, Marked ls k i M ∧ NestU fS 9 22 B T w' v M) ∧ Below B w w') ⟨by simp [offS], ⟨ls, ⟨rfl, fun j hj => by simp⟩, h⟩, Below.refl _ _⟩ ?_
  rintro i vs w1 hi ⟨rfl, ⟨M, hM, hN⟩, hb⟩
  have hbw : B ≤ w1.heap.size := Nat.le_trans hB hb.size
  have hq := hN.sq
  by_cases hlt : i < ls.length
  · have hltI : (i : Int) < ls.length := by omega
    have hltJ : ¬ (ls.length : Int) ≤ i := by omega
    have hle := offS_le ls (i + 1)
    have hsc := offS_succ ls i hlt
    have hMi := hM.2 i hlt
    rw [if_neg (by omega)] at hMi
    obtain ⟨us, o1, o2, o3, o4⟩ := hN
    have a1 := o1.sq.at1 SV.nil (i := i) (by rw [o3, hM.1]; exact hlt)
    obtain ⟨p1, p2, p3⟩ := o4 i (by rw [hM.1]; exact hlt)
    rw [hMi] at p1
    have hml := hM.1
    simp only [↓vsd, vsn, gW, qd, qv, ev, pick, argE, zipE, ne_eq, eq_self, forall_const, implies_true, if_true, if_false, reduceIte, reduceCtorEq, Nat.reduceEqDiff, Nat.reduceAdd, Nat.reduceLT, ↓us_lmarkStringSS, r_lmarkStringSS, hltI, hltJ, hq.facts, hml, a1, fSV_get]
    refine ⟨by omega, m_callw (by first | exact .inl rfl | exact .inr rfl) (lmarkStringS_ok _ _ B (k + offS ls i) (by omega) (by omega) _ p1) ?_⟩
    rintro _ w2 ⟨rfl, p1b, hg⟩
    simp only [↓vsd, vsn, gW, qd, qv, ev, pick, argE, zipE, ne_eq, eq_self, forall_const, implies_true, if_true, if_false, reduceIte, reduceCtorEq, Nat.reduceEqDiff, Nat.reduceAdd, Nat.reduceLT, ↓us_lmarkStringSS, r_lmarkStringSS]
    refine ⟨inR_i64 (by omega), UpTo.next hlt ⟨by rw [hsc]; simp; omega, ⟨M.set i (marksL (k + offS ls i) (ls.getD i []).length), ⟨by rw [List.length_set, hM.1], fun j hj => ?_⟩, us, o1.off hg (fun c hc e => (p2 c hc).2 e), o2, by rw [List.length_set]; exact o3, fun j hj => ?_⟩, ?_⟩⟩
    · rw [getD_set]
      by_cases hji : i = j
      · subst hji
        rw [if_pos ⟨rfl, by rw [hM.1]; exact hj⟩, if_pos (by omega)]
      · rw [if_neg (fun hh => hji hh.1), hM.2 j hj]
        by_cases h1 : j < i
        · rw [if_pos h1, if_pos (by omega)]
        · rw [if_neg h1, if_neg (by omega)]
    · rw [List.length_set] at hj
      rw [getD_set]
      obtain ⟨q1, q2, q3⟩ := o4 j hj
      by_cases hji : i = j
      · subst hji
        rw [if_pos ⟨rfl, hj⟩]
        exact ⟨p1b, q2, q3⟩
      · rw [if_neg (fun hh => hji hh.1)]
        refine ⟨q1.off hg fun c hc e => ?_, q2, q3⟩
        rcases Nat.lt_or_ge j i with h1 | h1
        · exact p3 j h1 c hc e
        · exact q3 i (by omega) c e hc
    · exact Below.trans hb ⟨hg.os, hg.tape, hg.output, hg.size, fun c hc => hg.block c (Nat.lt_of_lt_of_le hc hbw) fun e => by have := (p1.bound c e.symm).1; omega⟩
  · obtain rfl : i = ls.length := by omega
    have hltI : ¬ (ls.length : Int) < ls.length := by omega
    have hml := hM.1
    simp only [↓vsd, vsn, gW, qd, qv, ev, pick, argE, zipE, ne_eq, eq_self, forall_const, implies_true, if_true, if_false, reduceIte, reduceCtorEq, Nat.reduceEqDiff, Nat.reduceAdd, Nat.reduceLT, ↓us_lmarkStringSS, r_lmarkStringSS, hq.facts, hml, hltI]
    exact ⟨by simp [offS], ⟨M, hM, hN⟩, hb⟩
theorem lheldStringSS_ok (v : Value) (ls M : List (List Bs)) (k : Nat) (hl : ls.length ≤ 1000000 ∧ ls.flatten.length ≤ 1000000) (hk : k ≤ 1000000) (hM : Marked ls k ls.length M) (w : World) (h : Sq2 fS w v M) :
    Fn 31 [v, .int .i64 k] w (fun v' _ => v' = .int .i64 (k + ls.flatten.length : Nat)) := by
  have hml := hM.1
  (refine callsV_of mix Try.func31 c_lheldStringSS ?_; simp only [↓vsd, vsn, gW, qd, qv, ev, pick, argE, zipE, ne_eq, eq_self, forall_const, implies_true, if_true, if_false, reduceIte, reduceCtorEq, Nat.reduceEqDiff, Nat.reduceAdd, Nat.reduceLT, ↓us_lheldStringSS, r_lheldStringSS])
  refine m_upto ls.length (fun i vs w' => vs = [.int .i64 (k + offS ls i : Nat), .int .i64 i] ∧ Ext w w') ⟨by simp [offS], Ext.refl _⟩ ?_
  rintro i vs w1 hi ⟨rfl, hx1⟩
  have hq1 := h.ext hx1
  by_cases hlt : i < ls.length
  · have hltI : (i : Int) < ls.length := by omega
    have hltJ : ¬ (ls.length : Int) ≤ i := by omega
    have hle := offS_le ls (i + 1)
    have hsc := offS_succ ls i hlt
    have hMi := hM.2 i hlt
    rw [if_pos hlt] at hMi
    obtain ⟨u, a1, hu⟩ := hq1.at (show i < M.length by omega)
    rw [hMi] at hu
    simp only [↓vsd, vsn, gW, qd, qv, ev, pick, argE, zipE, ne_eq, eq_self, forall_const, implies_true, if_true, if_false, reduceIte, reduceCtorEq, Nat.reduceEqDiff, Nat.reduceAdd, Nat.reduceLT, ↓us_lheldStringSS, r_lheldStringSS, hltI, hltJ, hq1.facts, hml, a1]
    refine ⟨by omega, m_call (lheldStringS_ok u _ (k + offS ls i) (by omega) (by omega) _ hu) ?_⟩
    rintro _ w2 hx2 rfl
    have hnn : ¬ ((k + offS ls i + (ls.getD i []).length : Nat) : Int) < 0 := by omega
    simp only [↓vsd, vsn, gW, qd, qv, ev, pick, argE, zipE, ne_eq, eq_self, forall_const, implies_true, if_true, if_false, reduceIte, reduceCtorEq, Nat.reduceEqDiff, Nat.reduceAdd, Nat.reduceLT, ↓us_lheldStringSS, r_lheldStringSS, hnn]
    exact ⟨inR_i64 (by omega), UpTo.next hlt ⟨by rw [hsc]; simp; omega, hx1.trans hx2⟩⟩
  · obtain rfl : i = ls.length := by omega
    have hltI : ¬ (ls.length : Int) < ls.length := by omega
    simp only [↓vsd, vsn, gW, qd, qv, ev, pick, argE, zipE, ne_eq, eq_self, forall_const, implies_true, if_true, if_false, reduceIte, reduceCtorEq, Nat.reduceEqDiff, Nat.reduceAdd, Nat.reduceLT, ↓us_lheldStringSS, r_lheldStringSS, hq1.facts, hml, hltI]
    exact ⟨hx1, by simp [offS]⟩
theorem Sq2.below {α : Type} {f : α → List Value} {E1 E2 : TypeId} {B T B2 : Nat} {w w' : World} {o : Value} {ls : List (List α)} (h : NestU f E1 E2 B T w o ls) (hb : Below B2 w w') (hT : T ≤ B2) : NestU f E1 E2 B T w' o ls := by
  obtain ⟨vs, h1, h2, h3, h4⟩ := h
  exact ⟨vs, h1.same fun g hg => hb.block g (Nat.lt_of_lt_of_le (h2 g hg) hT), h2, h3, fun i hi => ⟨(h4 i hi).1.same fun g hg => hb.block g (Nat.lt_of_lt_of_le ((h4 i hi).2.1 g hg).1 hT), (h4 i hi).2⟩⟩
theorem layV_len (nm : Bs) (st : Int) (cs : List Bs) (b s f t : Bs) : (layV nm st cs b s f t).length ≤ 9 ∧ (layV nm st cs b s f t).flatten.length ≤ 1000000 := by
  unfold layV
  split
  · unfold laysV
    generalize hh : hs3 (HC st.toNat cs b s) = hs
    have hhl : hs.length = 3 := by rw [← hh]; rfl
    cases hK : lastK hs f t with
    | none => simp
    | some K =>
      obtain ⟨h1, h2, _, _, h5⟩ := layGo_some hK
      simp only
      have hlen := lays_len hs f K
      obtain ⟨j, rfl⟩ : ∃ j, K = j + 1 := ⟨K - 1, by omega⟩
      have h6 := h5 j (by omega) (by omega)
      have h7 := flat_succ hs f j
      have h8 := layer_next hs f j
      rw [hhl] at h8
      have h9 := layer_le hs f j
      exact ⟨by omega, by omega⟩
  · simp
theorem each_le {ls : List (List Bs)} {n : Nat} (h : ls.flatten.length ≤ n) : ∀ x ∈ ls, x.length ≤ n := fun x hx => by
  obtain ⟨a, b, e⟩ := List.append_of_mem hx
  rw [e] at h
  simp at h
  omega
theorem lFnExactRepairLayers_ok (nm : List UInt8) (st : Int) (v : Value) (cs : List (List UInt8)) (b s f t : List UInt8) (hnm : nm.length ≤ 9223372036854775807) (hl : cs.length ≤ 9223372036854775807) (hs : ∀ x ∈ cs, x.length ≤ 9223372036854775807) (hb : b.length ≤ 9223372036854775807 ∧ s.length ≤ 9223372036854775807) (w : World) (h : Sq fS 1 w v cs) : Fn 6 [mV nm st v, kV b s, S f, S t] w (fun r _ => r = .bool true) := by
  (refine callsV_of mix Try.func6 c_lFnExactRepairLayers ?_; simp only [↓vsd, vsn, gW, qd, qv, ev, pick, argE, zipE, ne_eq, eq_self, forall_const, implies_true, if_true, if_false, reduceIte, reduceCtorEq, Nat.reduceEqDiff, Nat.reduceAdd, Nat.reduceLT, ↓us_lFnExactRepairLayers, r_lFnExactRepairLayers])
  refine m_al ?_
  rintro b1 w1 hb1 hblk1 hx1 hs1
  have h1 : Blk w1 b1 (fM nm st v) 24 := hblk1
  simp only [↓vsd, vsn, gW, qd, qv, ev, pick, argE, zipE, ne_eq, eq_self, forall_const, implies_true, if_true, if_false, reduceIte, reduceCtorEq, Nat.reduceEqDiff, Nat.reduceAdd, Nat.reduceLT, ↓us_lFnExactRepairLayers, r_lFnExactRepairLayers, h1.facts, fMg]
  refine m_al ?_
  rintro b2 w2 hb2 hblk2 hx2 hs2
  have h2 : Blk w2 b2 (fQ b s) 26 := hblk2
  have h12 := h1.ext hx2
  have hx12 := hx1.trans hx2
  simp only [↓vsd, vsn, gW, qd, qv, ev, pick, argE, zipE, ne_eq, eq_self, forall_const, implies_true, if_true, if_false, reduceIte, reduceCtorEq, Nat.reduceEqDiff, Nat.reduceAdd, Nat.reduceLT, ↓us_lFnExactRepairLayers, r_lFnExactRepairLayers, h12.facts, h2.facts, fMg, fQg]
  refine ⟨fun _ => hx12, fun hcf => ⟨fun _ => hx12, fun hct => ?_⟩⟩
  refine m_call (lszMethod_ok nm st v cs 1048576 (by decide) hnm hl hs _ (h.ext hx12)) ?_
  rintro _ w3 hx3 ⟨m, rfl, hm1, hm⟩
  have hx13 := hx12.trans hx3
  have h13 := h12.ext hx3
  have h23 := h2.ext hx3
  simp only [↓vsd, vsn, gW, qd, qv, ev, pick, argE, zipE, ne_eq, eq_self, forall_const, implies_true, if_true, if_false, reduceIte, reduceCtorEq, Nat.reduceEqDiff, Nat.reduceAdd, Nat.reduceLT, ↓us_lFnExactRepairLayers, r_lFnExactRepairLayers, h13.facts, h23.facts, fMg, fQg]
  refine ⟨fun _ => hx13, fun h0 => ?_⟩
  obtain ⟨hnm, hl, hs⟩ := hm h0
  refine m_call (lszCalls_ok b s m ⟨hm1, h0⟩ hb _) ?_
  rintro _ w4 hx4 ⟨m2, rfl, hm21, hm2⟩
  have hx14 := hx13.trans hx4
  have h14 := h13.ext hx4
  have h24 := h23.ext hx4
  simp only [↓vsd, vsn, gW, qd, qv, ev, pick, argE, zipE, ne_eq, eq_self, forall_const, implies_true, if_true, if_false, reduceIte, reduceCtorEq, Nat.reduceEqDiff, Nat.reduceAdd, Nat.reduceLT, ↓us_lFnExactRepairLayers, r_lFnExactRepairLayers, h14.facts, h24.facts, fMg, fQg]
  refine ⟨fun _ => hx14, fun h02 => ?_⟩
  have hb := hm2 h02
  refine m_call (ltoMethod_ok nm st v cs hl _ (by first | exact h.ext hx14 | exact h.ext (dr hx14))) ?_
  rintro _ w5 hx5 ⟨x5, rfl, ho5⟩
  have hx5 : Ext w4 w5 := by first | exact hx5 | exact ud hx5 | exact ud (ud hx5)
  have h25 := h24.ext hx5
  have hx15 := hx14.trans hx5
  simp only [↓vsd, vsn, gW, qd, qv, ev, pick, argE, zipE, ne_eq, eq_self, forall_const, implies_true, if_true, if_false, reduceIte, reduceCtorEq, Nat.reduceEqDiff, Nat.reduceAdd, Nat.reduceLT, ↓us_lFnExactRepairLayers, r_lFnExactRepairLayers, h25.facts, fQg]
  refine m_call (ltoCalls_ok b s _) ?_
  rintro _ w6 hx6 rfl
  have hx6 : Ext w5 w6 := by first | exact hx6 | exact ud hx6 | exact ud (ud hx6)
  have hx16 := hx15.trans hx6
  simp only [↓vsd, vsn, gW, qd, qv, ev, pick, argE, zipE, ne_eq, eq_self, forall_const, implies_true, if_true, if_false, reduceIte, reduceCtorEq, Nat.reduceEqDiff, Nat.reduceAdd, Nat.reduceLT, ↓us_lFnExactRepairLayers, r_lFnExactRepairLayers]
  refine m_call (sRepairLayers_ok nm st x5 cs b s f t hnm hs (by omega) hb _ (ho5.ext hx6).sq) ?_
  rintro _ w7 hx7 ⟨y7, rfl, hN7⟩
  have hx7 : Ext w6 w7 := by first | exact hx7 | exact ud hx7 | exact ud (ud hx7)
  simp only [↓vsd, vsn, gW, qd, qv, ev, pick, argE, zipE, ne_eq, eq_self, forall_const, implies_true, if_true, if_false, reduceIte, reduceCtorEq, Nat.reduceEqDiff, Nat.reduceAdd, Nat.reduceLT, ↓us_lFnExactRepairLayers, r_lFnExactRepairLayers]
  have hx17 := hx16.trans hx7
  have h17 := h14.ext ((hx5.trans hx6).trans hx7)
  have h27 := h25.ext (hx6.trans hx7)
  simp only [↓vsd, vsn, gW, qd, qv, ev, pick, argE, zipE, ne_eq, eq_self, forall_const, implies_true, if_true, if_false, reduceIte, reduceCtorEq, Nat.reduceEqDiff, Nat.reduceAdd, Nat.reduceLT, ↓us_lFnExactRepairLayers, r_lFnExactRepairLayers, h17.facts, h27.facts, fMg, fQg]
  refine m_call (ltoMethod_ok nm st v cs hl _ (by first | exact h.ext hx17 | exact h.ext (dr hx17))) ?_
  rintro _ w8 hx8 ⟨x8, rfl, ho8⟩
  have hx8 : Ext w7 w8 := by first | exact hx8 | exact ud hx8 | exact ud (ud hx8)
  simp only [↓vsd, vsn, gW, qd, qv, ev, pick, argE, zipE, ne_eq, eq_self, forall_const, implies_true, if_true, if_false, reduceIte, reduceCtorEq, Nat.reduceEqDiff, Nat.reduceAdd, Nat.reduceLT, ↓us_lFnExactRepairLayers, r_lFnExactRepairLayers]
  have h18 := h17.ext hx8
  have h28 := h27.ext hx8
  have hx18 := hx17.trans hx8
  refine m_al ?_
  rintro b9 w9 hb9 hblk9 hx9 hs9
  have h19 := h18.ext hx9
  have h29 := h28.ext hx9
  simp only [↓vsd, vsn, gW, qd, qv, ev, pick, argE, zipE, ne_eq, eq_self, forall_const, implies_true, if_true, if_false, reduceIte, reduceCtorEq, Nat.reduceEqDiff, Nat.reduceAdd, Nat.reduceLT, ↓us_lFnExactRepairLayers, r_lFnExactRepairLayers, h19.facts, h29.facts, fMg, fQg]
  refine m_st hblk9 rfl (Nat.le_refl 3) (fM_one nm st x8 ho8.sq.one') ?_
  rintro w10 hblk10 hu10
  have hb10 : Blk w10 b9 (fM nm st x8) 31 := hblk10
  have hx19 := hx18.trans hx9
  have hx110 : Ext w w10 := hu10.below hx19 (by have := hx18.size; omega)
  have ho10 := (ho8.ext hx9).upd hu10 (ho8.away (by omega))
  have h110 := hu10.blk h19 (by have := h18.lt; omega)
  have h210 := hu10.blk h29 (by have := h28.lt; omega)
  simp only [↓vsd, vsn, gW, qd, qv, ev, pick, argE, zipE, ne_eq, eq_self, forall_const, implies_true, if_true, if_false, reduceIte, reduceCtorEq, Nat.reduceEqDiff, Nat.reduceAdd, Nat.reduceLT, ↓us_lFnExactRepairLayers, r_lFnExactRepairLayers, h110.facts, h210.facts, hb10.facts, fMg, fQg]
  refine m_call (ltoCalls_ok b s _) ?_
  rintro _ w11 hx11 rfl
  have hx11 : Ext w10 w11 := by first | exact hx11 | exact ud hx11 | exact ud (ud hx11)
  have h111 := h110.ext hx11
  have h211 := h210.ext hx11
  have hb11 := hb10.ext hx11
  have hx111 := hx110.trans hx11
  simp only [↓vsd, vsn, gW, qd, qv, ev, pick, argE, zipE, ne_eq, eq_self, forall_const, implies_true, if_true, if_false, reduceIte, reduceCtorEq, Nat.reduceEqDiff, Nat.reduceAdd, Nat.reduceLT, ↓us_lFnExactRepairLayers, r_lFnExactRepairLayers, h111.facts, h211.facts, hb11.facts, fMg, fQg]
  have hW10 := ((hN7.ext hx8).ext hx9).off hu10.grown (fun c hc => .inr (by have := Option.some.inj hc; have := hx8.size; omega))
  refine m_call (iRepairLayers_ok nm st x8 cs b s f t hnm hs (by omega) hb _ (ho10.ext hx11).sq) ?_
  rintro _ w12 hxn ⟨y12, rfl, hN12⟩
  have hxn : Ext w11 w12 := by first | exact hxn | exact ud hxn | exact ud (ud hxn)
  have hLl := layV_len nm st cs b s f t
  generalize hmvb : decide (LayOk nm st cs b s f t) = mb at *
  generalize hL : layV nm st cs b s f t = L at *
  have hLe := each_le hLl.2
  have hx112 := hx111.trans hxn
  have hW12 := (hW10.ext hx11).ext hxn
  have ho812 := (ho10.ext hx11).ext hxn
  have h112 := h111.ext hxn
  have h212 := h211.ext hxn
  have hb12 := hb11.ext hxn
  simp only [↓vsd, vsn, gW, qd, qv, ev, pick, argE, zipE, ne_eq, eq_self, forall_const, implies_true, if_true, if_false, reduceIte, reduceCtorEq, Nat.reduceEqDiff, Nat.reduceAdd, Nat.reduceLT, ↓us_lFnExactRepairLayers, r_lFnExactRepairLayers]
  refine m_call (leqStringSS_ok y12 y7 L L _ hN12.sq hW12.sq (by omega) hLe) ?_
  rintro _ w13 hxa rfl
  have hxa : Ext w12 w13 := by first | exact hxa | exact ud hxa | exact ud (ud hxa)
  have hx113 := hx112.trans hxa
  have h113 := h112.ext hxa
  have h213 := h212.ext hxa
  have hb13 := hb12.ext hxa
  simp only [↓vsd, vsn, gW, qd, qv, ev, pick, argE, zipE, ne_eq, eq_self, forall_const, implies_true, if_true, if_false, reduceIte, reduceCtorEq, Nat.reduceEqDiff, Nat.reduceAdd, Nat.reduceLT, ↓us_lFnExactRepairLayers, r_lFnExactRepairLayers, h113.facts, h213.facts, hb13.facts, fMg, fQg]
  refine m_call (ltoMethod_ok nm st v cs hl _ (by first | exact h.ext hx113 | exact h.ext (dr hx113))) ?_
  rintro _ w14 hxb ⟨x14, rfl, ho14⟩
  have hxb : Ext w13 w14 := by first | exact hxb | exact ud hxb | exact ud (ud hxb)
  have hx114 := hx113.trans hxb
  have h114 := h113.ext hxb
  have h214 := h213.ext hxb
  have hb14 := hb13.ext hxb
  simp only [↓vsd, vsn, gW, qd, qv, ev, pick, argE, zipE, ne_eq, eq_self, forall_const, implies_true, if_true, if_false, reduceIte, reduceCtorEq, Nat.reduceEqDiff, Nat.reduceAdd, Nat.reduceLT, ↓us_lFnExactRepairLayers, r_lFnExactRepairLayers, h114.facts, h214.facts, hb14.facts, fMg, fQg]
  refine m_call (leqMethod_ok nm nm st st x8 x14 cs cs (by omega) _ ((ho812.ext hxa).ext hxb).sq ho14.sq) ?_
  rintro _ w15 hxc rfl
  have hxc : Ext w14 w15 := by first | exact hxc | exact ud hxc | exact ud (ud hxc)
  have hx115 := hx114.trans hxc
  have h115 := h114.ext hxc
  have h215 := h214.ext hxc
  have hb15 := hb14.ext hxc
  simp only [↓vsd, vsn, gW, qd, qv, ev, pick, argE, zipE, ne_eq, eq_self, forall_const, implies_true, if_true, if_false, reduceIte, reduceCtorEq, Nat.reduceEqDiff, Nat.reduceAdd, Nat.reduceLT, ↓us_lFnExactRepairLayers, r_lFnExactRepairLayers, h115.facts, h215.facts, hb15.facts, fMg, fQg]
  have ho815 := ((ho812.ext hxa).ext hxb).ext hxc
  have hN15 := ((hN12.ext hxa).ext hxb).ext hxc
  have hW15 := ((hW12.ext hxa).ext hxb).ext hxc
  refine m_callw (.inl rfl) (lmarkMethod_ok nm st x8 cs _ 1 (by omega) (by omega) _ ho815) ?_
  rintro _ w16 ⟨rfl, ho816, hg16⟩
  have hs8 := hx8.size
  have hxs17 := hx17.size
  have hx116 : Ext w w16 := (ho815.mono (B' := w.heap.size) hxs17).grown hx115 (Nat.le_refl _) hg16
  have hx8far : ∀ c, x8.ownBlock = some c → w7.heap.size ≤ c ∧ c < w8.heap.size := fun c hc => ⟨(ho8.bound c hc).1, ho8.lt c hc⟩
  have hs810 : w8.heap.size ≤ w11.heap.size := by have := hx9.size; have := hu10.size; have := hx11.size; omega
  have h116 := h115.same (hg16.block b1 h115.lt (fun e => by have := (hx8far b1 e.symm).1; have := h17.lt; omega))
  have h216 := h215.same (hg16.block b2 h215.lt (fun e => by have := (hx8far b2 e.symm).1; have := h27.lt; omega))
  have hN16 := hN15.off hg16 (fun c hc => .inl (by have := (hx8far c hc).2; omega))
  have hW16 := hW15.off hg16 (fun c hc => .inr (hx8far c hc).1)
  simp only [↓vsd, vsn, gW, qd, qv, ev, pick, argE, zipE, ne_eq, eq_self, forall_const, implies_true, if_true, if_false, reduceIte, reduceCtorEq, Nat.reduceEqDiff, Nat.reduceAdd, Nat.reduceLT, ↓us_lFnExactRepairLayers, r_lFnExactRepairLayers]
  refine ⟨fun _ => ?_, fun hneg => by omega⟩
  refine m_call (leqStringSS_ok y12 y7 L L _ hN16.sq hW16.sq (by omega) hLe) ?_
  rintro _ w17 hxd rfl
  have hxd : Ext w16 w17 := by first | exact hxd | exact ud hxd | exact ud (ud hxd)
  have hx117 := hx116.trans hxd
  simp only [↓vsd, vsn, gW, qd, qv, ev, pick, argE, zipE, ne_eq, eq_self, forall_const, implies_true, if_true, if_false, reduceIte, reduceCtorEq, Nat.reduceEqDiff, Nat.reduceAdd, Nat.reduceLT, ↓us_lFnExactRepairLayers, r_lFnExactRepairLayers]
  refine ⟨fun hneg => by omega, fun _ => ?_⟩
  have hw11 : w11.heap.size ≤ w17.heap.size := by have := hxn.size; have := hxa.size; have := hxb.size; have := hxc.size; have := hg16.size; have := hxd.size; omega
  refine m_callw (.inl rfl) (lmarkStringSS_ok y12 L _ _ 1 (by omega) (by omega) _ hw11 (hN16.ext hxd)) ?_
  rintro _ w18 ⟨rfl, ⟨M, hM, hN18⟩, hb18⟩
  have hx118 : Ext w w18 := Below.trans hx117 (hb18.mono (by have := hx111.size; omega))
  have h118 := (h116.ext hxd).same (hb18.block b1 (by have := h17.lt; omega))
  have h218 := (h216.ext hxd).same (hb18.block b2 (by have := h27.lt; omega))
  have hW18 := Sq2.below (hW16.ext hxd) hb18 (by omega)
  simp only [↓vsd, vsn, gW, qd, qv, ev, pick, argE, zipE, ne_eq, eq_self, forall_const, implies_true, if_true, if_false, reduceIte, reduceCtorEq, Nat.reduceEqDiff, Nat.reduceAdd, Nat.reduceLT, ↓us_lFnExactRepairLayers, r_lFnExactRepairLayers]
  refine m_call (lheldStringSS_ok y12 L M 1 (by omega) (by omega) hM _ hN18.sq) ?_
  rintro _ w19 hxe rfl
  have hxe : Ext w18 w19 := by first | exact hxe | exact ud hxe | exact ud (ud hxe)
  have hx119 := hx118.trans hxe
  have h119 := h118.ext hxe
  have h219 := h218.ext hxe
  simp only [↓vsd, vsn, gW, qd, qv, ev, pick, argE, zipE, ne_eq, eq_self, forall_const, implies_true, if_true, if_false, reduceIte, reduceCtorEq, Nat.reduceEqDiff, Nat.reduceAdd, Nat.reduceLT, ↓us_lFnExactRepairLayers, r_lFnExactRepairLayers, h119.facts, h219.facts, fMg, fQg]
  refine ⟨fun hneg => by omega, fun _ => ?_⟩
  refine m_call (ltoMethod_ok nm st v cs hl _ (by first | exact h.ext hx119 | exact h.ext (dr hx119))) ?_
  rintro _ w20 hx20 ⟨x20, rfl, ho20⟩
  have hx20 : Ext w19 w20 := by first | exact hx20 | exact ud hx20 | exact ud (ud hx20)
  have h220 := h219.ext hx20
  simp only [↓vsd, vsn, gW, qd, qv, ev, pick, argE, zipE, ne_eq, eq_self, forall_const, implies_true, if_true, if_false, reduceIte, reduceCtorEq, Nat.reduceEqDiff, Nat.reduceAdd, Nat.reduceLT, ↓us_lFnExactRepairLayers, r_lFnExactRepairLayers, h220.facts, fQg]
  refine m_call (ltoCalls_ok b s _) ?_
  rintro _ w21 hx21 rfl
  have hx21 : Ext w20 w21 := by first | exact hx21 | exact ud hx21 | exact ud (ud hx21)
  simp only [↓vsd, vsn, gW, qd, qv, ev, pick, argE, zipE, ne_eq, eq_self, forall_const, implies_true, if_true, if_false, reduceIte, reduceCtorEq, Nat.reduceEqDiff, Nat.reduceAdd, Nat.reduceLT, ↓us_lFnExactRepairLayers, r_lFnExactRepairLayers]
  refine m_call (iRepairLayers_ok nm st x20 cs b s f t hnm hs (by omega) hb _ (ho20.ext hx21).sq) ?_
  rintro _ w22 hx22 ⟨y22, rfl, hN22⟩
  have hx22 : Ext w21 w22 := by first | exact hx22 | exact ud hx22 | exact ud (ud hx22)
  have hx1922 := (hx20.trans hx21).trans hx22
  rw [hmvb]
  have hN22 := hN22.to hL
  simp only [↓vsd, vsn, gW, qd, qv, ev, pick, argE, zipE, ne_eq, eq_self, forall_const, implies_true, if_true, if_false, reduceIte, reduceCtorEq, Nat.reduceEqDiff, Nat.reduceAdd, Nat.reduceLT, ↓us_lFnExactRepairLayers, r_lFnExactRepairLayers]
  refine m_call (leqStringSS_ok y22 y7 L L _ hN22.sq ((hW18.ext hxe).ext hx1922).sq (by omega) hLe) ?_
  rintro _ w23 hx23 rfl
  have hx23 : Ext w22 w23 := by first | exact hx23 | exact ud hx23 | exact ud (ud hx23)
  simp only [↓vsd, vsn, gW, qd, qv, ev, pick, argE, zipE, ne_eq, eq_self, forall_const, implies_true, if_true, if_false, reduceIte, reduceCtorEq, Nat.reduceEqDiff, Nat.reduceAdd, Nat.reduceLT, ↓us_lFnExactRepairLayers, r_lFnExactRepairLayers]
  refine m_call (lheldStringSS_ok y12 L M 1 (by omega) (by omega) hM _ (((hN18.ext hxe).ext hx1922).ext hx23).sq) ?_
  rintro _ w24 hx24 rfl
  have hx24 : Ext w23 w24 := by first | exact hx24 | exact ud hx24 | exact ud (ud hx24)
  simp only [↓vsd, vsn, gW, qd, qv, ev, pick, argE, zipE, ne_eq, eq_self, forall_const, implies_true, if_true, if_false, reduceIte, reduceCtorEq, Nat.reduceEqDiff, Nat.reduceAdd, Nat.reduceLT, ↓us_lFnExactRepairLayers, r_lFnExactRepairLayers]
  exact ⟨fun h => by omega, fun _ => ((hx119.trans hx1922).trans hx23).trans hx24⟩
end Go.Proofs.Ytnhealghpfjdcaa
