/-
  Lists turned to begin at another place: the library's Grow and Concat, rotations, TurnList of both sides.
  Conditions: none.
-/
import Derived.Test.YtnincmnkdjlndaaA73
import Derived.Test.YtnincmnkdjlndaaD3
set_option linter.unusedSimpArgs false
set_option linter.unusedVariables false
set_option linter.defProp false
namespace Go.Proofs.Ytnincmnkdjlndaa
open Go Go.RowKit
section
variable (P : Program) (k : KT) (e : Env) (w : World)
abbrev b308_1 : X := (.cond (.t 6) .dead .skip)
def t308_1 := b308_1
theorem u308_1 : vcK P t308_1 k e w = vcK P b308_1 k e w := rfl
abbrev b308_2 : X := (.cond (.t 16) (.reg [0] (.c (.q 17 [] (.mv (.t 0))) (.c (.q 18 [] (.mv (.t 0))) (.c (.q 19 [] (.caps (.t 18))) (.c (.q 20 [] (.ssl 1 (.t 17) none (some (.t 19)))) (.c (.q 21 [] (.mv (.t 1))) (.c (.e (some 22) [] (.apz 24 3 9 1 16 [(S [])] 24 (.t 20) (.t 21))) (.c (.q 23 [] (.mv (.t 0))) (.c (.q 24 [] (.lens (.t 23))) (.c (.q 25 [] (.ssl 1 (.t 22) none (some (.t 24)))) (.c (.q 0 [] (.mv (.t 25))) .nil))))))))))) .skip)
def t308_2 := b308_2
theorem u308_2 : vcK P t308_2 k e w = vcK P b308_2 k e w := rfl
abbrev b308_3 : X := (.seq (.reg [0, 1, 16] (.c (.q 15 [] (.mv (.t 1))) (.c (.q 16 [] (.bin .gtr (.t 15) (.c (.int .i64 0)))) .nil))) t308_2)
def t308_3 := b308_3
theorem u308_3 : vcK P t308_3 k e w = vcK P b308_3 k e w := rfl
abbrev b308_4 : X := (.seq (.reg [4] (.c (.q 26 [] (.mv (.t 0))) (.c (.q 4 [] (.mv (.t 26))) .nil))) .ret)
def t308_4 := b308_4
theorem u308_4 : vcK P t308_4 k e w = vcK P b308_4 k e w := rfl
abbrev b308_5 : X := (.seq (.seq (.reg [0, 1] (.c (.q 8 [] (.mv (.t 1))) (.c (.q 9 [] (.mv (.t 0))) (.c (.q 10 [] (.caps (.t 9))) (.c (.q 11 [] (.mv (.t 0))) (.c (.q 12 [] (.lens (.t 11))) (.c (.q 13 [] (.bin .sub (.t 10) (.t 12))) (.c (.q 14 [] (.bin .sub (.t 8) (.t 13))) (.c (.q 1 [] (.mv (.t 14))) .nil))))))))) t308_3) t308_4)
def t308_5 := b308_5
theorem u308_5 : vcK P t308_5 k e w = vcK P b308_5 k e w := rfl
abbrev b308_6 : X := (.seq (.seq (.reg [0, 1, 6] (.c (.q 5 [] (.mv (.t 1))) (.c (.q 6 [] (.bin .lss (.t 5) (.c (.int .i64 0)))) .nil))) t308_1) t308_5)
def t308_6 := b308_6
theorem u308_6 : vcK P t308_6 k e w = vcK P b308_6 k e w := rfl
abbrev b308_0 : X := (.seq (.reg [0, 1] (.c (.q 4 [] (.mv (.c (.slice none 0 0)))) .nil)) t308_6)
def x_xslices_Grow_string_string := b308_0
theorem u308_0 : vcK P x_xslices_Grow_string_string k e w = vcK P b308_0 k e w := rfl
def r_xslices_Grow_string_string : List XO := [(.mv (.t 4))]
theorem c_xslices_Grow_string_string : convF Try.prog [147, 148, 152, 160, 162, 163, 170, 178, 206, 208, 210, 224, 233, 235, 236, 251, 264, 265, 268, 270, 287, 322] Try.f308 [([0, 1], []), ([0, 1, 6], []), ([0, 1], []), ([0, 1], []), ([0, 1, 16], []), ([0], []), ([4], [])] = some (x_xslices_Grow_string_string, r_xslices_Grow_string_string) := by kernel_rfl
def us_xslices_Grow_string_string :=  (aI (aI @u308_0 (aI @u308_1 @u308_2)) (aI (aI @u308_3 @u308_4) (aI @u308_5 @u308_6)))
abbrev b274_1 : X := (.cond (.t 20) .dead .skip)
def t274_1 := b274_1
theorem u274_1 : vcK P t274_1 k e w = vcK P b274_1 k e w := rfl
abbrev b274_2 : X := (.seq (.reg [0, 3, 9, 10, 11, 20] (.c (.q 19 [] (.mv (.t 3))) (.c (.q 20 [] (.bin .lss (.t 19) (.c (.int .i64 0)))) .nil))) t274_1)
def t274_2 := b274_2
theorem u274_2 : vcK P t274_2 k e w = vcK P b274_2 k e w := rfl
abbrev b274_3 : X := (.seq (.reg [0, 3, 9, 10, 11] (.c (.q 15 [] (.mv (.t 3))) (.c (.q 16 [] (.mv (.t 5))) (.c (.q 17 [] (.lens (.t 16))) (.c (.q 18 [] (.bin .add (.t 15) (.t 17))) (.c (.q 3 [] (.mv (.t 18))) .nil)))))) t274_2)
def t274_3 := b274_3
theorem u274_3 : vcK P t274_3 k e w = vcK P b274_3 k e w := rfl
abbrev b274_4 : X := (.reg [0, 3, 9, 10, 11] (.c (.q 22 [] (.bin .add (.t 11) (.c (.int .i64 1)))) (.c (.q 11 [] (.mv (.t 22))) .nil)))
def t274_4 := b274_4
theorem u274_4 : vcK P t274_4 k e w = vcK P b274_4 k e w := rfl
abbrev b274_5 : X := (.seq (.blk 1 (.seq (.reg [0, 3, 5, 9, 10, 11] (.c (.q 13 [] (.ia 1 (.t 9) (.t 11))) (.c (.q 14 [] (.ld (.t 13))) (.c (.q 5 [] (.mv (.t 14))) .nil)))) t274_3)) t274_4)
def t274_5 := b274_5
theorem u274_5 : vcK P t274_5 k e w = vcK P b274_5 k e w := rfl
abbrev b274_6 : X := (.seq (.cond (.t 12) .skip (.exit 0)) t274_5)
def t274_6 := b274_6
theorem u274_6 : vcK P t274_6 k e w = vcK P b274_6 k e w := rfl
abbrev b274_7 : X := (.seq (.reg [0, 3, 9, 10, 11, 12] (.c (.q 12 [] (.bin .lss (.t 11) (.t 10))) .nil)) t274_6)
def t274_7 := b274_7
theorem u274_7 : vcK P t274_7 k e w = vcK P b274_7 k e w := rfl
abbrev b274_8 : X := (.blk 0 (.loop [3, 11] [0, 9, 10] t274_7))
def t274_8 := b274_8
theorem u274_8 : vcK P t274_8 k e w = vcK P b274_8 k e w := rfl
abbrev b274_9 : X := (.reg [6, 25, 26, 27] (.c (.q 31 [] (.mv (.t 6))) (.c (.q 32 [] (.mv (.t 8))) (.c (.e (some 33) [] (.app 24 9 1 16 [(S [])] 24 (.t 31) (.t 32))) (.c (.q 6 [] (.mv (.t 33))) .nil)))))
def t274_9 := b274_9
theorem u274_9 : vcK P t274_9 k e w = vcK P b274_9 k e w := rfl
abbrev b274_10 : X := (.reg [6, 25, 26, 27] (.c (.q 34 [] (.bin .add (.t 27) (.c (.int .i64 1)))) (.c (.q 27 [] (.mv (.t 34))) .nil)))
def t274_10 := b274_10
theorem u274_10 : vcK P t274_10 k e w = vcK P b274_10 k e w := rfl
abbrev b274_11 : X := (.seq (.blk 3 (.seq (.reg [6, 8, 25, 26, 27] (.c (.q 29 [] (.ia 1 (.t 25) (.t 27))) (.c (.q 30 [] (.ld (.t 29))) (.c (.q 8 [] (.mv (.t 30))) .nil)))) t274_9)) t274_10)
def t274_11 := b274_11
theorem u274_11 : vcK P t274_11 k e w = vcK P b274_11 k e w := rfl
abbrev b274_12 : X := (.seq (.cond (.t 28) .skip (.exit 2)) t274_11)
def t274_12 := b274_12
theorem u274_12 : vcK P t274_12 k e w = vcK P b274_12 k e w := rfl
abbrev b274_13 : X := (.seq (.reg [6, 25, 26, 27, 28] (.c (.q 28 [] (.bin .lss (.t 27) (.t 26))) .nil)) t274_12)
def t274_13 := b274_13
theorem u274_13 : vcK P t274_13 k e w = vcK P b274_13 k e w := rfl
abbrev b274_14 : X := (.blk 2 (.loop [6, 27] [25, 26] t274_13))
def t274_14 := b274_14
theorem u274_14 : vcK P t274_14 k e w = vcK P b274_14 k e w := rfl
abbrev b274_15 : X := (.seq (.reg [2] (.c (.q 35 [] (.mv (.t 6))) (.c (.q 2 [] (.mv (.t 35))) .nil))) .ret)
def t274_15 := b274_15
theorem u274_15 : vcK P t274_15 k e w = vcK P b274_15 k e w := rfl
abbrev b274_16 : X := (.seq (.seq (.reg [6, 25, 26, 27] (.c (.q 25 [] (.mv (.t 0))) (.c (.q 26 [] (.lens (.t 25))) (.c (.q 27 [] (.mv (.c (.int .i64 0)))) .nil)))) t274_14) t274_15)
def t274_16 := b274_16
theorem u274_16 : vcK P t274_16 k e w = vcK P b274_16 k e w := rfl
abbrev b274_17 : X := (.seq (.reg [0, 6] (.c (.q 23 [] (.mv (.t 3))) (.c (.e (some 24) [] (.call false 308 [(.c (.slice none 0 0)), (.t 23)])) (.c (.q 6 [] (.mv (.t 24))) .nil)))) t274_16)
def t274_17 := b274_17
theorem u274_17 : vcK P t274_17 k e w = vcK P b274_17 k e w := rfl
abbrev b274_18 : X := (.seq (.seq (.reg [0, 3, 9, 10, 11] (.c (.q 9 [] (.mv (.t 0))) (.c (.q 10 [] (.lens (.t 9))) (.c (.q 11 [] (.mv (.c (.int .i64 0)))) .nil)))) t274_8) t274_17)
def t274_18 := b274_18
theorem u274_18 : vcK P t274_18 k e w = vcK P b274_18 k e w := rfl
abbrev b274_19 : X := (.seq (.reg [0, 3] (.c (.q 3 [] (.mv (.c (.int .i64 0)))) .nil)) t274_18)
def t274_19 := b274_19
theorem u274_19 : vcK P t274_19 k e w = vcK P b274_19 k e w := rfl
abbrev b274_0 : X := (.seq (.reg [0] (.c (.q 2 [] (.mv (.c (.slice none 0 0)))) .nil)) t274_19)
def x_xslices_Concat_string_string := b274_0
theorem u274_0 : vcK P x_xslices_Concat_string_string k e w = vcK P b274_0 k e w := rfl
def r_xslices_Concat_string_string : List XO := [(.mv (.t 2))]
theorem c_xslices_Concat_string_string : convF Try.prog [147, 148, 152, 160, 162, 163, 170, 178, 206, 208, 210, 224, 233, 235, 236, 251, 264, 265, 268, 270, 287, 322] Try.f274 [([0], []), ([0, 3], []), ([0, 3, 9, 10, 11], []), ([3, 11], [0, 9, 10]), ([0, 3, 9, 10, 11, 12], []), ([0, 3, 5, 9, 10, 11], []), ([0, 3, 9, 10, 11], []), ([0, 3, 9, 10, 11, 20], []), ([0, 3, 9, 10, 11], []), ([0, 3, 9, 10, 11], []), ([0, 6], []), ([6, 25, 26, 27], []), ([6, 27], [25, 26]), ([6, 25, 26, 27, 28], []), ([6, 8, 25, 26, 27], []), ([6, 25, 26, 27], []), ([6, 25, 26, 27], []), ([2], [])] = some (x_xslices_Concat_string_string, r_xslices_Concat_string_string) := by kernel_rfl
def us_xslices_Concat_string_string :=  (aI (aI (aI (aI @u274_0 @u274_1) (aI @u274_2 (aI @u274_3 @u274_4))) (aI (aI @u274_5 @u274_6) (aI @u274_7 (aI @u274_8 @u274_9)))) (aI (aI (aI @u274_10 @u274_11) (aI @u274_12 (aI @u274_13 @u274_14))) (aI (aI @u274_15 @u274_16) (aI @u274_17 (aI @u274_18 @u274_19)))))
abbrev b177_1 : X := (.seq (.drw [4] (.c (.q 5 [] (.mv (.t 0))) (.c (.q 6 [] (.mv (.t 1))) (.c (.q 7 [] (.ssl 1 (.t 5) (some (.t 6)) none)) (.c (.q 8 [] (.mv (.t 0))) (.c (.q 9 [] (.mv (.t 1))) (.c (.q 10 [] (.ssl 1 (.t 8) none (some (.t 9)))) (.c (.e (some 11) [] (.bsl 24 1 [(.t 7), (.t 10)])) (.c (.e (some 12) [] (.call false 274 [(.t 11)])) (.c (.q 4 [] (.mv (.t 12))) .nil)))))))))) .ret)
def t177_1 := b177_1
theorem u177_1 : vcK P t177_1 k e w = vcK P b177_1 k e w := rfl
abbrev b177_0 : X := (.seq (.reg [0, 1] (.c (.q 4 [] (.mv (.c (.slice none 0 0)))) .nil)) t177_1)
def x_irotated := b177_0
theorem u177_0 : vcK P x_irotated k e w = vcK P b177_0 k e w := rfl
def r_irotated : List XO := [(.mv (.t 4))]
theorem c_irotated : convF Try.prog [147, 148, 152, 160, 162, 163, 170, 178, 206, 208, 210, 224, 233, 235, 236, 251, 264, 265, 268, 270, 287, 322] Try.f177 [([0, 1], []), ([4], [])] = some (x_irotated, r_irotated) := by kernel_rfl
def us_irotated :=  (aI @u177_0 @u177_1)
abbrev b175_1 : X := (.reg [0, 5, 9, 10, 11] (.c (.q 15 [] (.mv (.t 5))) (.c (.q 16 [] (.mv (.t 0))) (.c (.q 17 [] (.mv (.t 7))) (.c (.e (some 18) [] (.call false 187 [(.t 16), (.t 17)])) (.c (.e (some 19) [] (.bsl 9 1 [(.t 18)])) (.c (.e (some 20) [] (.app 24 9 1 16 [(S [])] 24 (.t 15) (.t 19))) (.c (.q 5 [] (.mv (.t 20))) .nil))))))))
def t175_1 := b175_1
theorem u175_1 : vcK P t175_1 k e w = vcK P b175_1 k e w := rfl
abbrev b175_2 : X := (.reg [0, 5, 9, 10, 11] (.c (.q 21 [] (.bin .add (.t 11) (.c (.int .i64 1)))) (.c (.q 11 [] (.mv (.t 21))) .nil)))
def t175_2 := b175_2
theorem u175_2 : vcK P t175_2 k e w = vcK P b175_2 k e w := rfl
abbrev b175_3 : X := (.seq (.blk 1 (.seq (.reg [0, 5, 7, 9, 10, 11] (.c (.q 13 [] (.ia 1 (.t 9) (.t 11))) (.c (.q 14 [] (.ld (.t 13))) (.c (.q 7 [] (.mv (.t 14))) .nil)))) t175_1)) t175_2)
def t175_3 := b175_3
theorem u175_3 : vcK P t175_3 k e w = vcK P b175_3 k e w := rfl
abbrev b175_4 : X := (.seq (.cond (.t 12) .skip (.exit 0)) t175_3)
def t175_4 := b175_4
theorem u175_4 : vcK P t175_4 k e w = vcK P b175_4 k e w := rfl
abbrev b175_5 : X := (.seq (.reg [0, 5, 9, 10, 11, 12] (.c (.q 12 [] (.bin .lss (.t 11) (.t 10))) .nil)) t175_4)
def t175_5 := b175_5
theorem u175_5 : vcK P t175_5 k e w = vcK P b175_5 k e w := rfl
abbrev b175_6 : X := (.blk 0 (.loop [5, 11] [0, 9, 10] t175_5))
def t175_6 := b175_6
theorem u175_6 : vcK P t175_6 k e w = vcK P b175_6 k e w := rfl
abbrev b175_7 : X := (.seq (.reg [4] (.c (.q 22 [] (.mv (.t 5))) (.c (.q 4 [] (.mv (.t 22))) .nil))) .ret)
def t175_7 := b175_7
theorem u175_7 : vcK P t175_7 k e w = vcK P b175_7 k e w := rfl
abbrev b175_8 : X := (.seq (.seq (.reg [0, 5, 9, 10, 11] (.c (.q 9 [] (.mv (.t 1))) (.c (.q 10 [] (.lens (.t 9))) (.c (.q 11 [] (.mv (.c (.int .i64 0)))) .nil)))) t175_6) t175_7)
def t175_8 := b175_8
theorem u175_8 : vcK P t175_8 k e w = vcK P b175_8 k e w := rfl
abbrev b175_9 : X := (.seq (.reg [0, 1, 5] (.c (.e (some 8) [] (.bsl 9 1 [])) (.c (.q 5 [] (.mv (.t 8))) .nil))) t175_8)
def t175_9 := b175_9
theorem u175_9 : vcK P t175_9 k e w = vcK P b175_9 k e w := rfl
abbrev b175_0 : X := (.seq (.reg [0, 1] (.c (.q 4 [] (.mv (.c (.slice none 0 0)))) .nil)) t175_9)
def x_ileftTimes := b175_0
theorem u175_0 : vcK P x_ileftTimes k e w = vcK P b175_0 k e w := rfl
def r_ileftTimes : List XO := [(.mv (.t 4))]
theorem c_ileftTimes : convF Try.prog [147, 148, 152, 160, 162, 163, 170, 178, 206, 208, 210, 224, 233, 235, 236, 251, 264, 265, 268, 270, 287, 322] Try.f175 [([0, 1], []), ([0, 1, 5], []), ([0, 5, 9, 10, 11], []), ([5, 11], [0, 9, 10]), ([0, 5, 9, 10, 11, 12], []), ([0, 5, 7, 9, 10, 11], []), ([0, 5, 9, 10, 11], []), ([0, 5, 9, 10, 11], []), ([4], [])] = some (x_ileftTimes, r_ileftTimes) := by kernel_rfl
def us_ileftTimes :=  (aI (aI (aI @u175_0 @u175_1) (aI @u175_2 (aI @u175_3 @u175_4))) (aI (aI @u175_5 @u175_6) (aI @u175_7 (aI @u175_8 @u175_9))))
abbrev b179_1 : X := (.reg [0, 5, 8, 9, 10] (.c (.q 14 [] (.mv (.t 5))) (.c (.q 15 [] (.mv (.t 0))) (.c (.q 16 [] (.mv (.t 7))) (.c (.e (some 17) [] (.call false 222 [(.t 15), (.t 16)])) (.c (.e (some 18) [] (.bsl 9 1 [(.t 17)])) (.c (.e (some 19) [] (.app 24 9 1 16 [(S [])] 24 (.t 14) (.t 18))) (.c (.q 5 [] (.mv (.t 19))) .nil))))))))
def t179_1 := b179_1
theorem u179_1 : vcK P t179_1 k e w = vcK P b179_1 k e w := rfl
abbrev b179_2 : X := (.reg [0, 5, 8, 9, 10] (.c (.q 20 [] (.bin .add (.t 10) (.c (.int .i64 1)))) (.c (.q 10 [] (.mv (.t 20))) .nil)))
def t179_2 := b179_2
theorem u179_2 : vcK P t179_2 k e w = vcK P b179_2 k e w := rfl
abbrev b179_3 : X := (.seq (.blk 1 (.seq (.reg [0, 5, 7, 8, 9, 10] (.c (.q 12 [] (.ia 1 (.t 8) (.t 10))) (.c (.q 13 [] (.ld (.t 12))) (.c (.q 7 [] (.mv (.t 13))) .nil)))) t179_1)) t179_2)
def t179_3 := b179_3
theorem u179_3 : vcK P t179_3 k e w = vcK P b179_3 k e w := rfl
abbrev b179_4 : X := (.seq (.cond (.t 11) .skip (.exit 0)) t179_3)
def t179_4 := b179_4
theorem u179_4 : vcK P t179_4 k e w = vcK P b179_4 k e w := rfl
abbrev b179_5 : X := (.seq (.reg [0, 5, 8, 9, 10, 11] (.c (.q 11 [] (.bin .lss (.t 10) (.t 9))) .nil)) t179_4)
def t179_5 := b179_5
theorem u179_5 : vcK P t179_5 k e w = vcK P b179_5 k e w := rfl
abbrev b179_6 : X := (.blk 0 (.loop [5, 10] [0, 8, 9] t179_5))
def t179_6 := b179_6
theorem u179_6 : vcK P t179_6 k e w = vcK P b179_6 k e w := rfl
abbrev b179_7 : X := (.seq (.reg [4] (.c (.q 21 [] (.mv (.t 5))) (.c (.q 4 [] (.mv (.t 21))) .nil))) .ret)
def t179_7 := b179_7
theorem u179_7 : vcK P t179_7 k e w = vcK P b179_7 k e w := rfl
abbrev b179_8 : X := (.seq (.seq (.reg [0, 5, 8, 9, 10] (.c (.q 8 [] (.mv (.t 1))) (.c (.q 9 [] (.lens (.t 8))) (.c (.q 10 [] (.mv (.c (.int .i64 0)))) .nil)))) t179_6) t179_7)
def t179_8 := b179_8
theorem u179_8 : vcK P t179_8 k e w = vcK P b179_8 k e w := rfl
abbrev b179_9 : X := (.seq (.reg [0, 1, 5] (.c (.q 5 [] (.mv (.c (.slice none 0 0)))) .nil)) t179_8)
def t179_9 := b179_9
theorem u179_9 : vcK P t179_9 k e w = vcK P b179_9 k e w := rfl
abbrev b179_0 : X := (.seq (.reg [0, 1] (.c (.q 4 [] (.mv (.c (.slice none 0 0)))) .nil)) t179_9)
def x_sl6Left := b179_0
theorem u179_0 : vcK P x_sl6Left k e w = vcK P b179_0 k e w := rfl
def r_sl6Left : List XO := [(.mv (.t 4))]
theorem c_sl6Left : convF Try.prog [147, 148, 152, 160, 162, 163, 170, 178, 206, 208, 210, 224, 233, 235, 236, 251, 264, 265, 268, 270, 287, 322] Try.f179 [([0, 1], []), ([0, 1, 5], []), ([0, 5, 8, 9, 10], []), ([5, 10], [0, 8, 9]), ([0, 5, 8, 9, 10, 11], []), ([0, 5, 7, 8, 9, 10], []), ([0, 5, 8, 9, 10], []), ([0, 5, 8, 9, 10], []), ([4], [])] = some (x_sl6Left, r_sl6Left) := by kernel_rfl
def us_sl6Left :=  (aI (aI (aI @u179_0 @u179_1) (aI @u179_2 (aI @u179_3 @u179_4))) (aI (aI @u179_5 @u179_6) (aI @u179_7 (aI @u179_8 @u179_9))))
abbrev b51_1 : X := (.cond (.t 18) (.seq (.reg [4, 5] (.c (.q 4 [] (.mv (.c (.slice none 0 0)))) (.c (.q 5 [] (.mv (.c (.bool false)))) .nil))) .ret) .skip)
def t51_1 := b51_1
theorem u51_1 : vcK P t51_1 k e w = vcK P b51_1 k e w := rfl
abbrev b51_2 : X := (.seq (.reg [4, 5] (.c (.q 19 [] (.mv (.t 0))) (.c (.q 20 [] (.mv (.t 1))) (.c (.q 21 [] (.ia 1 (.t 19) (.t 20))) (.c (.q 22 [] (.ld (.t 21))) (.c (.e (some 23) [] (.call false 176 [(.t 22)])) (.c (.q 24 [] (.mv (.t 0))) (.c (.q 25 [] (.mv (.t 1))) (.c (.e (some 26) [] (.call false 177 [(.t 24), (.t 25)])) (.c (.e (some 27) [] (.call false 175 [(.t 23), (.t 26)])) (.c (.q 4 [] (.mv (.t 27))) (.c (.q 5 [] (.mv (.c (.bool true)))) .nil)))))))))))) .ret)
def t51_2 := b51_2
theorem u51_2 : vcK P t51_2 k e w = vcK P b51_2 k e w := rfl
abbrev b51_3 : X := (.seq (.seq (.reg [0, 1, 18] (.c (.q 6 [] (.mv (.t 0))) (.c (.e (some 7) [] (.call false 115 [(.t 6)])) (.c (.q 8 [] (.not (.t 7))) (.c (.q 9 [] (.mv (.t 8))) (.c (.q 10 [(9, false)] (.mv (.t 1))) (.c (.q 11 [(9, false)] (.bin .lss (.t 10) (.c (.int .i64 0)))) (.c (.q 12 [] (.pick (.t 9) (.c (.bool true)) (.t 11))) (.c (.q 13 [] (.mv (.t 12))) (.c (.q 14 [(13, false)] (.mv (.t 1))) (.c (.q 15 [(13, false)] (.mv (.t 0))) (.c (.q 16 [(13, false)] (.lens (.t 15))) (.c (.q 17 [(13, false)] (.bin .geq (.t 14) (.t 16))) (.c (.q 18 [] (.pick (.t 13) (.c (.bool true)) (.t 17))) .nil)))))))))))))) t51_1) t51_2)
def t51_3 := b51_3
theorem u51_3 : vcK P t51_3 k e w = vcK P b51_3 k e w := rfl
abbrev b51_0 : X := (.seq (.reg [0, 1] (.c (.q 4 [] (.mv (.c (.slice none 0 0)))) (.c (.q 5 [] (.mv (.c (.bool false)))) .nil))) t51_3)
def x_iTurnList := b51_0
theorem u51_0 : vcK P x_iTurnList k e w = vcK P b51_0 k e w := rfl
def r_iTurnList : List XO := [(.mv (.t 4)), (.mv (.t 5))]
theorem c_iTurnList : convF Try.prog [147, 148, 152, 160, 162, 163, 170, 178, 206, 208, 210, 224, 233, 235, 236, 251, 264, 265, 268, 270, 287, 322] Try.f51 [([0, 1], []), ([0, 1, 18], []), ([4, 5], []), ([4, 5], [])] = some (x_iTurnList, r_iTurnList) := by kernel_rfl
def us_iTurnList :=  (aI (aI @u51_0 @u51_1) (aI @u51_2 @u51_3))
abbrev b56_1 : X := (.cond (.t 16) (.seq (.reg [4, 5] (.c (.q 4 [] (.mv (.c (.slice none 0 0)))) (.c (.q 5 [] (.mv (.c (.bool false)))) .nil))) .ret) .skip)
def t56_1 := b56_1
theorem u56_1 : vcK P t56_1 k e w = vcK P b56_1 k e w := rfl
abbrev b56_2 : X := (.seq (.drw [4, 5] (.c (.q 17 [] (.mv (.t 0))) (.c (.q 18 [] (.mv (.t 1))) (.c (.q 19 [] (.ia 1 (.t 17) (.t 18))) (.c (.q 20 [] (.ld (.t 19))) (.c (.q 22 [] (.mv (.t 0))) (.c (.q 23 [] (.mv (.t 1))) (.c (.q 24 [] (.ssl 1 (.t 22) (some (.t 23)) none)) (.c (.q 26 [] (.mv (.t 0))) (.c (.q 27 [] (.mv (.t 1))) (.c (.q 28 [] (.ssl 1 (.t 26) none (some (.t 27)))) (.c (.e (some 21) [] (.call false 182 [(.t 20)])) (.c (.e (some 25) [] (.call false 183 [(.t 24)])) (.c (.e (some 29) [] (.app 24 9 1 16 [(S [])] 24 (.t 25) (.t 28))) (.c (.e (some 30) [] (.call false 179 [(.t 21), (.t 29)])) (.c (.q 4 [] (.mv (.t 30))) (.c (.q 5 [] (.mv (.c (.bool true)))) .nil))))))))))))))))) .ret)
def t56_2 := b56_2
theorem u56_2 : vcK P t56_2 k e w = vcK P b56_2 k e w := rfl
abbrev b56_3 : X := (.seq (.seq (.reg [0, 1, 16] (.c (.q 6 [] (.mv (.t 0))) (.c (.e (some 7) [] (.call false 172 [(.t 6)])) (.c (.q 8 [] (.not (.t 7))) (.c (.q 9 [] (.mv (.t 8))) (.c (.q 10 [(9, false)] (.mv (.t 1))) (.c (.q 11 [(9, false)] (.mv (.t 0))) (.c (.q 12 [(9, false)] (.lens (.t 11))) (.c (.q 13 [(9, false)] (.bin .sub (.t 12) (.c (.int .i64 1)))) (.c (.e (some 14) [(9, false)] (.call false 149 [(.t 10), (.c (.int .i64 0)), (.t 13)])) (.c (.q 15 [(9, false)] (.not (.t 14))) (.c (.q 16 [] (.pick (.t 9) (.c (.bool true)) (.t 15))) .nil)))))))))))) t56_1) t56_2)
def t56_3 := b56_3
theorem u56_3 : vcK P t56_3 k e w = vcK P b56_3 k e w := rfl
abbrev b56_0 : X := (.seq (.reg [0, 1] (.c (.q 4 [] (.mv (.c (.slice none 0 0)))) (.c (.q 5 [] (.mv (.c (.bool false)))) .nil))) t56_3)
def x_sTurnList := b56_0
theorem u56_0 : vcK P x_sTurnList k e w = vcK P b56_0 k e w := rfl
def r_sTurnList : List XO := [(.mv (.t 4)), (.mv (.t 5))]
theorem c_sTurnList : convF Try.prog [147, 148, 152, 160, 162, 163, 170, 178, 206, 208, 210, 224, 233, 235, 236, 251, 264, 265, 268, 270, 287, 322] Try.f56 [([0, 1], []), ([0, 1, 16], []), ([4, 5], []), ([4, 5], [])] = some (x_sTurnList, r_sTurnList) := by kernel_rfl
def us_sTurnList :=  (aI (aI @u56_0 @u56_1) (aI @u56_2 @u56_3))
end

theorem xslices_Grow_string_string_ok (n : Nat) (hn : n ≤ 1000000) (w : World) : Fn 308 [.slice none 0 0, .int .i64 n] w (fun r w' => Own fS 1 9 w.heap.size w' r ([] : List Bs)) := by
  (refine callsV_of mix Try.func308 c_xslices_Grow_string_string ?_; simp only [↓vsd, vsn, gW, qd, qv, ev, pick, argE, zipE, ne_eq, eq_self, forall_const, implies_true, if_true, if_false, reduceIte, reduceCtorEq, Nat.reduceEqDiff, Nat.reduceAdd, Nat.reduceLT, ↓us_xslices_Grow_string_string, r_xslices_Grow_string_string])
  have e00 : (n : Int) - (((0 : Nat) : Int) - ((0 : Nat) : Int)) = n := by omega
  have ec : cutA none 0 0 1 = none := rfl
  by_cases h0 : 0 < n
  · simp only [↓vsd, vsn, gW, qd, qv, ev, pick, argE, zipE, ne_eq, eq_self, forall_const, implies_true, if_true, if_false, reduceIte, reduceCtorEq, Nat.reduceEqDiff, Nat.reduceAdd, Nat.reduceLT, ↓us_xslices_Grow_string_string, r_xslices_Grow_string_string, e00, ec]
    refine ⟨fun hneg => by omega, fun _ => ⟨inR_i64 (by omega), inR_i64 (by omega), fun _ => ⟨by omega, m_apz ⟨rfl, by omega⟩ ⟨h0, by omega⟩ (by decide) ?_⟩, fun h1 => absurd h1 (by omega)⟩⟩
    rintro cap cur w1 hcap hcm hcl hblk hx1
    have ec2 : cutA (some ⟨w.heap.size, 0, none⟩) cap 0 1 = some ⟨w.heap.size, 0, none⟩ := by simp only [cutA, Option.map_some, Nat.zero_mul, Addr.add_zero', ite_self]
    simp only [↓vsd, vsn, gW, qd, qv, ev, pick, argE, zipE, ne_eq, eq_self, forall_const, implies_true, if_true, if_false, reduceIte, reduceCtorEq, Nat.reduceEqDiff, Nat.reduceAdd, Nat.reduceLT, ↓us_xslices_Grow_string_string, r_xslices_Grow_string_string, ec2]
    refine ⟨by omega, hx1, fS_len, .inr ⟨w.heap.size, cap, cur, rfl, Nat.le_refl _, hblk, Nat.zero_le _, hcm, hcl, by simp⟩⟩
  · simp only [↓vsd, vsn, gW, qd, qv, ev, pick, argE, zipE, ne_eq, eq_self, forall_const, implies_true, if_true, if_false, reduceIte, reduceCtorEq, Nat.reduceEqDiff, Nat.reduceAdd, Nat.reduceLT, ↓us_xslices_Grow_string_string, r_xslices_Grow_string_string, e00, ec]
    exact ⟨fun hneg => by omega, fun _ => ⟨inR_i64 (by omega), inR_i64 (by omega), fun h1 => absurd h1 (by omega), fun _ => ⟨Ext.refl _, Own.nil fS_len⟩⟩⟩
theorem flat_snoc {ls : List (List Bs)} {k : Nat} (h : k < ls.length) : (ls.take (k + 1)).flatten = (ls.take k).flatten ++ ls.getD k [] := by
  rw [List.take_add_one, List.getElem?_eq_getElem h, List.getD_eq_getElem?_getD, List.getElem?_eq_getElem h, List.flatten_append]
  simp
theorem xslices_Concat_string_string_ok (v : Value) (ls : List (List Bs)) (hl : ls.length ≤ 1000) (hs : ls.flatten.length ≤ 1000000) (w : World) (h : Sq2 fS w v ls) : Fn 274 [v] w (fun r w' => Own fS 1 9 w.heap.size w' r ls.flatten) := by
  have hle : ∀ k, k ≤ ls.length → (ls.take k).flatten.length ≤ 1000000 := fun k _ => by
    refine Nat.le_trans ?_ hs
    conv => rhs; rw [← List.take_append_drop k ls, List.flatten_append, List.length_append]
    omega
  (refine callsV_of mix Try.func274 c_xslices_Concat_string_string ?_; simp only [↓vsd, vsn, gW, qd, qv, ev, pick, argE, zipE, ne_eq, eq_self, forall_const, implies_true, if_true, if_false, reduceIte, reduceCtorEq, Nat.reduceEqDiff, Nat.reduceAdd, Nat.reduceLT, ↓us_xslices_Concat_string_string, r_xslices_Concat_string_string])
  simp only [↓vsd, vsn, gW, qd, qv, ev, pick, argE, zipE, ne_eq, eq_self, forall_const, implies_true, if_true, if_false, reduceIte, reduceCtorEq, Nat.reduceEqDiff, Nat.reduceAdd, Nat.reduceLT, ↓us_xslices_Concat_string_string, r_xslices_Concat_string_string, h.facts]
  refine m_upto ls.length (fun k vs w' => vs = [.int .i64 ((ls.take k).flatten.length : Nat), .int .i64 k] ∧ Ext w w') ⟨by simp, Ext.refl _⟩ ?_
  rintro k vs w1 hk ⟨rfl, hx1⟩
  have hq1 := h.ext hx1
  by_cases hlt : k < ls.length
  · have hltI : (k : Int) < ls.length := by omega
    have hltJ : ¬ (ls.length : Int) ≤ k := by omega
    obtain ⟨u, a1, b1⟩ := hq1.at hlt
    have hsn := flat_snoc hlt
    have hl1 := hle (k + 1) hlt
    rw [hsn, List.length_append] at hl1
    have e1 : ((ls.take k).flatten.length : Int) + ((ls.getD k []).length : Int) = ((ls.take (k + 1)).flatten.length : Nat) := by rw [hsn, List.length_append]; omega
    simp only [↓vsd, vsn, gW, qd, qv, ev, pick, argE, zipE, ne_eq, eq_self, forall_const, implies_true, if_true, if_false, reduceIte, reduceCtorEq, Nat.reduceEqDiff, Nat.reduceAdd, Nat.reduceLT, ↓us_xslices_Concat_string_string, r_xslices_Concat_string_string, hltI, hltJ, hq1.facts, a1, b1.facts, e1]
    rw [hsn, List.length_append]
    exact ⟨by omega, inR_i64 (by omega), fun hneg => absurd hneg (by omega), fun _ => ⟨inR_i64 (by omega), UpTo.next hlt ⟨by rw [hsn, List.length_append]; rfl, by first | exact hx1 | exact dr hx1⟩⟩⟩
  · obtain rfl : k = ls.length := by omega
    have hltI : ¬ (ls.length : Int) < ls.length := by omega
    rw [List.take_length]
    simp only [↓vsd, vsn, gW, qd, qv, ev, pick, argE, zipE, ne_eq, eq_self, forall_const, implies_true, if_true, if_false, reduceIte, reduceCtorEq, Nat.reduceEqDiff, Nat.reduceAdd, Nat.reduceLT, ↓us_xslices_Concat_string_string, r_xslices_Concat_string_string, hltI]
    refine m_call (xslices_Grow_string_string_ok ls.flatten.length hs _) ?_
    rintro x w2 hx2 ho2
    have hx12 := hx1.trans hx2
    have hq2 := h.ext hx12
    simp only [↓vsd, vsn, gW, qd, qv, ev, pick, argE, zipE, ne_eq, eq_self, forall_const, implies_true, if_true, if_false, reduceIte, reduceCtorEq, Nat.reduceEqDiff, Nat.reduceAdd, Nat.reduceLT, ↓us_xslices_Concat_string_string, r_xslices_Concat_string_string, hq2.facts]
    refine m_upto ls.length (fun k vs w' => ∃ x, vs = [x, .int .i64 k] ∧ Own fS 1 9 w.heap.size w' x (ls.take k).flatten ∧ Ext w w') ⟨x, rfl, ho2.mono hx1.size, hx12⟩ ?_
    rintro k vs w3 hk ⟨x3, rfl, ho3, hx3⟩
    have hq3 := h.ext hx3
    by_cases hlt : k < ls.length
    · have hltI : (k : Int) < ls.length := by omega
      have hltJ : ¬ (ls.length : Int) ≤ k := by omega
      obtain ⟨u, a1, b1⟩ := hq3.at hlt
      have hsn := flat_snoc hlt
      have hl1 := hle (k + 1) hlt
      rw [hsn, List.length_append] at hl1
      simp only [↓vsd, vsn, gW, qd, qv, ev, pick, argE, zipE, ne_eq, eq_self, forall_const, implies_true, if_true, if_false, reduceIte, reduceCtorEq, Nat.reduceEqDiff, Nat.reduceAdd, Nat.reduceLT, ↓us_xslices_Concat_string_string, r_xslices_Concat_string_string, hltI, hltJ, hq3.facts, a1]
      refine ⟨by omega, m_app ho3 b1 fS_one (by decide) (by omega) (by decide) hx3.size ?_⟩
      rintro x4 w4 ho4 hg4
      have hx4 := ho3.grown hx3 (Nat.le_refl _) hg4
      simp only [↓vsd, vsn, gW, qd, qv, ev, pick, argE, zipE, ne_eq, eq_self, forall_const, implies_true, if_true, if_false, reduceIte, reduceCtorEq, Nat.reduceEqDiff, Nat.reduceAdd, Nat.reduceLT, ↓us_xslices_Concat_string_string, r_xslices_Concat_string_string]
      exact ⟨inR_i64 (by omega), UpTo.next hlt ⟨x4, rfl, ho4.to hsn.symm, hx4⟩⟩
    · obtain rfl : k = ls.length := by omega
      have hltI : ¬ (ls.length : Int) < ls.length := by omega
      rw [List.take_length] at ho3
      simp only [↓vsd, vsn, gW, qd, qv, ev, pick, argE, zipE, ne_eq, eq_self, forall_const, implies_true, if_true, if_false, reduceIte, reduceCtorEq, Nat.reduceEqDiff, Nat.reduceAdd, Nat.reduceLT, ↓us_xslices_Concat_string_string, r_xslices_Concat_string_string, hltI]
      exact ⟨hx3, ho3⟩
theorem irotated_ok (v : Value) (l : List Bs) (k : Nat) (hk : k ≤ l.length) (hl : l.length ≤ 1000000) (w : World) (h : Sq fS 1 w v l) : Fn 177 [v, .int .i64 k] w (fun r w' => Own fS 1 9 w.heap.size w' r (rotL l k)) := by
  (refine callsV_of mix Try.func177 c_irotated ?_; simp only [↓vsd, vsn, gW, qd, qv, ev, pick, argE, zipE, ne_eq, eq_self, forall_const, implies_true, if_true, if_false, reduceIte, reduceCtorEq, Nat.reduceEqDiff, Nat.reduceAdd, Nat.reduceLT, ↓us_irotated, r_irotated])
  obtain ⟨t1, t2⟩ := h.tail .i64 k hk
  obtain ⟨t3, t4⟩ := h.headS .i64 k hk
  simp only [↓vsd, vsn, gW, qd, qv, ev, pick, argE, zipE, ne_eq, eq_self, forall_const, implies_true, if_true, if_false, reduceIte, reduceCtorEq, Nat.reduceEqDiff, Nat.reduceAdd, Nat.reduceLT, ↓us_irotated, r_irotated, t1, t3]
  obtain ⟨s1, e1⟩ := t2.sv
  obtain ⟨s2, e2⟩ := t4.sv
  rw [e1] at t2
  rw [e2] at t4
  rw [e1, e2]
  refine m_bsl (fun p hp => by simp only [List.mem_cons, List.not_mem_nil, or_false] at hp; rcases hp with rfl | rfl <;> exact SV.csize _) ?_
  rintro b5 w5 hb5 hblk5 hx5 hs5
  have hx5 : Ext w w5 := by first | exact hx5 | exact ud hx5 | exact ud (ud hx5)
  have hblk5 : Blk w5 b5 [s1.v, s2.v] 24 := by
    have := hblk5
    simpa [SV.cells] using this
  have hq5 : Sq2 fS w5 (.slice (some ⟨b5, 0, none⟩) 2 2) [l.drop k, l.take k] := by
    refine ⟨[s1, s2], ⟨fSV_len, rfl, .inr ⟨⟨b5, 0, none⟩, 2, rfl, Nat.le_refl _, fun j u hj => ?_⟩⟩, rfl, fun i hi => ?_⟩
    · rw [Addr.add_lit, Nat.zero_add, hblk5.cell]; exact hj
    · match i, hi with
      | 0, _ => exact t2.ext hx5
      | 1, _ => exact t4.ext hx5
  simp only [↓vsd, vsn, gW, qd, qv, ev, pick, argE, zipE, ne_eq, eq_self, forall_const, implies_true, if_true, if_false, reduceIte, reduceCtorEq, Nat.reduceEqDiff, Nat.reduceAdd, Nat.reduceLT, ↓us_irotated, r_irotated]
  refine m_call (xslices_Concat_string_string_ok _ [l.drop k, l.take k] (by simp) (by simp; omega) _ hq5) ?_
  rintro x w6 hx6 ho6
  simp only [↓vsd, vsn, gW, qd, qv, ev, pick, argE, zipE, ne_eq, eq_self, forall_const, implies_true, if_true, if_false, reduceIte, reduceCtorEq, Nat.reduceEqDiff, Nat.reduceAdd, Nat.reduceLT, ↓us_irotated, r_irotated]
  exact ⟨hx5.trans hx6, (ho6.mono hx5.size).to (by simp [rotL])⟩
theorem ileftTimes_okq (n : Nat) (a : Bs) (v : Value) (l : List Bs) (ha : a.length = n) (hr : ∀ x ∈ l, IsRow x ∧ x.length = n) (hl : l.length ≤ 1000000) (w : World) (h : Sq fS 1 w v l) : Fn 175 [S a, v] w (fun r w' => Own fS 1 9 w.heap.size w' r (l.map (timesL a))) := by
  (refine callsV_of mix Try.func175 c_ileftTimes ?_; simp only [↓vsd, vsn, gW, qd, qv, ev, pick, argE, zipE, ne_eq, eq_self, forall_const, implies_true, if_true, if_false, reduceIte, reduceCtorEq, Nat.reduceEqDiff, Nat.reduceAdd, Nat.reduceLT, ↓us_ileftTimes, r_ileftTimes])
  refine m_bsl (by simp) ?_
  rintro b1 w1 hb1 hblk1 hx1 hs1
  have hq1 := h.ext hx1
  simp only [↓vsd, vsn, gW, qd, qv, ev, pick, argE, zipE, ne_eq, eq_self, forall_const, implies_true, if_true, if_false, reduceIte, reduceCtorEq, Nat.reduceEqDiff, Nat.reduceAdd, Nat.reduceLT, ↓us_ileftTimes, r_ileftTimes, hq1.facts]
  refine m_upto l.length (fun i vs w' => ∃ x, vs = [x, .int .i64 i] ∧ Own fS 1 9 w.heap.size w' x ((l.take i).map (timesL a)) ∧ Ext w w') ⟨_, rfl, (Own.empty fS_len hblk1 (by omega)).to rfl, hx1⟩ ?_
  rintro i vs w2 hi ⟨x, rfl, ho2, hx2⟩
  have hq2 := h.ext hx2
  by_cases hlt : i < l.length
  · have hltI : (i : Int) < l.length := by omega
    have hltJ : ¬ (l.length : Int) ≤ i := by omega
    have a2 := hq2.at1 [] hlt
    have hb := hr _ (getD_mem [] hlt)
    have hsn : (l.take (i + 1)).map (timesL a) = (l.take i).map (timesL a) ++ [timesL a (l.getD i [])] := by
      rw [List.take_add_one, List.getElem?_eq_getElem hlt, List.getD_eq_getElem?_getD, List.getElem?_eq_getElem hlt, List.map_append]; rfl
    simp only [↓vsd, vsn, gW, qd, qv, ev, pick, argE, zipE, ne_eq, eq_self, forall_const, implies_true, if_true, if_false, reduceIte, reduceCtorEq, Nat.reduceEqDiff, Nat.reduceAdd, Nat.reduceLT, ↓us_ileftTimes, r_ileftTimes, hltI, hltJ, hq2.facts, a2]
    refine ⟨by omega, m_call (itimes_ok a _ hb.1 (by rw [ha, hb.2]) _) ?_⟩
    rintro _ w3 hx3 rfl
    have hx3 : Ext w2 w3 := by first | exact hx3 | exact ud hx3 | exact ud (ud hx3)
    simp only [↓vsd, vsn, gW, qd, qv, ev, pick, argE, zipE, ne_eq, eq_self, forall_const, implies_true, if_true, if_false, reduceIte, reduceCtorEq, Nat.reduceEqDiff, Nat.reduceAdd, Nat.reduceLT, ↓us_ileftTimes, r_ileftTimes]
    refine m_bsl (one_el rfl) ?_
    rintro b4 w4 hb4 hblk4 hx4 hs4
    have hx4 : Ext w3 w4 := by first | exact hx4 | exact ud hx4 | exact ud (ud hx4)
    simp only [↓vsd, vsn, gW, qd, qv, ev, pick, argE, zipE, ne_eq, eq_self, forall_const, implies_true, if_true, if_false, reduceIte, reduceCtorEq, Nat.reduceEqDiff, Nat.reduceAdd, Nat.reduceLT, ↓us_ileftTimes, r_ileftTimes]
    have hx24 := hx3.trans hx4
    refine m_app (ho2.ext hx24) (Sq.one fS_len hblk4 rfl) fS_one (by decide) (by rw [List.length_map, List.length_take, List.length_singleton]; omega) (by decide) (hx2.trans hx24).size ?_
    rintro x5 w5 ho5 hg5
    have hx5 := (ho2.ext hx24).grown (hx2.trans hx24) (Nat.le_refl _) hg5
    simp only [↓vsd, vsn, gW, qd, qv, ev, pick, argE, zipE, ne_eq, eq_self, forall_const, implies_true, if_true, if_false, reduceIte, reduceCtorEq, Nat.reduceEqDiff, Nat.reduceAdd, Nat.reduceLT, ↓us_ileftTimes, r_ileftTimes]
    exact ⟨inR_i64 (by omega), UpTo.next hlt ⟨x5, rfl, ho5.to hsn.symm, hx5⟩⟩
  · obtain rfl : i = l.length := by omega
    have hltI : ¬ (l.length : Int) < l.length := by omega
    rw [List.take_length] at ho2
    simp only [↓vsd, vsn, gW, qd, qv, ev, pick, argE, zipE, ne_eq, eq_self, forall_const, implies_true, if_true, if_false, reduceIte, reduceCtorEq, Nat.reduceEqDiff, Nat.reduceAdd, Nat.reduceLT, ↓us_ileftTimes, r_ileftTimes, hltI]
    exact ⟨hx2, ho2⟩
theorem sl6Left_okq (n : Nat) (a : Bs) (v : Value) (l : List Bs) (ha : a.length = n) (hr : ∀ x ∈ l, IsRow x ∧ x.length = n) (hl : l.length ≤ 1000000) (w : World) (h : Sq fS 1 w v l) : Fn 179 [S a, v] w (fun r w' => Own fS 1 9 w.heap.size w' r (l.map (timesL a))) := by
  (refine callsV_of mix Try.func179 c_sl6Left ?_; simp only [↓vsd, vsn, gW, qd, qv, ev, pick, argE, zipE, ne_eq, eq_self, forall_const, implies_true, if_true, if_false, reduceIte, reduceCtorEq, Nat.reduceEqDiff, Nat.reduceAdd, Nat.reduceLT, ↓us_sl6Left, r_sl6Left])
  simp only [↓vsd, vsn, gW, qd, qv, ev, pick, argE, zipE, ne_eq, eq_self, forall_const, implies_true, if_true, if_false, reduceIte, reduceCtorEq, Nat.reduceEqDiff, Nat.reduceAdd, Nat.reduceLT, ↓us_sl6Left, r_sl6Left, h.facts]
  refine m_upto l.length (fun i vs w' => ∃ x, vs = [x, .int .i64 i] ∧ Own fS 1 9 w.heap.size w' x ((l.take i).map (timesL a)) ∧ Ext w w') ⟨_, rfl, Own.nil fS_len, Ext.refl _⟩ ?_
  rintro i vs w2 hi ⟨x, rfl, ho2, hx2⟩
  have hq2 := h.ext hx2
  by_cases hlt : i < l.length
  · have hltI : (i : Int) < l.length := by omega
    have hltJ : ¬ (l.length : Int) ≤ i := by omega
    have a2 := hq2.at1 [] hlt
    have hb := hr _ (getD_mem [] hlt)
    have hsn : (l.take (i + 1)).map (timesL a) = (l.take i).map (timesL a) ++ [timesL a (l.getD i [])] := by
      rw [List.take_add_one, List.getElem?_eq_getElem hlt, List.getD_eq_getElem?_getD, List.getElem?_eq_getElem hlt, List.map_append]; rfl
    simp only [↓vsd, vsn, gW, qd, qv, ev, pick, argE, zipE, ne_eq, eq_self, forall_const, implies_true, if_true, if_false, reduceIte, reduceCtorEq, Nat.reduceEqDiff, Nat.reduceAdd, Nat.reduceLT, ↓us_sl6Left, r_sl6Left, hltI, hltJ, hq2.facts, a2]
    refine ⟨by omega, m_call (sl1Times_ok a _ hb.1 (by rw [ha, hb.2]) _) ?_⟩
    rintro _ w3 hx3 rfl
    have hx3 : Ext w2 w3 := by first | exact hx3 | exact ud hx3 | exact ud (ud hx3)
    simp only [↓vsd, vsn, gW, qd, qv, ev, pick, argE, zipE, ne_eq, eq_self, forall_const, implies_true, if_true, if_false, reduceIte, reduceCtorEq, Nat.reduceEqDiff, Nat.reduceAdd, Nat.reduceLT, ↓us_sl6Left, r_sl6Left]
    refine m_bsl (one_el rfl) ?_
    rintro b4 w4 hb4 hblk4 hx4 hs4
    have hx4 : Ext w3 w4 := by first | exact hx4 | exact ud hx4 | exact ud (ud hx4)
    simp only [↓vsd, vsn, gW, qd, qv, ev, pick, argE, zipE, ne_eq, eq_self, forall_const, implies_true, if_true, if_false, reduceIte, reduceCtorEq, Nat.reduceEqDiff, Nat.reduceAdd, Nat.reduceLT, ↓us_sl6Left, r_sl6Left]
    have hx24 := hx3.trans hx4
    refine m_app (ho2.ext hx24) (Sq.one fS_len hblk4 rfl) fS_one (by decide) (by rw [List.length_map, List.length_take, List.length_singleton]; omega) (by decide) (hx2.trans hx24).size ?_
    rintro x5 w5 ho5 hg5
    have hx5 := (ho2.ext hx24).grown (hx2.trans hx24) (Nat.le_refl _) hg5
    simp only [↓vsd, vsn, gW, qd, qv, ev, pick, argE, zipE, ne_eq, eq_self, forall_const, implies_true, if_true, if_false, reduceIte, reduceCtorEq, Nat.reduceEqDiff, Nat.reduceAdd, Nat.reduceLT, ↓us_sl6Left, r_sl6Left]
    exact ⟨inR_i64 (by omega), UpTo.next hlt ⟨x5, rfl, ho5.to hsn.symm, hx5⟩⟩
  · obtain rfl : i = l.length := by omega
    have hltI : ¬ (l.length : Int) < l.length := by omega
    rw [List.take_length] at ho2
    simp only [↓vsd, vsn, gW, qd, qv, ev, pick, argE, zipE, ne_eq, eq_self, forall_const, implies_true, if_true, if_false, reduceIte, reduceCtorEq, Nat.reduceEqDiff, Nat.reduceAdd, Nat.reduceLT, ↓us_sl6Left, r_sl6Left, hltI]
    exact ⟨hx2, ho2⟩
def stgT (l : List Bs) : Nat := (l.getD 0 []).length
/-- May a list of rows be turned to begin at place k? -/
def TurnOk (l : List Bs) (k : Int) : Prop := IsRows l ∧ 0 ≤ k ∧ k < l.length
instance (l : List Bs) (k : Int) : Decidable (TurnOk l k) := by unfold TurnOk IsRows; infer_instance
def turnLV (l : List Bs) (k : Int) : List Bs := if TurnOk l k then turnListL l k.toNat else []
theorem iTurnList_ok (v : Value) (l : List Bs) (k : Int) (hl : l.length ≤ 1000000000) (w : World) (h : Sq fS 1 w v l) : Fn 51 [v, .int .i64 k] w (fun r w' => ∃ y, r = .tuple ⟨[y, .bool (decide (TurnOk l k))]⟩ ∧ Own fS 1 9 w.heap.size w' y (turnLV l k)) := by
  have hno : ¬ TurnOk l k → ∀ w', ∃ y, Value.tuple ⟨[.slice none 0 0, .bool false]⟩ = .tuple ⟨[y, .bool (decide (TurnOk l k))]⟩ ∧ Own fS 1 9 w.heap.size w' y (turnLV l k) := fun hn w' =>
    ⟨_, by rw [decide_eq_false hn], by rw [turnLV, if_neg hn]; exact Own.nil fS_len⟩
  (refine callsV_of mix Try.func51 c_iTurnList ?_; simp only [↓vsd, vsn, gW, qd, qv, ev, pick, argE, zipE, ne_eq, eq_self, forall_const, implies_true, if_true, if_false, reduceIte, reduceCtorEq, Nat.reduceEqDiff, Nat.reduceAdd, Nat.reduceLT, ↓us_iTurnList, r_iTurnList])
  refine m_call (iGoodRows_ok v l hl _ h) ?_
  rintro _ w1 hx1 rfl
  have hx1 : Ext w w1 := by first | exact hx1 | exact ud hx1 | exact ud (ud hx1)
  have hq1 := h.ext hx1
  by_cases hr : IsRows l
  · have hl8 := hr.2
    by_cases hk0 : k < 0
    · have hD : decide (k < 0) = true := decide_eq_true hk0
      simp only [↓vsd, vsn, gW, qd, qv, ev, pick, argE, zipE, ne_eq, eq_self, forall_const, implies_true, if_true, if_false, reduceIte, reduceCtorEq, Nat.reduceEqDiff, Nat.reduceAdd, Nat.reduceLT, ↓us_iTurnList, r_iTurnList, hr, hk0]
      exact ⟨hx1, hno (fun hh => by have := hh.2.1; omega) _⟩
    · by_cases hkl : (l.length : Int) ≤ k
      · simp only [↓vsd, vsn, gW, qd, qv, ev, pick, argE, zipE, ne_eq, eq_self, forall_const, implies_true, if_true, if_false, reduceIte, reduceCtorEq, Nat.reduceEqDiff, Nat.reduceAdd, Nat.reduceLT, ↓us_iTurnList, r_iTurnList, hr, hk0, hq1.facts, hkl]
        exact ⟨hx1, hno (fun hh => by have := hh.2.2; omega) _⟩
      · obtain ⟨n, rfl⟩ : ∃ n : Nat, k = n := ⟨k.toNat, by omega⟩
        have hlt : n < l.length := by omega
        have hok : TurnOk l n := ⟨hr, by omega, by omega⟩
        have a1 := hq1.at1 [] hlt
        have a0 := h.at1 [] hlt
        have hm := hr.1 _ (getD_mem [] hlt)
        have hty : turnLV l n = (rotL l n).map (timesL (turnL (l.getD n []))) := by rw [turnLV, if_pos hok]; rfl
        generalize l.getD n [] = r at *
        have hltI : ¬ (l.length : Int) ≤ n := hkl
        have hnn : ¬ (n : Int) < 0 := hk0
        simp only [↓vsd, vsn, gW, qd, qv, ev, pick, argE, zipE, ne_eq, eq_self, forall_const, implies_true, if_true, if_false, reduceIte, reduceCtorEq, Nat.reduceEqDiff, Nat.reduceAdd, Nat.reduceLT, ↓us_iTurnList, r_iTurnList, hr, hnn, hq1.facts, hltI, a1, a0]
        refine ⟨by omega, m_call (iturned_ok r hm.1 _) ?_⟩
        rintro _ w2 hx2 rfl
        have hx2 : Ext w1 w2 := by first | exact hx2 | exact ud hx2 | exact ud (ud hx2)
        have hx12 := hx1.trans hx2
        simp only [↓vsd, vsn, gW, qd, qv, ev, pick, argE, zipE, ne_eq, eq_self, forall_const, implies_true, if_true, if_false, reduceIte, reduceCtorEq, Nat.reduceEqDiff, Nat.reduceAdd, Nat.reduceLT, ↓us_iTurnList, r_iTurnList]
        refine m_call (irotated_ok v l n (by omega) (by omega) _ (by first | exact h.ext hx12 | exact (h.ext hx12).ext (dr (Ext.refl _)))) ?_
        rintro x w3 hx3 ho3
        have hx3 : Ext w2 w3 := by first | exact hx3 | exact ud hx3 | exact ud (ud hx3)
        have hx13 := hx12.trans hx3
        simp only [↓vsd, vsn, gW, qd, qv, ev, pick, argE, zipE, ne_eq, eq_self, forall_const, implies_true, if_true, if_false, reduceIte, reduceCtorEq, Nat.reduceEqDiff, Nat.reduceAdd, Nat.reduceLT, ↓us_iTurnList, r_iTurnList]
        refine m_call (ileftTimes_okq (stgT l) (turnL r) x (rotL l n) (by rw [turnL_len]; exact hm.2) (fun y hy => hr.1 y ((rotL_perm l n).mem_iff.1 hy)) (by rw [rotL_len]; omega) _ (by first | exact ho3.sq | exact ho3.sq.ext (dr (Ext.refl _)))) ?_
        rintro y w4 hx4 ho4
        have hx4 : Ext w3 w4 := by first | exact hx4 | exact ud hx4 | exact ud (ud hx4)
        simp only [↓vsd, vsn, gW, qd, qv, ev, pick, argE, zipE, ne_eq, eq_self, forall_const, implies_true, if_true, if_false, reduceIte, reduceCtorEq, Nat.reduceEqDiff, Nat.reduceAdd, Nat.reduceLT, ↓us_iTurnList, r_iTurnList]
        exact ⟨hx13.trans hx4, y, by rw [decide_eq_true hok], by rw [hty]; exact ho4.mono hx13.size⟩
  · simp only [↓vsd, vsn, gW, qd, qv, ev, pick, argE, zipE, ne_eq, eq_self, forall_const, implies_true, if_true, if_false, reduceIte, reduceCtorEq, Nat.reduceEqDiff, Nat.reduceAdd, Nat.reduceLT, ↓us_iTurnList, r_iTurnList, hr]
    exact ⟨hx1, hno (fun hh => hr hh.1) _⟩
theorem sTurnList_ok (v : Value) (l : List Bs) (k : Int) (hl : l.length ≤ 1000000000) (w : World) (h : Sq fS 1 w v l) : Fn 56 [v, .int .i64 k] w (fun r w' => ∃ y, r = .tuple ⟨[y, .bool (decide (TurnOk l k))]⟩ ∧ Own fS 1 9 w.heap.size w' y (turnLV l k)) := by
  have hno : ¬ TurnOk l k → ∀ w', ∃ y, Value.tuple ⟨[.slice none 0 0, .bool false]⟩ = .tuple ⟨[y, .bool (decide (TurnOk l k))]⟩ ∧ Own fS 1 9 w.heap.size w' y (turnLV l k) := fun hn w' =>
    ⟨_, by rw [decide_eq_false hn], by rw [turnLV, if_neg hn]; exact Own.nil fS_len⟩
  (refine callsV_of mix Try.func56 c_sTurnList ?_; simp only [↓vsd, vsn, gW, qd, qv, ev, pick, argE, zipE, ne_eq, eq_self, forall_const, implies_true, if_true, if_false, reduceIte, reduceCtorEq, Nat.reduceEqDiff, Nat.reduceAdd, Nat.reduceLT, ↓us_sTurnList, r_sTurnList])
  refine m_call (sl6Rows_ok v l hl _ h) ?_
  rintro _ w1 hx1 rfl
  have hx1 : Ext w w1 := by first | exact hx1 | exact ud hx1 | exact ud (ud hx1)
  have hq1 := h.ext hx1
  by_cases hr : IsRows l
  · have hl8 := hr.2
    simp only [↓vsd, vsn, gW, qd, qv, ev, pick, argE, zipE, ne_eq, eq_self, forall_const, implies_true, if_true, if_false, reduceIte, reduceCtorEq, Nat.reduceEqDiff, Nat.reduceAdd, Nat.reduceLT, ↓us_sTurnList, r_sTurnList, hr, hq1.facts]
    refine ⟨inR_i64 (by omega), m_call (sl1In_ok k 0 ((l.length : Int) - 1) _) ?_⟩
    rintro _ w2 hx2 rfl
    have hx2 : Ext w1 w2 := by first | exact hx2 | exact ud hx2 | exact ud (ud hx2)
    have hx12 := hx1.trans hx2
    simp only [↓vsd, vsn, gW, qd, qv, ev, pick, argE, zipE, ne_eq, eq_self, forall_const, implies_true, if_true, if_false, reduceIte, reduceCtorEq, Nat.reduceEqDiff, Nat.reduceAdd, Nat.reduceLT, ↓us_sTurnList, r_sTurnList]
    refine ⟨fun hbad => ⟨hx12, hno (fun hh => by have := hh.2; omega) _⟩, fun hin => ?_⟩
    obtain ⟨n, rfl⟩ : ∃ n : Nat, k = n := ⟨k.toNat, by omega⟩
    have hlt : n < l.length := by omega
    have hok : TurnOk l n := ⟨hr, by omega, by omega⟩
    have hq2 := h.ext hx12
    have a2 := hq2.at1 [] hlt
    have hm := hr.1 _ (getD_mem [] hlt)
    have hty : turnLV l n = (rotL l n).map (timesL (turnL (l.getD n []))) := by rw [turnLV, if_pos hok]; rfl
    generalize l.getD n [] = r at *
    obtain ⟨t1, t2⟩ := hq2.tail .i64 n (by omega)
    obtain ⟨t3, t4⟩ := hq2.headS .i64 n (by omega)
    simp only [↓vsd, vsn, gW, qd, qv, ev, pick, argE, zipE, ne_eq, eq_self, forall_const, implies_true, if_true, if_false, reduceIte, reduceCtorEq, Nat.reduceEqDiff, Nat.reduceAdd, Nat.reduceLT, ↓us_sTurnList, r_sTurnList, hq2.facts, a2, t1, t3]
    refine ⟨by omega, m_call (sl1Turn_ok r hm.1 _) ?_⟩
    rintro _ w3 hx3 rfl
    have hx3 : Ext w2 w3 := by first | exact hx3 | exact ud hx3 | exact ud (ud hx3)
    have hx13 := hx12.trans hx3
    simp only [↓vsd, vsn, gW, qd, qv, ev, pick, argE, zipE, ne_eq, eq_self, forall_const, implies_true, if_true, if_false, reduceIte, reduceCtorEq, Nat.reduceEqDiff, Nat.reduceAdd, Nat.reduceLT, ↓us_sTurnList, r_sTurnList]
    refine m_call (sl1OwnS_ok _ (l.drop n) (by simp; omega) _ (by first | exact t2.ext hx3 | exact (t2.ext hx3).ext (dr (Ext.refl _)))) ?_
    rintro x w4 hx4 ho4
    have hx4 : Ext w3 w4 := by first | exact hx4 | exact ud hx4 | exact ud (ud hx4)
    have hx24 := hx3.trans hx4
    have hx14 := hx13.trans hx4
    have ho4' := ho4.mono hx13.size
    simp only [↓vsd, vsn, gW, qd, qv, ev, pick, argE, zipE, ne_eq, eq_self, forall_const, implies_true, if_true, if_false, reduceIte, reduceCtorEq, Nat.reduceEqDiff, Nat.reduceAdd, Nat.reduceLT, ↓us_sTurnList, r_sTurnList]
    refine m_app ho4' (t4.ext hx24) fS_one (by decide) (by simp; omega) (by decide) hx14.size ?_
    rintro y w5 ho5 hg5
    have hx5 := ho4'.grown hx14 (Nat.le_refl _) hg5
    have ho5 := ho5.to (show l.drop n ++ l.take n = rotL l n from rfl)
    simp only [↓vsd, vsn, gW, qd, qv, ev, pick, argE, zipE, ne_eq, eq_self, forall_const, implies_true, if_true, if_false, reduceIte, reduceCtorEq, Nat.reduceEqDiff, Nat.reduceAdd, Nat.reduceLT, ↓us_sTurnList, r_sTurnList]
    refine m_call (sl6Left_okq (stgT l) (turnL r) y (rotL l n) (by rw [turnL_len]; exact hm.2) (fun y hy => hr.1 y ((rotL_perm l n).mem_iff.1 hy)) (by rw [rotL_len]; omega) _ ho5.sq) ?_
    rintro z w6 hx6 ho6
    simp only [↓vsd, vsn, gW, qd, qv, ev, pick, argE, zipE, ne_eq, eq_self, forall_const, implies_true, if_true, if_false, reduceIte, reduceCtorEq, Nat.reduceEqDiff, Nat.reduceAdd, Nat.reduceLT, ↓us_sTurnList, r_sTurnList]
    exact ⟨hx5.trans hx6, z, by rw [decide_eq_true hok], by rw [hty]; exact ho6.mono hx5.size⟩
  · simp only [↓vsd, vsn, gW, qd, qv, ev, pick, argE, zipE, ne_eq, eq_self, forall_const, implies_true, if_true, if_false, reduceIte, reduceCtorEq, Nat.reduceEqDiff, Nat.reduceAdd, Nat.reduceLT, ↓us_sTurnList, r_sTurnList, hr]
    exact ⟨hx1, hno (fun hh => hr hh.1) _⟩
end Go.Proofs.Ytnincmnkdjlndaa
