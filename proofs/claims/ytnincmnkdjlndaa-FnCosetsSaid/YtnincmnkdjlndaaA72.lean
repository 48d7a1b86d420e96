/-
  Cosets of a group and their least rows, of both sides.
  Conditions: none.
-/
import Derived.Test.YtnincmnkdjlndaaA71
import Derived.Test.YtnincmnkdjlndaaVx
set_option linter.unusedSimpArgs false
set_option linter.unusedVariables false
set_option linter.defProp false
namespace Go.Proofs.Ytnincmnkdjlndaa
open Go Go.RowKit
section
variable (P : Program) (k : KT) (e : Env) (w : World)
abbrev b175_1 : X := (.reg [0, 5, 9, 10, 11] (.c (.q 15 [] (.mv (.t 5))) (.c (.q 16 [] (.mv (.t 0))) (.c (.q 17 [] (.mv (.t 7))) (.c (.e (some 18) [] (.call false 187 [(.t 16), (.t 17)])) (.c (.e (some 19) [] (.bsl 9 1 [(.t 18)])) (.c (.e (some 20) [] (.app 24 9 1 16 [(S [])] 24 (.t 15) (.t 19))) (.c (.q 5 [] (.mv (.t 20))) .nil))))))))
def t175_1 := b175_1
theorem u175_1 : vcK P t175_1 k e w = vcK P b175_1 k e w := rfl
abbrev b175_2 : X := (.reg [0, 5, 9, 10, 11] (.c (.q 21 [] (.bin .add (.t 11) (.c (.int .i64 1)))) (.c (.q 11 [] (.mv (.t 21))) .nil)))
def t175_2 := b175_2
theorem u175_2 : vcK P t175_2 k e w = vcK P b175_2 k e w := rfl
abbrev b175_3 : X := (.seq (.blk 1 (.seq (.reg [0, 5, 7, 9, 10, 11] (.c (.q 13 [] (.ia 1 (.t 9) (.t 11))) (.c (.q 14 [] (.ld (.t 13))) (.c (.q 7 [] (.mv (.t 14))) .nil)))) t175_1)) t175_2)
def t175_3 := b175_3
theorem u175_3 : vcK P t175_3 k e w = vcK P b175_3 k e w := rfl
abbrev b175_4 : X := (.seq (.cond (.t 12) .skip (.exit 0)) t175_3)
def t175_4 := b175_4
theorem u175_4 : vcK P t175_4 k e w = vcK P b175_4 k e w := rfl
abbrev b175_5 : X := (.seq (.reg [0, 5, 9, 10, 11, 12] (.c (.q 12 [] (.bin .lss (.t 11) (.t 10))) .nil)) t175_4)
def t175_5 := b175_5
theorem u175_5 : vcK P t175_5 k e w = vcK P b175_5 k e w := rfl
abbrev b175_6 : X := (.blk 0 (.loop [5, 11] [0, 9, 10] t175_5))
def t175_6 := b175_6
theorem u175_6 : vcK P t175_6 k e w = vcK P b175_6 k e w := rfl
abbrev b175_7 : X := (.seq (.reg [4] (.c (.q 22 [] (.mv (.t 5))) (.c (.q 4 [] (.mv (.t 22))) .nil))) .ret)
def t175_7 := b175_7
theorem u175_7 : vcK P t175_7 k e w = vcK P b175_7 k e w := rfl
abbrev b175_8 : X := (.seq (.seq (.reg [0, 5, 9, 10, 11] (.c (.q 9 [] (.mv (.t 1))) (.c (.q 10 [] (.lens (.t 9))) (.c (.q 11 [] (.mv (.c (.int .i64 0)))) .nil)))) t175_6) t175_7)
def t175_8 := b175_8
theorem u175_8 : vcK P t175_8 k e w = vcK P b175_8 k e w := rfl
abbrev b175_9 : X := (.seq (.reg [0, 1, 5] (.c (.e (some 8) [] (.bsl 9 1 [])) (.c (.q 5 [] (.mv (.t 8))) .nil))) t175_8)
def t175_9 := b175_9
theorem u175_9 : vcK P t175_9 k e w = vcK P b175_9 k e w := rfl
abbrev b175_0 : X := (.seq (.reg [0, 1] (.c (.q 4 [] (.mv (.c (.slice none 0 0)))) .nil)) t175_9)
def x_ileftTimes := b175_0
theorem u175_0 : vcK P x_ileftTimes k e w = vcK P b175_0 k e w := rfl
def r_ileftTimes : List XO := [(.mv (.t 4))]
theorem c_ileftTimes : convF Try.prog [147, 148, 152, 160, 162, 163, 170, 178, 206, 208, 210, 224, 233, 235, 236, 251, 264, 265, 268, 270, 287, 322] Try.f175 [([0, 1], []), ([0, 1, 5], []), ([0, 5, 9, 10, 11], []), ([5, 11], [0, 9, 10]), ([0, 5, 9, 10, 11, 12], []), ([0, 5, 7, 9, 10, 11], []), ([0, 5, 9, 10, 11], []), ([0, 5, 9, 10, 11], []), ([4], [])] = some (x_ileftTimes, r_ileftTimes) := by kernel_rfl
def us_ileftTimes :=  (aI (aI (aI @u175_0 @u175_1) (aI @u175_2 (aI @u175_3 @u175_4))) (aI (aI @u175_5 @u175_6) (aI @u175_7 (aI @u175_8 @u175_9))))
abbrev b225_1 : X := (.seq (.reg [4] (.c (.q 5 [] (.mv (.t 1))) (.c (.e (some 6) [] (.call false 115 [(.t 5)])) (.c (.q 7 [] (.mv (.t 6))) (.c (.q 8 [(7, true)] (.mv (.t 1))) (.c (.q 9 [(7, true)] (.lens (.t 8))) (.c (.q 10 [(7, true)] (.bin .eql (.t 9) (.c (.int .i64 0)))) (.c (.q 11 [(7, true)] (.mv (.t 10))) (.c (.q 12 [(11, false), (7, true)] (.mv (.t 1))) (.c (.q 13 [(11, false), (7, true)] (.ia 1 (.t 12) (.c (.int .i64 0)))) (.c (.q 14 [(11, false), (7, true)] (.ld (.t 13))) (.c (.q 15 [(11, false), (7, true)] (.len (.t 14))) (.c (.q 16 [(11, false), (7, true)] (.mv (.t 0))) (.c (.q 17 [(11, false), (7, true)] (.bin .eql (.t 15) (.t 16))) (.c (.q 18 [(7, true)] (.pick (.t 11) (.c (.bool true)) (.t 17))) (.c (.q 19 [] (.pick (.t 7) (.t 18) (.c (.bool false)))) (.c (.q 4 [] (.mv (.t 19))) .nil))))))))))))))))) .ret)
def t225_1 := b225_1
theorem u225_1 : vcK P t225_1 k e w = vcK P b225_1 k e w := rfl
abbrev b225_0 : X := (.seq (.reg [0, 1] (.c (.q 4 [] (.mv (.c (.bool false)))) .nil)) t225_1)
def x_iareRowsOf := b225_0
theorem u225_0 : vcK P x_iareRowsOf k e w = vcK P b225_0 k e w := rfl
def r_iareRowsOf : List XO := [(.mv (.t 4))]
theorem c_iareRowsOf : convF Try.prog [147, 148, 152, 160, 162, 163, 170, 178, 206, 208, 210, 224, 233, 235, 236, 251, 264, 265, 268, 270, 287, 322] Try.f225 [([0, 1], []), ([4], [])] = some (x_iareRowsOf, r_iareRowsOf) := by kernel_rfl
def us_iareRowsOf :=  (aI @u225_0 @u225_1)
abbrev b179_1 : X := (.reg [0, 5, 8, 9, 10] (.c (.q 14 [] (.mv (.t 5))) (.c (.q 15 [] (.mv (.t 0))) (.c (.q 16 [] (.mv (.t 7))) (.c (.e (some 17) [] (.call false 222 [(.t 15), (.t 16)])) (.c (.e (some 18) [] (.bsl 9 1 [(.t 17)])) (.c (.e (some 19) [] (.app 24 9 1 16 [(S [])] 24 (.t 14) (.t 18))) (.c (.q 5 [] (.mv (.t 19))) .nil))))))))
def t179_1 := b179_1
theorem u179_1 : vcK P t179_1 k e w = vcK P b179_1 k e w := rfl
abbrev b179_2 : X := (.reg [0, 5, 8, 9, 10] (.c (.q 20 [] (.bin .add (.t 10) (.c (.int .i64 1)))) (.c (.q 10 [] (.mv (.t 20))) .nil)))
def t179_2 := b179_2
theorem u179_2 : vcK P t179_2 k e w = vcK P b179_2 k e w := rfl
abbrev b179_3 : X := (.seq (.blk 1 (.seq (.reg [0, 5, 7, 8, 9, 10] (.c (.q 12 [] (.ia 1 (.t 8) (.t 10))) (.c (.q 13 [] (.ld (.t 12))) (.c (.q 7 [] (.mv (.t 13))) .nil)))) t179_1)) t179_2)
def t179_3 := b179_3
theorem u179_3 : vcK P t179_3 k e w = vcK P b179_3 k e w := rfl
abbrev b179_4 : X := (.seq (.cond (.t 11) .skip (.exit 0)) t179_3)
def t179_4 := b179_4
theorem u179_4 : vcK P t179_4 k e w = vcK P b179_4 k e w := rfl
abbrev b179_5 : X := (.seq (.reg [0, 5, 8, 9, 10, 11] (.c (.q 11 [] (.bin .lss (.t 10) (.t 9))) .nil)) t179_4)
def t179_5 := b179_5
theorem u179_5 : vcK P t179_5 k e w = vcK P b179_5 k e w := rfl
abbrev b179_6 : X := (.blk 0 (.loop [5, 10] [0, 8, 9] t179_5))
def t179_6 := b179_6
theorem u179_6 : vcK P t179_6 k e w = vcK P b179_6 k e w := rfl
abbrev b179_7 : X := (.seq (.reg [4] (.c (.q 21 [] (.mv (.t 5))) (.c (.q 4 [] (.mv (.t 21))) .nil))) .ret)
def t179_7 := b179_7
theorem u179_7 : vcK P t179_7 k e w = vcK P b179_7 k e w := rfl
abbrev b179_8 : X := (.seq (.seq (.reg [0, 5, 8, 9, 10] (.c (.q 8 [] (.mv (.t 1))) (.c (.q 9 [] (.lens (.t 8))) (.c (.q 10 [] (.mv (.c (.int .i64 0)))) .nil)))) t179_6) t179_7)
def t179_8 := b179_8
theorem u179_8 : vcK P t179_8 k e w = vcK P b179_8 k e w := rfl
abbrev b179_9 : X := (.seq (.reg [0, 1, 5] (.c (.q 5 [] (.mv (.c (.slice none 0 0)))) .nil)) t179_8)
def t179_9 := b179_9
theorem u179_9 : vcK P t179_9 k e w = vcK P b179_9 k e w := rfl
abbrev b179_0 : X := (.seq (.reg [0, 1] (.c (.q 4 [] (.mv (.c (.slice none 0 0)))) .nil)) t179_9)
def x_sl6Left := b179_0
theorem u179_0 : vcK P x_sl6Left k e w = vcK P b179_0 k e w := rfl
def r_sl6Left : List XO := [(.mv (.t 4))]
theorem c_sl6Left : convF Try.prog [147, 148, 152, 160, 162, 163, 170, 178, 206, 208, 210, 224, 233, 235, 236, 251, 264, 265, 268, 270, 287, 322] Try.f179 [([0, 1], []), ([0, 1, 5], []), ([0, 5, 8, 9, 10], []), ([5, 10], [0, 8, 9]), ([0, 5, 8, 9, 10, 11], []), ([0, 5, 7, 8, 9, 10], []), ([0, 5, 8, 9, 10], []), ([0, 5, 8, 9, 10], []), ([4], [])] = some (x_sl6Left, r_sl6Left) := by kernel_rfl
def us_sl6Left :=  (aI (aI (aI @u179_0 @u179_1) (aI @u179_2 (aI @u179_3 @u179_4))) (aI (aI @u179_5 @u179_6) (aI @u179_7 (aI @u179_8 @u179_9))))
abbrev b102_1 : X := (.cond (.t 20) (.seq (.reg [4, 5] (.c (.q 4 [] (.mv (.c (.slice none 0 0)))) (.c (.q 5 [] (.mv (.c (.bool false)))) .nil))) .ret) .skip)
def t102_1 := b102_1
theorem u102_1 : vcK P t102_1 k e w = vcK P b102_1 k e w := rfl
abbrev b102_2 : X := (.seq (.reg [4, 5] (.c (.q 21 [] (.mv (.t 1))) (.c (.q 22 [] (.mv (.t 0))) (.c (.e (some 23) [] (.call false 175 [(.t 21), (.t 22)])) (.c (.e (some 24) [] (.call false 227 [(.t 23)])) (.c (.q 4 [] (.mv (.t 24))) (.c (.q 5 [] (.mv (.c (.bool true)))) .nil))))))) .ret)
def t102_2 := b102_2
theorem u102_2 : vcK P t102_2 k e w = vcK P b102_2 k e w := rfl
abbrev b102_3 : X := (.seq (.seq (.reg [0, 1, 20] (.c (.q 6 [] (.mv (.t 1))) (.c (.e (some 7) [] (.call false 141 [(.t 6)])) (.c (.q 8 [] (.not (.t 7))) (.c (.q 9 [] (.mv (.t 8))) (.c (.q 10 [(9, false)] (.mv (.t 1))) (.c (.q 11 [(9, false)] (.len (.t 10))) (.c (.q 12 [(9, false)] (.mv (.t 0))) (.c (.e (some 13) [(9, false)] (.call false 225 [(.t 11), (.t 12)])) (.c (.q 14 [(9, false)] (.not (.t 13))) (.c (.q 15 [] (.pick (.t 9) (.c (.bool true)) (.t 14))) (.c (.q 16 [] (.mv (.t 15))) (.c (.q 17 [(16, false)] (.mv (.t 0))) (.c (.e (some 18) [(16, false)] (.call false 226 [(.t 17)])) (.c (.q 19 [(16, false)] (.not (.t 18))) (.c (.q 20 [] (.pick (.t 16) (.c (.bool true)) (.t 19))) .nil)))))))))))))))) t102_1) t102_2)
def t102_3 := b102_3
theorem u102_3 : vcK P t102_3 k e w = vcK P b102_3 k e w := rfl
abbrev b102_0 : X := (.seq (.reg [0, 1] (.c (.q 4 [] (.mv (.c (.slice none 0 0)))) (.c (.q 5 [] (.mv (.c (.bool false)))) .nil))) t102_3)
def x_iCosetOf := b102_0
theorem u102_0 : vcK P x_iCosetOf k e w = vcK P b102_0 k e w := rfl
def r_iCosetOf : List XO := [(.mv (.t 4)), (.mv (.t 5))]
theorem c_iCosetOf : convF Try.prog [147, 148, 152, 160, 162, 163, 170, 178, 206, 208, 210, 224, 233, 235, 236, 251, 264, 265, 268, 270, 287, 322] Try.f102 [([0, 1], []), ([0, 1, 20], []), ([4, 5], []), ([4, 5], [])] = some (x_iCosetOf, r_iCosetOf) := by kernel_rfl
def us_iCosetOf :=  (aI (aI @u102_0 @u102_1) (aI @u102_2 @u102_3))
abbrev b103_1 : X := (.cond (.t 27) (.seq (.reg [4, 5] (.c (.q 4 [] (.mv (.c (.slice none 0 0)))) (.c (.q 5 [] (.mv (.c (.bool false)))) .nil))) .ret) .skip)
def t103_1 := b103_1
theorem u103_1 : vcK P t103_1 k e w = vcK P b103_1 k e w := rfl
abbrev b103_2 : X := (.seq (.reg [4, 5] (.c (.q 28 [] (.mv (.t 1))) (.c (.q 29 [] (.mv (.t 0))) (.c (.e (some 30) [] (.call false 179 [(.t 28), (.t 29)])) (.c (.e (some 31) [] (.call false 230 [(.t 30)])) (.c (.q 4 [] (.mv (.t 31))) (.c (.q 5 [] (.mv (.c (.bool true)))) .nil))))))) .ret)
def t103_2 := b103_2
theorem u103_2 : vcK P t103_2 k e w = vcK P b103_2 k e w := rfl
abbrev b103_3 : X := (.seq (.seq (.reg [0, 1, 27] (.c (.q 6 [] (.mv (.t 0))) (.c (.e (some 7) [] (.call false 228 [(.t 6)])) (.c (.q 8 [] (.not (.t 7))) (.c (.q 9 [] (.mv (.t 8))) (.c (.q 10 [(9, false)] (.mv (.t 0))) (.c (.e (some 11) [(9, false)] (.call false 229 [(.t 10)])) (.c (.q 12 [(9, false)] (.not (.t 11))) (.c (.q 13 [] (.pick (.t 9) (.c (.bool true)) (.t 12))) (.c (.q 14 [] (.mv (.t 13))) (.c (.q 15 [(14, false)] (.mv (.t 1))) (.c (.e (some 16) [(14, false)] (.call false 151 [(.t 15)])) (.c (.q 17 [(14, false)] (.not (.t 16))) (.c (.q 18 [] (.pick (.t 14) (.c (.bool true)) (.t 17))) (.c (.q 19 [] (.mv (.t 18))) (.c (.q 20 [(19, false)] (.mv (.t 1))) (.c (.q 21 [(19, false)] (.len (.t 20))) (.c (.q 22 [(19, false)] (.mv (.t 0))) (.c (.q 23 [(19, false)] (.ia 1 (.t 22) (.c (.int .i64 0)))) (.c (.q 24 [(19, false)] (.ld (.t 23))) (.c (.q 25 [(19, false)] (.len (.t 24))) (.c (.q 26 [(19, false)] (.bin .neq (.t 21) (.t 25))) (.c (.q 27 [] (.pick (.t 19) (.c (.bool true)) (.t 26))) .nil))))))))))))))))))))))) t103_1) t103_2)
def t103_3 := b103_3
theorem u103_3 : vcK P t103_3 k e w = vcK P b103_3 k e w := rfl
abbrev b103_0 : X := (.seq (.reg [0, 1] (.c (.q 4 [] (.mv (.c (.slice none 0 0)))) (.c (.q 5 [] (.mv (.c (.bool false)))) .nil))) t103_3)
def x_sCosetOf := b103_0
theorem u103_0 : vcK P x_sCosetOf k e w = vcK P b103_0 k e w := rfl
def r_sCosetOf : List XO := [(.mv (.t 4)), (.mv (.t 5))]
theorem c_sCosetOf : convF Try.prog [147, 148, 152, 160, 162, 163, 170, 178, 206, 208, 210, 224, 233, 235, 236, 251, 264, 265, 268, 270, 287, 322] Try.f103 [([0, 1], []), ([0, 1, 27], []), ([4, 5], []), ([4, 5], [])] = some (x_sCosetOf, r_sCosetOf) := by kernel_rfl
def us_sCosetOf :=  (aI (aI @u103_0 @u103_1) (aI @u103_2 @u103_3))
abbrev b234_1 : X := (.cond (.t 17) (.reg [3, 9, 10, 11] (.c (.q 18 [] (.mv (.t 5))) (.c (.q 3 [] (.mv (.t 18))) .nil))) .skip)
def t234_1 := b234_1
theorem u234_1 : vcK P t234_1 k e w = vcK P b234_1 k e w := rfl
abbrev b234_2 : X := (.seq (.reg [3, 5, 9, 10, 11, 17] (.c (.q 15 [] (.mv (.t 5))) (.c (.q 16 [] (.mv (.t 3))) (.c (.q 17 [] (.bin .lss (.t 15) (.t 16))) .nil)))) t234_1)
def t234_2 := b234_2
theorem u234_2 : vcK P t234_2 k e w = vcK P b234_2 k e w := rfl
abbrev b234_3 : X := (.reg [3, 9, 10, 11] (.c (.q 19 [] (.bin .add (.t 11) (.c (.int .i64 1)))) (.c (.q 11 [] (.mv (.t 19))) .nil)))
def t234_3 := b234_3
theorem u234_3 : vcK P t234_3 k e w = vcK P b234_3 k e w := rfl
abbrev b234_4 : X := (.seq (.blk 1 (.seq (.reg [3, 5, 9, 10, 11] (.c (.q 13 [] (.ia 1 (.t 9) (.t 11))) (.c (.q 14 [] (.ld (.t 13))) (.c (.q 5 [] (.mv (.t 14))) .nil)))) t234_2)) t234_3)
def t234_4 := b234_4
theorem u234_4 : vcK P t234_4 k e w = vcK P b234_4 k e w := rfl
abbrev b234_5 : X := (.seq (.cond (.t 12) .skip (.exit 0)) t234_4)
def t234_5 := b234_5
theorem u234_5 : vcK P t234_5 k e w = vcK P b234_5 k e w := rfl
abbrev b234_6 : X := (.seq (.reg [3, 9, 10, 11, 12] (.c (.q 12 [] (.bin .lss (.t 11) (.t 10))) .nil)) t234_5)
def t234_6 := b234_6
theorem u234_6 : vcK P t234_6 k e w = vcK P b234_6 k e w := rfl
abbrev b234_7 : X := (.blk 0 (.loop [3, 11] [9, 10] t234_6))
def t234_7 := b234_7
theorem u234_7 : vcK P t234_7 k e w = vcK P b234_7 k e w := rfl
abbrev b234_8 : X := (.seq (.reg [2] (.c (.q 20 [] (.mv (.t 3))) (.c (.q 2 [] (.mv (.t 20))) .nil))) .ret)
def t234_8 := b234_8
theorem u234_8 : vcK P t234_8 k e w = vcK P b234_8 k e w := rfl
abbrev b234_9 : X := (.seq (.seq (.reg [3, 9, 10, 11] (.c (.q 9 [] (.mv (.t 0))) (.c (.q 10 [] (.lens (.t 9))) (.c (.q 11 [] (.mv (.c (.int .i64 0)))) .nil)))) t234_7) t234_8)
def t234_9 := b234_9
theorem u234_9 : vcK P t234_9 k e w = vcK P b234_9 k e w := rfl
abbrev b234_10 : X := (.seq (.reg [0, 3] (.c (.q 6 [] (.mv (.t 0))) (.c (.q 7 [] (.ia 1 (.t 6) (.c (.int .i64 0)))) (.c (.q 8 [] (.ld (.t 7))) (.c (.q 3 [] (.mv (.t 8))) .nil))))) t234_9)
def t234_10 := b234_10
theorem u234_10 : vcK P t234_10 k e w = vcK P b234_10 k e w := rfl
abbrev b234_0 : X := (.seq (.reg [0] (.c (.q 2 [] (.mv (.s []))) .nil)) t234_10)
def x_sl6Least := b234_0
theorem u234_0 : vcK P x_sl6Least k e w = vcK P b234_0 k e w := rfl
def r_sl6Least : List XO := [(.mv (.t 2))]
theorem c_sl6Least : convF Try.prog [147, 148, 152, 160, 162, 163, 170, 178, 206, 208, 210, 224, 233, 235, 236, 251, 264, 265, 268, 270, 287, 322] Try.f234 [([0], []), ([0, 3], []), ([3, 9, 10, 11], []), ([3, 11], [9, 10]), ([3, 9, 10, 11, 12], []), ([3, 5, 9, 10, 11], []), ([3, 5, 9, 10, 11, 17], []), ([3, 9, 10, 11], []), ([3, 9, 10, 11], []), ([2], [])] = some (x_sl6Least, r_sl6Least) := by kernel_rfl
def us_sl6Least :=  (aI (aI (aI @u234_0 @u234_1) (aI @u234_2 (aI @u234_3 @u234_4))) (aI (aI @u234_5 (aI @u234_6 @u234_7)) (aI @u234_8 (aI @u234_9 @u234_10))))
abbrev b231_1 : X := (.cond (.t 7) .dead .skip)
def t231_1 := b231_1
theorem u231_1 : vcK P t231_1 k e w = vcK P b231_1 k e w := rfl
abbrev b231_2 : X := (.cond (.t 15) .skip (.exit 0))
def t231_2 := b231_2
theorem u231_2 : vcK P t231_2 k e w = vcK P b231_2 k e w := rfl
abbrev b231_3 : X := (.reg [0, 3, 4] (.c (.q 16 [] (.mv (.t 4))) (.c (.q 17 [] (.bin .add (.t 16) (.c (.int .i64 1)))) (.c (.q 4 [] (.mv (.t 17))) .nil))))
def t231_3 := b231_3
theorem u231_3 : vcK P t231_3 k e w = vcK P b231_3 k e w := rfl
abbrev b231_4 : X := (.seq (.blk 1 (.reg [0, 3, 4] (.c (.q 18 [] (.mv (.t 3))) (.c (.q 19 [] (.mv (.t 0))) (.c (.q 20 [] (.mv (.t 4))) (.c (.q 21 [] (.ia 1 (.t 19) (.t 20))) (.c (.q 22 [] (.ld (.t 21))) (.c (.q 23 [] (.mn (.t 18) (.t 22))) (.c (.q 3 [] (.mv (.t 23))) .nil))))))))) t231_3)
def t231_4 := b231_4
theorem u231_4 : vcK P t231_4 k e w = vcK P b231_4 k e w := rfl
abbrev b231_5 : X := (.seq (.seq (.reg [0, 3, 4, 15] (.c (.q 12 [] (.mv (.t 4))) (.c (.q 13 [] (.mv (.t 0))) (.c (.q 14 [] (.lens (.t 13))) (.c (.q 15 [] (.bin .lss (.t 12) (.t 14))) .nil))))) t231_2) t231_4)
def t231_5 := b231_5
theorem u231_5 : vcK P t231_5 k e w = vcK P b231_5 k e w := rfl
abbrev b231_6 : X := (.blk 0 (.loop [3, 4] [0] t231_5))
def t231_6 := b231_6
theorem u231_6 : vcK P t231_6 k e w = vcK P b231_6 k e w := rfl
abbrev b231_7 : X := (.seq (.reg [2] (.c (.q 24 [] (.mv (.t 3))) (.c (.q 2 [] (.mv (.t 24))) .nil))) .ret)
def t231_7 := b231_7
theorem u231_7 : vcK P t231_7 k e w = vcK P b231_7 k e w := rfl
abbrev b231_8 : X := (.seq (.seq (.reg [0, 3, 4] (.c (.q 4 [] (.mv (.c (.int .i64 1)))) .nil)) t231_6) t231_7)
def t231_8 := b231_8
theorem u231_8 : vcK P t231_8 k e w = vcK P b231_8 k e w := rfl
abbrev b231_9 : X := (.seq (.reg [0, 3] (.c (.q 9 [] (.mv (.t 0))) (.c (.q 10 [] (.ia 1 (.t 9) (.c (.int .i64 0)))) (.c (.q 11 [] (.ld (.t 10))) (.c (.q 3 [] (.mv (.t 11))) .nil))))) t231_8)
def t231_9 := b231_9
theorem u231_9 : vcK P t231_9 k e w = vcK P b231_9 k e w := rfl
abbrev b231_10 : X := (.seq (.seq (.reg [0, 7] (.c (.q 5 [] (.mv (.t 0))) (.c (.q 6 [] (.lens (.t 5))) (.c (.q 7 [] (.bin .lss (.t 6) (.c (.int .i64 1)))) .nil)))) t231_1) t231_9)
def t231_10 := b231_10
theorem u231_10 : vcK P t231_10 k e w = vcK P b231_10 k e w := rfl
abbrev b231_0 : X := (.seq (.reg [0] (.c (.q 2 [] (.mv (.s []))) .nil)) t231_10)
def x_xslices_Min_string_string := b231_0
theorem u231_0 : vcK P x_xslices_Min_string_string k e w = vcK P b231_0 k e w := rfl
def r_xslices_Min_string_string : List XO := [(.mv (.t 2))]
theorem c_xslices_Min_string_string : convF Try.prog [147, 148, 152, 160, 162, 163, 170, 178, 206, 208, 210, 224, 233, 235, 236, 251, 264, 265, 268, 270, 287, 322] Try.f231 [([0], []), ([0, 7], []), ([0], []), ([0, 3], []), ([0, 3, 4], []), ([3, 4], [0]), ([0, 3, 4, 15], []), ([0, 3, 4], []), ([0, 3, 4], []), ([2], [])] = some (x_xslices_Min_string_string, r_xslices_Min_string_string) := by kernel_rfl
def us_xslices_Min_string_string :=  (aI (aI (aI @u231_0 @u231_1) (aI @u231_2 (aI @u231_3 @u231_4))) (aI (aI @u231_5 (aI @u231_6 @u231_7)) (aI @u231_8 (aI @u231_9 @u231_10))))
abbrev b232_1 : X := (.cond (.t 8) (.seq (.reg [2] (.c (.q 9 [] (.mv (.t 0))) (.c (.q 2 [] (.mv (.t 9))) .nil))) .ret) .skip)
def t232_1 := b232_1
theorem u232_1 : vcK P t232_1 k e w = vcK P b232_1 k e w := rfl
abbrev b232_2 : X := (.cond (.t 13) .skip (.exit 0))
def t232_2 := b232_2
theorem u232_2 : vcK P t232_2 k e w = vcK P b232_2 k e w := rfl
abbrev b232_3 : X := (.cond (.t 32) .skip (.exit 2))
def t232_3 := b232_3
theorem u232_3 : vcK P t232_3 k e w = vcK P b232_3 k e w := rfl
abbrev b232_4 : X := (.reg [0, 3, 4, 5] (.c (.q 52 [] (.mv (.t 3))) (.c (.q 53 [] (.bin .add (.t 52) (.c (.int .i64 1)))) (.c (.q 3 [] (.mv (.t 53))) .nil))))
def t232_4 := b232_4
theorem u232_4 : vcK P t232_4 k e w = vcK P b232_4 k e w := rfl
abbrev b232_5 : X := (.cond (.t 44) (.seq (.reg [0, 3, 4, 5] (.c (.q 45 [] (.mv (.t 0))) (.c (.q 46 [] (.mv (.t 3))) (.c (.q 47 [] (.mv (.t 4))) (.c (.q 48 [] (.mv (.t 5))) (.c (.q 49 [] (.ia 1 (.t 47) (.t 48))) (.c (.q 50 [] (.ld (.t 49))) (.c (.q 51 [] (.ia 1 (.t 45) (.t 46))) (.c (.e none [] (.st 1 (.t 51) (.t 50))) .nil))))))))) t232_4) .skip)
def t232_5 := b232_5
theorem u232_5 : vcK P t232_5 k e w = vcK P b232_5 k e w := rfl
abbrev b232_6 : X := (.reg [0, 3, 4, 5] (.c (.q 33 [] (.mv (.t 5))) (.c (.q 34 [] (.bin .add (.t 33) (.c (.int .i64 1)))) (.c (.q 5 [] (.mv (.t 34))) .nil))))
def t232_6 := b232_6
theorem u232_6 : vcK P t232_6 k e w = vcK P b232_6 k e w := rfl
abbrev b232_7 : X := (.seq (.blk 3 (.seq (.drw [0, 3, 4, 5, 44] (.c (.q 35 [] (.mv (.t 4))) (.c (.q 36 [] (.mv (.t 5))) (.c (.q 37 [] (.ia 1 (.t 35) (.t 36))) (.c (.q 38 [] (.ld (.t 37))) (.c (.q 39 [] (.mv (.t 4))) (.c (.q 40 [] (.mv (.t 5))) (.c (.q 41 [] (.bin .sub (.t 40) (.c (.int .i64 1)))) (.c (.q 42 [] (.ia 1 (.t 39) (.t 41))) (.c (.q 43 [] (.ld (.t 42))) (.c (.q 44 [] (.bin .neq (.t 38) (.t 43))) .nil))))))))))) t232_5)) t232_6)
def t232_7 := b232_7
theorem u232_7 : vcK P t232_7 k e w = vcK P b232_7 k e w := rfl
abbrev b232_8 : X := (.seq (.seq (.reg [0, 3, 4, 5, 32] (.c (.q 29 [] (.mv (.t 5))) (.c (.q 30 [] (.mv (.t 4))) (.c (.q 31 [] (.lens (.t 30))) (.c (.q 32 [] (.bin .lss (.t 29) (.t 31))) .nil))))) t232_3) t232_7)
def t232_8 := b232_8
theorem u232_8 : vcK P t232_8 k e w = vcK P b232_8 k e w := rfl
abbrev b232_9 : X := (.blk 2 (.loop [3, 5] [0, 4] t232_8))
def t232_9 := b232_9
theorem u232_9 : vcK P t232_9 k e w = vcK P b232_9 k e w := rfl
abbrev b232_10 : X := (.seq (.reg [2] (.c (.q 57 [] (.mv (.t 0))) (.c (.q 58 [] (.mv (.t 3))) (.c (.q 59 [] (.ssl 1 (.t 57) none (some (.t 58)))) (.c (.q 2 [] (.mv (.t 59))) .nil))))) .ret)
def t232_10 := b232_10
theorem u232_10 : vcK P t232_10 k e w = vcK P b232_10 k e w := rfl
abbrev b232_11 : X := (.seq .dead t232_10)
def t232_11 := b232_11
theorem u232_11 : vcK P t232_11 k e w = vcK P b232_11 k e w := rfl
abbrev b232_12 : X := (.seq (.seq (.reg [0, 3, 4, 5] (.c (.q 5 [] (.mv (.c (.int .i64 1)))) .nil)) t232_9) t232_11)
def t232_12 := b232_12
theorem u232_12 : vcK P t232_12 k e w = vcK P b232_12 k e w := rfl
abbrev b232_13 : X := (.cond (.t 25) (.seq (.reg [0, 3, 4] (.c (.q 26 [] (.mv (.t 0))) (.c (.q 27 [] (.mv (.t 3))) (.c (.q 28 [] (.ssl 1 (.t 26) (some (.t 27)) none)) (.c (.q 4 [] (.mv (.t 28))) .nil))))) t232_12) .skip)
def t232_13 := b232_13
theorem u232_13 : vcK P t232_13 k e w = vcK P b232_13 k e w := rfl
abbrev b232_14 : X := (.reg [0, 3] (.c (.q 14 [] (.mv (.t 3))) (.c (.q 15 [] (.bin .add (.t 14) (.c (.int .i64 1)))) (.c (.q 3 [] (.mv (.t 15))) .nil))))
def t232_14 := b232_14
theorem u232_14 : vcK P t232_14 k e w = vcK P b232_14 k e w := rfl
abbrev b232_15 : X := (.seq (.blk 1 (.seq (.drw [0, 3, 25] (.c (.q 16 [] (.mv (.t 0))) (.c (.q 17 [] (.mv (.t 3))) (.c (.q 18 [] (.ia 1 (.t 16) (.t 17))) (.c (.q 19 [] (.ld (.t 18))) (.c (.q 20 [] (.mv (.t 0))) (.c (.q 21 [] (.mv (.t 3))) (.c (.q 22 [] (.bin .sub (.t 21) (.c (.int .i64 1)))) (.c (.q 23 [] (.ia 1 (.t 20) (.t 22))) (.c (.q 24 [] (.ld (.t 23))) (.c (.q 25 [] (.bin .eql (.t 19) (.t 24))) .nil))))))))))) t232_13)) t232_14)
def t232_15 := b232_15
theorem u232_15 : vcK P t232_15 k e w = vcK P b232_15 k e w := rfl
abbrev b232_16 : X := (.seq (.seq (.reg [0, 3, 13] (.c (.q 10 [] (.mv (.t 3))) (.c (.q 11 [] (.mv (.t 0))) (.c (.q 12 [] (.lens (.t 11))) (.c (.q 13 [] (.bin .lss (.t 10) (.t 12))) .nil))))) t232_2) t232_15)
def t232_16 := b232_16
theorem u232_16 : vcK P t232_16 k e w = vcK P b232_16 k e w := rfl
abbrev b232_17 : X := (.blk 0 (.loop [3] [0] t232_16))
def t232_17 := b232_17
theorem u232_17 : vcK P t232_17 k e w = vcK P b232_17 k e w := rfl
abbrev b232_18 : X := (.seq (.reg [2] (.c (.q 60 [] (.mv (.t 0))) (.c (.q 2 [] (.mv (.t 60))) .nil))) .ret)
def t232_18 := b232_18
theorem u232_18 : vcK P t232_18 k e w = vcK P b232_18 k e w := rfl
abbrev b232_19 : X := (.seq (.seq (.reg [0, 3] (.c (.q 3 [] (.mv (.c (.int .i64 1)))) .nil)) t232_17) t232_18)
def t232_19 := b232_19
theorem u232_19 : vcK P t232_19 k e w = vcK P b232_19 k e w := rfl
abbrev b232_20 : X := (.seq (.seq (.reg [0, 8] (.c (.q 6 [] (.mv (.t 0))) (.c (.q 7 [] (.lens (.t 6))) (.c (.q 8 [] (.bin .lss (.t 7) (.c (.int .i64 2)))) .nil)))) t232_1) t232_19)
def t232_20 := b232_20
theorem u232_20 : vcK P t232_20 k e w = vcK P b232_20 k e w := rfl
abbrev b232_0 : X := (.seq (.reg [0] (.c (.q 2 [] (.mv (.c (.slice none 0 0)))) .nil)) t232_20)
def x_xslices_Compact_string_string := b232_0
theorem u232_0 : vcK P x_xslices_Compact_string_string k e w = vcK P b232_0 k e w := rfl
def r_xslices_Compact_string_string : List XO := [(.mv (.t 2))]
theorem c_xslices_Compact_string_string : convF Try.prog [147, 148, 152, 160, 162, 163, 170, 178, 206, 208, 210, 224, 233, 235, 236, 251, 264, 265, 268, 270, 287, 322] Try.f232 [([0], []), ([0, 8], []), ([2], []), ([0, 3], []), ([3], [0]), ([0, 3, 13], []), ([0, 3, 25], []), ([0, 3, 4], []), ([0, 3, 4, 5], []), ([3, 5], [0, 4]), ([0, 3, 4, 5, 32], []), ([0, 3, 4, 5, 44], []), ([0, 3, 4, 5], []), ([0, 3, 4, 5], []), ([0, 3, 4, 5], []), ([0, 3], []), ([2], []), ([0, 3], []), ([2], [])] = some (x_xslices_Compact_string_string, r_xslices_Compact_string_string) := by kernel_rfl
def us_xslices_Compact_string_string :=  (aI (aI (aI (aI @u232_0 @u232_1) (aI @u232_2 (aI @u232_3 @u232_4))) (aI (aI @u232_5 @u232_6) (aI @u232_7 (aI @u232_8 @u232_9)))) (aI (aI (aI @u232_10 @u232_11) (aI @u232_12 (aI @u232_13 @u232_14))) (aI (aI @u232_15 (aI @u232_16 @u232_17)) (aI @u232_18 (aI @u232_19 @u232_20)))))
abbrev b104_1 : X := (.cond (.t 25) (.seq (.reg [4, 5] (.c (.q 4 [] (.mv (.c (.slice none 0 0)))) (.c (.q 5 [] (.mv (.c (.bool false)))) .nil))) .ret) .skip)
def t104_1 := b104_1
theorem u104_1 : vcK P t104_1 k e w = vcK P b104_1 k e w := rfl
abbrev b104_2 : X := (.reg [0, 6, 27, 28, 29] (.c (.q 33 [] (.mv (.t 6))) (.c (.q 34 [] (.mv (.t 8))) (.c (.q 35 [] (.mv (.t 0))) (.c (.e (some 36) [] (.call false 175 [(.t 34), (.t 35)])) (.c (.e (some 37) [] (.call false 231 [(.t 36)])) (.c (.e (some 38) [] (.bsl 9 1 [(.t 37)])) (.c (.e (some 39) [] (.app 24 9 1 16 [(S [])] 24 (.t 33) (.t 38))) (.c (.q 6 [] (.mv (.t 39))) .nil)))))))))
def t104_2 := b104_2
theorem u104_2 : vcK P t104_2 k e w = vcK P b104_2 k e w := rfl
abbrev b104_3 : X := (.reg [0, 6, 27, 28, 29] (.c (.q 40 [] (.bin .add (.t 29) (.c (.int .i64 1)))) (.c (.q 29 [] (.mv (.t 40))) .nil)))
def t104_3 := b104_3
theorem u104_3 : vcK P t104_3 k e w = vcK P b104_3 k e w := rfl
abbrev b104_4 : X := (.seq (.blk 1 (.seq (.reg [0, 6, 8, 27, 28, 29] (.c (.q 31 [] (.ia 1 (.t 27) (.t 29))) (.c (.q 32 [] (.ld (.t 31))) (.c (.q 8 [] (.mv (.t 32))) .nil)))) t104_2)) t104_3)
def t104_4 := b104_4
theorem u104_4 : vcK P t104_4 k e w = vcK P b104_4 k e w := rfl
abbrev b104_5 : X := (.seq (.cond (.t 30) .skip (.exit 0)) t104_4)
def t104_5 := b104_5
theorem u104_5 : vcK P t104_5 k e w = vcK P b104_5 k e w := rfl
abbrev b104_6 : X := (.seq (.reg [0, 6, 27, 28, 29, 30] (.c (.q 30 [] (.bin .lss (.t 29) (.t 28))) .nil)) t104_5)
def t104_6 := b104_6
theorem u104_6 : vcK P t104_6 k e w = vcK P b104_6 k e w := rfl
abbrev b104_7 : X := (.blk 0 (.loop [6, 29] [0, 27, 28] t104_6))
def t104_7 := b104_7
theorem u104_7 : vcK P t104_7 k e w = vcK P b104_7 k e w := rfl
abbrev b104_8 : X := (.seq (.reg [4, 5] (.c (.q 43 [] (.mv (.t 6))) (.c (.e (some 44) [] (.call false 232 [(.t 43)])) (.c (.q 4 [] (.mv (.t 44))) (.c (.q 5 [] (.mv (.c (.bool true)))) .nil))))) .ret)
def t104_8 := b104_8
theorem u104_8 : vcK P t104_8 k e w = vcK P b104_8 k e w := rfl
abbrev b104_9 : X := (.seq (.reg [6] (.c (.q 41 [] (.mv (.t 6))) (.c (.e (some 42) [] (.call true 206 [(.t 41)])) .nil))) t104_8)
def t104_9 := b104_9
theorem u104_9 : vcK P t104_9 k e w = vcK P b104_9 k e w := rfl
abbrev b104_10 : X := (.seq (.seq (.reg [0, 6, 27, 28, 29] (.c (.q 27 [] (.mv (.t 1))) (.c (.q 28 [] (.lens (.t 27))) (.c (.q 29 [] (.mv (.c (.int .i64 0)))) .nil)))) t104_7) t104_9)
def t104_10 := b104_10
theorem u104_10 : vcK P t104_10 k e w = vcK P b104_10 k e w := rfl
abbrev b104_11 : X := (.seq (.reg [0, 1, 6] (.c (.e (some 26) [] (.bsl 9 1 [])) (.c (.q 6 [] (.mv (.t 26))) .nil))) t104_10)
def t104_11 := b104_11
theorem u104_11 : vcK P t104_11 k e w = vcK P b104_11 k e w := rfl
abbrev b104_12 : X := (.seq (.seq (.reg [0, 1, 25] (.c (.q 9 [] (.mv (.t 0))) (.c (.e (some 10) [] (.call false 115 [(.t 9)])) (.c (.q 11 [] (.not (.t 10))) (.c (.q 12 [] (.mv (.t 11))) (.c (.q 13 [(12, false)] (.mv (.t 0))) (.c (.e (some 14) [(12, false)] (.call false 226 [(.t 13)])) (.c (.q 15 [(12, false)] (.not (.t 14))) (.c (.q 16 [] (.pick (.t 12) (.c (.bool true)) (.t 15))) (.c (.q 17 [] (.mv (.t 16))) (.c (.q 18 [(17, false)] (.mv (.t 0))) (.c (.q 19 [(17, false)] (.ia 1 (.t 18) (.c (.int .i64 0)))) (.c (.q 20 [(17, false)] (.ld (.t 19))) (.c (.q 21 [(17, false)] (.len (.t 20))) (.c (.q 22 [(17, false)] (.mv (.t 1))) (.c (.e (some 23) [(17, false)] (.call false 225 [(.t 21), (.t 22)])) (.c (.q 24 [(17, false)] (.not (.t 23))) (.c (.q 25 [] (.pick (.t 17) (.c (.bool true)) (.t 24))) .nil)))))))))))))))))) t104_1) t104_11)
def t104_12 := b104_12
theorem u104_12 : vcK P t104_12 k e w = vcK P b104_12 k e w := rfl
abbrev b104_0 : X := (.seq (.reg [0, 1] (.c (.q 4 [] (.mv (.c (.slice none 0 0)))) (.c (.q 5 [] (.mv (.c (.bool false)))) .nil))) t104_12)
def x_iCosetsIn := b104_0
theorem u104_0 : vcK P x_iCosetsIn k e w = vcK P b104_0 k e w := rfl
def r_iCosetsIn : List XO := [(.mv (.t 4)), (.mv (.t 5))]
theorem c_iCosetsIn : convF Try.prog [147, 148, 152, 160, 162, 163, 170, 178, 206, 208, 210, 224, 233, 235, 236, 251, 264, 265, 268, 270, 287, 322] Try.f104 [([0, 1], []), ([0, 1, 25], []), ([4, 5], []), ([0, 1, 6], []), ([0, 6, 27, 28, 29], []), ([6, 29], [0, 27, 28]), ([0, 6, 27, 28, 29, 30], []), ([0, 6, 8, 27, 28, 29], []), ([0, 6, 27, 28, 29], []), ([0, 6, 27, 28, 29], []), ([6], []), ([4, 5], [])] = some (x_iCosetsIn, r_iCosetsIn) := by kernel_rfl
def us_iCosetsIn :=  (aI (aI (aI @u104_0 (aI @u104_1 @u104_2)) (aI @u104_3 (aI @u104_4 @u104_5))) (aI (aI @u104_6 (aI @u104_7 @u104_8)) (aI (aI @u104_9 @u104_10) (aI @u104_11 @u104_12))))
abbrev b106_1 : X := (.cond (.t 40) (.seq (.reg [4, 5] (.c (.q 4 [] (.mv (.c (.slice none 0 0)))) (.c (.q 5 [] (.mv (.c (.bool false)))) .nil))) .ret) .skip)
def t106_1 := b106_1
theorem u106_1 : vcK P t106_1 k e w = vcK P b106_1 k e w := rfl
abbrev b106_2 : X := (.reg [0, 6, 7, 41, 42, 43] (.c (.q 47 [] (.mv (.t 6))) (.c (.q 48 [] (.mv (.t 9))) (.c (.q 49 [] (.mv (.t 0))) (.c (.e (some 50) [] (.call false 179 [(.t 48), (.t 49)])) (.c (.e (some 51) [] (.call false 234 [(.t 50)])) (.c (.e (some 52) [] (.bsl 9 1 [(.t 51)])) (.c (.e (some 53) [] (.app 24 9 1 16 [(S [])] 24 (.t 47) (.t 52))) (.c (.q 6 [] (.mv (.t 53))) .nil)))))))))
def t106_2 := b106_2
theorem u106_2 : vcK P t106_2 k e w = vcK P b106_2 k e w := rfl
abbrev b106_3 : X := (.reg [0, 6, 7, 41, 42, 43] (.c (.q 54 [] (.bin .add (.t 43) (.c (.int .i64 1)))) (.c (.q 43 [] (.mv (.t 54))) .nil)))
def t106_3 := b106_3
theorem u106_3 : vcK P t106_3 k e w = vcK P b106_3 k e w := rfl
abbrev b106_4 : X := (.seq (.blk 1 (.seq (.reg [0, 6, 7, 9, 41, 42, 43] (.c (.q 45 [] (.ia 1 (.t 41) (.t 43))) (.c (.q 46 [] (.ld (.t 45))) (.c (.q 9 [] (.mv (.t 46))) .nil)))) t106_2)) t106_3)
def t106_4 := b106_4
theorem u106_4 : vcK P t106_4 k e w = vcK P b106_4 k e w := rfl
abbrev b106_5 : X := (.seq (.cond (.t 44) .skip (.exit 0)) t106_4)
def t106_5 := b106_5
theorem u106_5 : vcK P t106_5 k e w = vcK P b106_5 k e w := rfl
abbrev b106_6 : X := (.seq (.reg [0, 6, 7, 41, 42, 43, 44] (.c (.q 44 [] (.bin .lss (.t 43) (.t 42))) .nil)) t106_5)
def t106_6 := b106_6
theorem u106_6 : vcK P t106_6 k e w = vcK P b106_6 k e w := rfl
abbrev b106_7 : X := (.blk 0 (.loop [6, 43] [0, 7, 41, 42] t106_6))
def t106_7 := b106_7
theorem u106_7 : vcK P t106_7 k e w = vcK P b106_7 k e w := rfl
abbrev b106_8 : X := (.cond (.t 74) (.reg [7, 56, 57, 58] (.c (.q 75 [] (.mv (.t 7))) (.c (.q 76 [] (.mv (.t 11))) (.c (.e (some 77) [] (.bsl 9 1 [(.t 76)])) (.c (.e (some 78) [] (.app 24 9 1 16 [(S [])] 24 (.t 75) (.t 77))) (.c (.q 7 [] (.mv (.t 78))) .nil)))))) .skip)
def t106_8 := b106_8
theorem u106_8 : vcK P t106_8 k e w = vcK P b106_8 k e w := rfl
abbrev b106_9 : X := (.seq (.reg [7, 11, 56, 57, 58, 74] (.c (.q 62 [] (.mv (.t 7))) (.c (.q 63 [] (.lens (.t 62))) (.c (.q 64 [] (.bin .eql (.t 63) (.c (.int .i64 0)))) (.c (.q 65 [] (.mv (.t 64))) (.c (.q 66 [(65, false)] (.mv (.t 7))) (.c (.q 67 [(65, false)] (.mv (.t 7))) (.c (.q 68 [(65, false)] (.lens (.t 67))) (.c (.q 69 [(65, false)] (.bin .sub (.t 68) (.c (.int .i64 1)))) (.c (.q 70 [(65, false)] (.ia 1 (.t 66) (.t 69))) (.c (.q 71 [(65, false)] (.ld (.t 70))) (.c (.q 72 [(65, false)] (.mv (.t 11))) (.c (.q 73 [(65, false)] (.bin .neq (.t 71) (.t 72))) (.c (.q 74 [] (.pick (.t 65) (.c (.bool true)) (.t 73))) .nil)))))))))))))) t106_8)
def t106_9 := b106_9
theorem u106_9 : vcK P t106_9 k e w = vcK P b106_9 k e w := rfl
abbrev b106_10 : X := (.reg [7, 56, 57, 58] (.c (.q 79 [] (.bin .add (.t 58) (.c (.int .i64 1)))) (.c (.q 58 [] (.mv (.t 79))) .nil)))
def t106_10 := b106_10
theorem u106_10 : vcK P t106_10 k e w = vcK P b106_10 k e w := rfl
abbrev b106_11 : X := (.seq (.blk 3 (.seq (.reg [7, 11, 56, 57, 58] (.c (.q 60 [] (.ia 1 (.t 56) (.t 58))) (.c (.q 61 [] (.ld (.t 60))) (.c (.q 11 [] (.mv (.t 61))) .nil)))) t106_9)) t106_10)
def t106_11 := b106_11
theorem u106_11 : vcK P t106_11 k e w = vcK P b106_11 k e w := rfl
abbrev b106_12 : X := (.seq (.cond (.t 59) .skip (.exit 2)) t106_11)
def t106_12 := b106_12
theorem u106_12 : vcK P t106_12 k e w = vcK P b106_12 k e w := rfl
abbrev b106_13 : X := (.seq (.reg [7, 56, 57, 58, 59] (.c (.q 59 [] (.bin .lss (.t 58) (.t 57))) .nil)) t106_12)
def t106_13 := b106_13
theorem u106_13 : vcK P t106_13 k e w = vcK P b106_13 k e w := rfl
abbrev b106_14 : X := (.blk 2 (.loop [7, 58] [56, 57] t106_13))
def t106_14 := b106_14
theorem u106_14 : vcK P t106_14 k e w = vcK P b106_14 k e w := rfl
abbrev b106_15 : X := (.seq (.reg [4, 5] (.c (.q 80 [] (.mv (.t 7))) (.c (.q 4 [] (.mv (.t 80))) (.c (.q 5 [] (.mv (.c (.bool true)))) .nil)))) .ret)
def t106_15 := b106_15
theorem u106_15 : vcK P t106_15 k e w = vcK P b106_15 k e w := rfl
abbrev b106_16 : X := (.seq (.seq (.reg [7, 56, 57, 58] (.c (.q 55 [] (.mv (.t 6))) (.c (.e (some 56) [] (.call false 230 [(.t 55)])) (.c (.q 57 [] (.lens (.t 56))) (.c (.q 58 [] (.mv (.c (.int .i64 0)))) .nil))))) t106_14) t106_15)
def t106_16 := b106_16
theorem u106_16 : vcK P t106_16 k e w = vcK P b106_16 k e w := rfl
abbrev b106_17 : X := (.seq (.seq (.reg [0, 6, 7, 41, 42, 43] (.c (.q 41 [] (.mv (.t 1))) (.c (.q 42 [] (.lens (.t 41))) (.c (.q 43 [] (.mv (.c (.int .i64 0)))) .nil)))) t106_7) t106_16)
def t106_17 := b106_17
theorem u106_17 : vcK P t106_17 k e w = vcK P b106_17 k e w := rfl
abbrev b106_18 : X := (.seq (.reg [0, 1, 6, 7] (.c (.q 6 [] (.mv (.c (.slice none 0 0)))) (.c (.q 7 [] (.mv (.c (.slice none 0 0)))) .nil))) t106_17)
def t106_18 := b106_18
theorem u106_18 : vcK P t106_18 k e w = vcK P b106_18 k e w := rfl
abbrev b106_19 : X := (.seq (.seq (.drw [0, 1, 40] (.c (.q 12 [] (.mv (.t 0))) (.c (.e (some 13) [] (.call false 228 [(.t 12)])) (.c (.q 14 [] (.not (.t 13))) (.c (.q 15 [] (.mv (.t 14))) (.c (.q 16 [(15, false)] (.mv (.t 0))) (.c (.e (some 17) [(15, false)] (.call false 229 [(.t 16)])) (.c (.q 18 [(15, false)] (.not (.t 17))) (.c (.q 19 [] (.pick (.t 15) (.c (.bool true)) (.t 18))) (.c (.q 20 [] (.mv (.t 19))) (.c (.q 21 [(20, false)] (.mv (.t 1))) (.c (.e (some 22) [(20, false)] (.call false 172 [(.t 21)])) (.c (.q 23 [(20, false)] (.not (.t 22))) (.c (.q 24 [] (.pick (.t 20) (.c (.bool true)) (.t 23))) (.c (.q 25 [] (.mv (.t 24))) (.c (.q 26 [(25, false)] (.mv (.t 1))) (.c (.q 27 [(25, false)] (.lens (.t 26))) (.c (.q 28 [(25, false)] (.bin .gtr (.t 27) (.c (.int .i64 0)))) (.c (.q 29 [(25, false)] (.mv (.t 28))) (.c (.q 30 [(29, true), (25, false)] (.mv (.t 1))) (.c (.q 31 [(29, true), (25, false)] (.ia 1 (.t 30) (.c (.int .i64 0)))) (.c (.q 32 [(29, true), (25, false)] (.ld (.t 31))) (.c (.q 33 [(29, true), (25, false)] (.len (.t 32))) (.c (.q 34 [(29, true), (25, false)] (.mv (.t 0))) (.c (.q 35 [(29, true), (25, false)] (.ia 1 (.t 34) (.c (.int .i64 0)))) (.c (.q 36 [(29, true), (25, false)] (.ld (.t 35))) (.c (.q 37 [(29, true), (25, false)] (.len (.t 36))) (.c (.q 38 [(29, true), (25, false)] (.bin .neq (.t 33) (.t 37))) (.c (.q 39 [(25, false)] (.pick (.t 29) (.t 38) (.c (.bool false)))) (.c (.q 40 [] (.pick (.t 25) (.c (.bool true)) (.t 39))) .nil)))))))))))))))))))))))))))))) t106_1) t106_18)
def t106_19 := b106_19
theorem u106_19 : vcK P t106_19 k e w = vcK P b106_19 k e w := rfl
abbrev b106_0 : X := (.seq (.reg [0, 1] (.c (.q 4 [] (.mv (.c (.slice none 0 0)))) (.c (.q 5 [] (.mv (.c (.bool false)))) .nil))) t106_19)
def x_sCosetsIn := b106_0
theorem u106_0 : vcK P x_sCosetsIn k e w = vcK P b106_0 k e w := rfl
def r_sCosetsIn : List XO := [(.mv (.t 4)), (.mv (.t 5))]
theorem c_sCosetsIn : convF Try.prog [147, 148, 152, 160, 162, 163, 170, 178, 206, 208, 210, 224, 233, 235, 236, 251, 264, 265, 268, 270, 287, 322] Try.f106 [([0, 1], []), ([0, 1, 40], []), ([4, 5], []), ([0, 1, 6, 7], []), ([0, 6, 7, 41, 42, 43], []), ([6, 43], [0, 7, 41, 42]), ([0, 6, 7, 41, 42, 43, 44], []), ([0, 6, 7, 9, 41, 42, 43], []), ([0, 6, 7, 41, 42, 43], []), ([0, 6, 7, 41, 42, 43], []), ([7, 56, 57, 58], []), ([7, 58], [56, 57]), ([7, 56, 57, 58, 59], []), ([7, 11, 56, 57, 58], []), ([7, 11, 56, 57, 58, 74], []), ([7, 56, 57, 58], []), ([7, 56, 57, 58], []), ([4, 5], [])] = some (x_sCosetsIn, r_sCosetsIn) := by kernel_rfl
def us_sCosetsIn :=  (aI (aI (aI (aI @u106_0 @u106_1) (aI @u106_2 (aI @u106_3 @u106_4))) (aI (aI @u106_5 @u106_6) (aI @u106_7 (aI @u106_8 @u106_9)))) (aI (aI (aI @u106_10 @u106_11) (aI @u106_12 (aI @u106_13 @u106_14))) (aI (aI @u106_15 @u106_16) (aI @u106_17 (aI @u106_18 @u106_19)))))
end

theorem ileftTimes_okp (n : Nat) (a : Bs) (v : Value) (l : List Bs) (ha : a.length = n) (hr : RowN n l) (hl : l.length ≤ 1000000) (w : World) (h : Sq fS 1 w v l) : Fn 175 [S a, v] w (fun r w' => Own fS 1 9 w.heap.size w' r (l.map (timesL a))) := by
  (refine callsV_of mix Try.func175 c_ileftTimes ?_; simp only [↓vsd, vsn, gW, qd, qv, ev, pick, argE, zipE, ne_eq, eq_self, forall_const, implies_true, if_true, if_false, reduceIte, reduceCtorEq, Nat.reduceEqDiff, Nat.reduceAdd, Nat.reduceLT, ↓us_ileftTimes, r_ileftTimes])
  refine m_bsl (by simp) ?_
  rintro b1 w1 hb1 hblk1 hx1 hs1
  have hq1 := h.ext hx1
  simp only [↓vsd, vsn, gW, qd, qv, ev, pick, argE, zipE, ne_eq, eq_self, forall_const, implies_true, if_true, if_false, reduceIte, reduceCtorEq, Nat.reduceEqDiff, Nat.reduceAdd, Nat.reduceLT, ↓us_ileftTimes, r_ileftTimes, hq1.facts]
  refine m_upto l.length (fun i vs w' => ∃ x, vs = [x, .int .i64 i] ∧ Own fS 1 9 w.heap.size w' x ((l.take i).map (timesL a)) ∧ Ext w w') ⟨_, rfl, (Own.empty fS_len hblk1 (by omega)).to rfl, hx1⟩ ?_
  rintro i vs w2 hi ⟨x, rfl, ho2, hx2⟩
  have hq2 := h.ext hx2
  by_cases hlt : i < l.length
  · have hltI : (i : Int) < l.length := by omega
    have hltJ : ¬ (l.length : Int) ≤ i := by omega
    have a2 := hq2.at1 [] hlt
    have hb := hr _ (getD_mem [] hlt)
    have hsn : (l.take (i + 1)).map (timesL a) = (l.take i).map (timesL a) ++ [timesL a (l.getD i [])] := by
      rw [List.take_add_one, List.getElem?_eq_getElem hlt, List.getD_eq_getElem?_getD, List.getElem?_eq_getElem hlt, List.map_append]; rfl
    simp only [↓vsd, vsn, gW, qd, qv, ev, pick, argE, zipE, ne_eq, eq_self, forall_const, implies_true, if_true, if_false, reduceIte, reduceCtorEq, Nat.reduceEqDiff, Nat.reduceAdd, Nat.reduceLT, ↓us_ileftTimes, r_ileftTimes, hltI, hltJ, hq2.facts, a2]
    refine ⟨by omega, m_call (itimes_ok a _ hb.1 (by rw [ha, hb.2]) _) ?_⟩
    rintro _ w3 hx3 rfl
    have hx3 : Ext w2 w3 := by first | exact hx3 | exact ud hx3 | exact ud (ud hx3)
    simp only [↓vsd, vsn, gW, qd, qv, ev, pick, argE, zipE, ne_eq, eq_self, forall_const, implies_true, if_true, if_false, reduceIte, reduceCtorEq, Nat.reduceEqDiff, Nat.reduceAdd, Nat.reduceLT, ↓us_ileftTimes, r_ileftTimes]
    refine m_bsl (one_el rfl) ?_
    rintro b4 w4 hb4 hblk4 hx4 hs4
    have hx4 : Ext w3 w4 := by first | exact hx4 | exact ud hx4 | exact ud (ud hx4)
    simp only [↓vsd, vsn, gW, qd, qv, ev, pick, argE, zipE, ne_eq, eq_self, forall_const, implies_true, if_true, if_false, reduceIte, reduceCtorEq, Nat.reduceEqDiff, Nat.reduceAdd, Nat.reduceLT, ↓us_ileftTimes, r_ileftTimes]
    have hx24 := hx3.trans hx4
    refine m_app (ho2.ext hx24) (Sq.one fS_len hblk4 rfl) fS_one (by decide) (by rw [List.length_map, List.length_take, List.length_singleton]; omega) (by decide) (hx2.trans hx24).size ?_
    rintro x5 w5 ho5 hg5
    have hx5 := (ho2.ext hx24).grown (hx2.trans hx24) (Nat.le_refl _) hg5
    simp only [↓vsd, vsn, gW, qd, qv, ev, pick, argE, zipE, ne_eq, eq_self, forall_const, implies_true, if_true, if_false, reduceIte, reduceCtorEq, Nat.reduceEqDiff, Nat.reduceAdd, Nat.reduceLT, ↓us_ileftTimes, r_ileftTimes]
    exact ⟨inR_i64 (by omega), UpTo.next hlt ⟨x5, rfl, ho5.to hsn.symm, hx5⟩⟩
  · obtain rfl : i = l.length := by omega
    have hltI : ¬ (l.length : Int) < l.length := by omega
    rw [List.take_length] at ho2
    simp only [↓vsd, vsn, gW, qd, qv, ev, pick, argE, zipE, ne_eq, eq_self, forall_const, implies_true, if_true, if_false, reduceIte, reduceCtorEq, Nat.reduceEqDiff, Nat.reduceAdd, Nat.reduceLT, ↓us_ileftTimes, r_ileftTimes, hltI]
    exact ⟨hx2, ho2⟩
theorem sl6Left_ok (n : Nat) (a : Bs) (v : Value) (l : List Bs) (ha : a.length = n) (hr : RowN n l) (hl : l.length ≤ 1000000) (w : World) (h : Sq fS 1 w v l) : Fn 179 [S a, v] w (fun r w' => Own fS 1 9 w.heap.size w' r (l.map (timesL a))) := by
  (refine callsV_of mix Try.func179 c_sl6Left ?_; simp only [↓vsd, vsn, gW, qd, qv, ev, pick, argE, zipE, ne_eq, eq_self, forall_const, implies_true, if_true, if_false, reduceIte, reduceCtorEq, Nat.reduceEqDiff, Nat.reduceAdd, Nat.reduceLT, ↓us_sl6Left, r_sl6Left])
  simp only [↓vsd, vsn, gW, qd, qv, ev, pick, argE, zipE, ne_eq, eq_self, forall_const, implies_true, if_true, if_false, reduceIte, reduceCtorEq, Nat.reduceEqDiff, Nat.reduceAdd, Nat.reduceLT, ↓us_sl6Left, r_sl6Left, h.facts]
  refine m_upto l.length (fun i vs w' => ∃ x, vs = [x, .int .i64 i] ∧ Own fS 1 9 w.heap.size w' x ((l.take i).map (timesL a)) ∧ Ext w w') ⟨_, rfl, Own.nil fS_len, Ext.refl _⟩ ?_
  rintro i vs w2 hi ⟨x, rfl, ho2, hx2⟩
  have hq2 := h.ext hx2
  by_cases hlt : i < l.length
  · have hltI : (i : Int) < l.length := by omega
    have hltJ : ¬ (l.length : Int) ≤ i := by omega
    have a2 := hq2.at1 [] hlt
    have hb := hr _ (getD_mem [] hlt)
    have hsn : (l.take (i + 1)).map (timesL a) = (l.take i).map (timesL a) ++ [timesL a (l.getD i [])] := by
      rw [List.take_add_one, List.getElem?_eq_getElem hlt, List.getD_eq_getElem?_getD, List.getElem?_eq_getElem hlt, List.map_append]; rfl
    simp only [↓vsd, vsn, gW, qd, qv, ev, pick, argE, zipE, ne_eq, eq_self, forall_const, implies_true, if_true, if_false, reduceIte, reduceCtorEq, Nat.reduceEqDiff, Nat.reduceAdd, Nat.reduceLT, ↓us_sl6Left, r_sl6Left, hltI, hltJ, hq2.facts, a2]
    refine ⟨by omega, m_call (sl1Times_ok a _ hb.1 (by rw [ha, hb.2]) _) ?_⟩
    rintro _ w3 hx3 rfl
    have hx3 : Ext w2 w3 := by first | exact hx3 | exact ud hx3 | exact ud (ud hx3)
    simp only [↓vsd, vsn, gW, qd, qv, ev, pick, argE, zipE, ne_eq, eq_self, forall_const, implies_true, if_true, if_false, reduceIte, reduceCtorEq, Nat.reduceEqDiff, Nat.reduceAdd, Nat.reduceLT, ↓us_sl6Left, r_sl6Left]
    refine m_bsl (one_el rfl) ?_
    rintro b4 w4 hb4 hblk4 hx4 hs4
    have hx4 : Ext w3 w4 := by first | exact hx4 | exact ud hx4 | exact ud (ud hx4)
    simp only [↓vsd, vsn, gW, qd, qv, ev, pick, argE, zipE, ne_eq, eq_self, forall_const, implies_true, if_true, if_false, reduceIte, reduceCtorEq, Nat.reduceEqDiff, Nat.reduceAdd, Nat.reduceLT, ↓us_sl6Left, r_sl6Left]
    have hx24 := hx3.trans hx4
    refine m_app (ho2.ext hx24) (Sq.one fS_len hblk4 rfl) fS_one (by decide) (by rw [List.length_map, List.length_take, List.length_singleton]; omega) (by decide) (hx2.trans hx24).size ?_
    rintro x5 w5 ho5 hg5
    have hx5 := (ho2.ext hx24).grown (hx2.trans hx24) (Nat.le_refl _) hg5
    simp only [↓vsd, vsn, gW, qd, qv, ev, pick, argE, zipE, ne_eq, eq_self, forall_const, implies_true, if_true, if_false, reduceIte, reduceCtorEq, Nat.reduceEqDiff, Nat.reduceAdd, Nat.reduceLT, ↓us_sl6Left, r_sl6Left]
    exact ⟨inR_i64 (by omega), UpTo.next hlt ⟨x5, rfl, ho5.to hsn.symm, hx5⟩⟩
  · obtain rfl : i = l.length := by omega
    have hltI : ¬ (l.length : Int) < l.length := by omega
    rw [List.take_length] at ho2
    simp only [↓vsd, vsn, gW, qd, qv, ev, pick, argE, zipE, ne_eq, eq_self, forall_const, implies_true, if_true, if_false, reduceIte, reduceCtorEq, Nat.reduceEqDiff, Nat.reduceAdd, Nat.reduceLT, ↓us_sl6Left, r_sl6Left, hltI]
    exact ⟨hx2, ho2⟩
/-- The rows l are valid, and of stage n. -/
def AreRows (n : Int) (l : List Bs) : Prop := IsRows l ∧ (l.length = 0 ∨ (stgL l : Int) = n)
instance (n : Int) (l : List Bs) : Decidable (AreRows n l) := by unfold AreRows IsRows; infer_instance
theorem AreRows.n {n : Nat} {l : List Bs} (h : AreRows n l) : RowN n l := fun r hr => by
  have h1 := h.1.1 r hr
  have hp := List.length_pos_of_mem hr
  rcases h.2 with h2 | h2
  · omega
  · exact ⟨h1.1, by have : r.length = stgL l := h1.2; omega⟩
theorem iareRowsOf_ok (n : Int) (v : Value) (l : List Bs) (hl : l.length ≤ 1000000000) (w : World) (h : Sq fS 1 w v l) : Fn 225 [.int .i64 n, v] w (fun r _ => r = .bool (decide (AreRows n l))) := by
  (refine callsV_of mix Try.func225 c_iareRowsOf ?_; simp only [↓vsd, vsn, gW, qd, qv, ev, pick, argE, zipE, ne_eq, eq_self, forall_const, implies_true, if_true, if_false, reduceIte, reduceCtorEq, Nat.reduceEqDiff, Nat.reduceAdd, Nat.reduceLT, ↓us_iareRowsOf, r_iareRowsOf])
  refine m_call (iGoodRows_ok v l hl _ h) ?_
  rintro _ w1 hx1 rfl
  have hq1 := h.ext hx1
  by_cases hr : IsRows l
  · by_cases h0 : 0 < l.length
    · have h0I : ¬ (l.length : Int) = 0 := by omega
      have h0N : ¬ l.length = 0 := by omega
      have a1 := hq1.at0 [] h0
      simp only [↓vsd, vsn, gW, qd, qv, ev, pick, argE, zipE, ne_eq, eq_self, forall_const, implies_true, if_true, if_false, reduceIte, reduceCtorEq, Nat.reduceEqDiff, Nat.reduceAdd, Nat.reduceLT, ↓us_iareRowsOf, r_iareRowsOf, hr, hq1.facts, h0I, a1]
      refine ⟨by omega, hx1, ?_⟩
      rw [decide_eq_decide.2 (show AreRows n l ↔ ((l.getD 0 []).length : Int) = n from ⟨fun hh => hh.2.resolve_left h0N, fun hh => ⟨hr, .inr hh⟩⟩)]
    · have h0I : (l.length : Int) = 0 := by omega
      simp only [↓vsd, vsn, gW, qd, qv, ev, pick, argE, zipE, ne_eq, eq_self, forall_const, implies_true, if_true, if_false, reduceIte, reduceCtorEq, Nat.reduceEqDiff, Nat.reduceAdd, Nat.reduceLT, ↓us_iareRowsOf, r_iareRowsOf, hr, hq1.facts, h0I]
      exact ⟨hx1, (decide_eq_true ⟨hr, .inl (by omega)⟩).symm⟩
  · simp only [↓vsd, vsn, gW, qd, qv, ev, pick, argE, zipE, ne_eq, eq_self, forall_const, implies_true, if_true, if_false, reduceIte, reduceCtorEq, Nat.reduceEqDiff, Nat.reduceAdd, Nat.reduceLT, ↓us_iareRowsOf, r_iareRowsOf, hr]
    exact ⟨hx1, (decide_eq_false fun hh => hr hh.1).symm⟩
/-- Row r and the group l are of one stage. -/
def CosOk (l : List Bs) (r : Bs) : Prop := IsRow r ∧ (IsRows l ∧ stgL l = r.length) ∧ Rise l ∧ GrpL l
instance (l : List Bs) (r : Bs) : Decidable (CosOk l r) := by unfold CosOk IsRows; infer_instance
def cosV (l : List Bs) (r : Bs) : List Bs := if CosOk l r then cosL r l else []
theorem CosOk.grp {l : List Bs} {r : Bs} (h : CosOk l r) : IsGrp r.length l := h.2.2.2.grp (fun x hx => by rw [← h.2.1.2]; exact h.2.1.1.n x hx) h.2.2.1.nodup
theorem iCosetOf_ok (v : Value) (l : List Bs) (r : Bs) (hl : l.length ≤ 1000000000) (w : World) (h : Sq fS 1 w v l) : Fn 102 [v, S r] w (fun x w' => ∃ y, x = .tuple ⟨[y, .bool (decide (CosOk l r))]⟩ ∧ Own fS 1 9 w.heap.size w' y (cosV l r)) := by
  have hno : ¬ CosOk l r → ∀ w', ∃ y, Value.tuple ⟨[.slice none 0 0, .bool false]⟩ = .tuple ⟨[y, .bool (decide (CosOk l r))]⟩ ∧ Own fS 1 9 w.heap.size w' y (cosV l r) := fun hn w' =>
    ⟨_, by rw [decide_eq_false hn], by rw [cosV, if_neg hn]; exact Own.nil fS_len⟩
  (refine callsV_of mix Try.func102 c_iCosetOf ?_; simp only [↓vsd, vsn, gW, qd, qv, ev, pick, argE, zipE, ne_eq, eq_self, forall_const, implies_true, if_true, if_false, reduceIte, reduceCtorEq, Nat.reduceEqDiff, Nat.reduceAdd, Nat.reduceLT, ↓us_iCosetOf, r_iCosetOf])
  refine m_call (iGoodRow_ok r _) ?_
  rintro _ w1 hx1 rfl
  by_cases hr : IsRow r
  · simp only [↓vsd, vsn, gW, qd, qv, ev, pick, argE, zipE, ne_eq, eq_self, forall_const, implies_true, if_true, if_false, reduceIte, reduceCtorEq, Nat.reduceEqDiff, Nat.reduceAdd, Nat.reduceLT, ↓us_iCosetOf, r_iCosetOf, hr]
    refine m_call (iareRowsOf_ok r.length v l hl _ (by first | exact h.ext hx1 | exact h.ext (dr hx1))) ?_
    rintro _ w2 hx2 rfl
    have hx2 : Ext w1 w2 := by first | exact hx2 | exact ud hx2 | exact ud (ud hx2)
    have hx12 := hx1.trans hx2
    by_cases ha : AreRows r.length l
    · simp only [↓vsd, vsn, gW, qd, qv, ev, pick, argE, zipE, ne_eq, eq_self, forall_const, implies_true, if_true, if_false, reduceIte, reduceCtorEq, Nat.reduceEqDiff, Nat.reduceAdd, Nat.reduceLT, ↓us_iCosetOf, r_iCosetOf, ha]
      refine m_call (iisGroup_ok v l ha.1 _ (by first | exact h.ext hx12 | exact h.ext (dr hx12))) ?_
      rintro _ w3 hx3 rfl
      have hx3 : Ext w2 w3 := by first | exact hx3 | exact ud hx3 | exact ud (ud hx3)
      have hx13 := hx12.trans hx3
      by_cases hg : RGrp l
      · have hok : CosOk l r := ⟨hr, ⟨ha.1, by have := ha.2; have := hg.2.1; omega⟩, hg⟩
        simp only [↓vsd, vsn, gW, qd, qv, ev, pick, argE, zipE, ne_eq, eq_self, forall_const, implies_true, if_true, if_false, reduceIte, reduceCtorEq, Nat.reduceEqDiff, Nat.reduceAdd, Nat.reduceLT, ↓us_iCosetOf, r_iCosetOf, hg]
        have h8 := ha.1.2
        refine m_call (ileftTimes_okp r.length r v l rfl ha.n (by omega) _ (by first | exact h.ext hx13 | exact h.ext (dr hx13))) ?_
        rintro y w4 hx4 ho4
        have hx4 : Ext w3 w4 := by first | exact hx4 | exact ud hx4 | exact ud (ud hx4)
        have hpos := hg.2.1
        simp only [↓vsd, vsn, gW, qd, qv, ev, pick, argE, zipE, ne_eq, eq_self, forall_const, implies_true, if_true, if_false, reduceIte, reduceCtorEq, Nat.reduceEqDiff, Nat.reduceAdd, Nat.reduceLT, ↓us_iCosetOf, r_iCosetOf]
        refine m_call (isorted_ok y _ (by rw [List.length_map]; omega) _ ho4.sq) ?_
        rintro z w5 hx5 ho5
        simp only [↓vsd, vsn, gW, qd, qv, ev, pick, argE, zipE, ne_eq, eq_self, forall_const, implies_true, if_true, if_false, reduceIte, reduceCtorEq, Nat.reduceEqDiff, Nat.reduceAdd, Nat.reduceLT, ↓us_iCosetOf, r_iCosetOf]
        have hx5 : Ext w4 w5 := by first | exact hx5 | exact ud hx5 | exact ud (ud hx5)
        have hx14 := hx13.trans hx4
        exact ⟨hx14.trans hx5, _, by rw [decide_eq_true hok], by rw [cosV, if_pos hok]; exact ho5.mono hx14.size⟩
      · simp only [↓vsd, vsn, gW, qd, qv, ev, pick, argE, zipE, ne_eq, eq_self, forall_const, implies_true, if_true, if_false, reduceIte, reduceCtorEq, Nat.reduceEqDiff, Nat.reduceAdd, Nat.reduceLT, ↓us_iCosetOf, r_iCosetOf, hg]
        exact ⟨hx13, hno (fun hh => hg hh.2.2) _⟩
    · simp only [↓vsd, vsn, gW, qd, qv, ev, pick, argE, zipE, ne_eq, eq_self, forall_const, implies_true, if_true, if_false, reduceIte, reduceCtorEq, Nat.reduceEqDiff, Nat.reduceAdd, Nat.reduceLT, ↓us_iCosetOf, r_iCosetOf, ha]
      exact ⟨hx12, hno (fun hh => ha ⟨hh.2.1.1, .inr (by have := hh.2.1.2; omega)⟩) _⟩
  · simp only [↓vsd, vsn, gW, qd, qv, ev, pick, argE, zipE, ne_eq, eq_self, forall_const, implies_true, if_true, if_false, reduceIte, reduceCtorEq, Nat.reduceEqDiff, Nat.reduceAdd, Nat.reduceLT, ↓us_iCosetOf, r_iCosetOf, hr]
    exact ⟨hx1, hno (fun hh => hr hh.1) _⟩
theorem sCosetOf_ok (v : Value) (l : List Bs) (r : Bs) (hl : l.length ≤ 1000000000) (w : World) (h : Sq fS 1 w v l) : Fn 103 [v, S r] w (fun x w' => ∃ y, x = .tuple ⟨[y, .bool (decide (CosOk l r))]⟩ ∧ Own fS 1 9 w.heap.size w' y (cosV l r)) := by
  have hno : ¬ CosOk l r → ∀ w', ∃ y, Value.tuple ⟨[.slice none 0 0, .bool false]⟩ = .tuple ⟨[y, .bool (decide (CosOk l r))]⟩ ∧ Own fS 1 9 w.heap.size w' y (cosV l r) := fun hn w' =>
    ⟨_, by rw [decide_eq_false hn], by rw [cosV, if_neg hn]; exact Own.nil fS_len⟩
  (refine callsV_of mix Try.func103 c_sCosetOf ?_; simp only [↓vsd, vsn, gW, qd, qv, ev, pick, argE, zipE, ne_eq, eq_self, forall_const, implies_true, if_true, if_false, reduceIte, reduceCtorEq, Nat.reduceEqDiff, Nat.reduceAdd, Nat.reduceLT, ↓us_sCosetOf, r_sCosetOf])
  refine m_call (sl6Rising_ok v l hl _ h) ?_
  rintro _ w1 hx1 rfl
  by_cases ha : Rise l ∧ IsRows l
  · simp only [↓vsd, vsn, gW, qd, qv, ev, pick, argE, zipE, ne_eq, eq_self, forall_const, implies_true, if_true, if_false, reduceIte, reduceCtorEq, Nat.reduceEqDiff, Nat.reduceAdd, Nat.reduceLT, ↓us_sCosetOf, r_sCosetOf, ha]
    refine m_call (sl6Group_ok v l ha.2 _ (by first | exact h.ext hx1 | exact h.ext (dr hx1))) ?_
    rintro _ w2 hx2 rfl
    have hx2 : Ext w1 w2 := by first | exact hx2 | exact ud hx2 | exact ud (ud hx2)
    have hx12 := hx1.trans hx2
    by_cases hg : GrpL l
    · simp only [↓vsd, vsn, gW, qd, qv, ev, pick, argE, zipE, ne_eq, eq_self, forall_const, implies_true, if_true, if_false, reduceIte, reduceCtorEq, Nat.reduceEqDiff, Nat.reduceAdd, Nat.reduceLT, ↓us_sCosetOf, r_sCosetOf, hg]
      refine m_call (sl1Row_ok r _) ?_
      rintro _ w3 hx3 rfl
      have hx3 : Ext w2 w3 := by first | exact hx3 | exact ud hx3 | exact ud (ud hx3)
      have hx13 := hx12.trans hx3
      have hq3 := h.ext hx13
      by_cases hr : IsRow r
      · have a3 := hq3.at0 [] hg.1
        have h8 := ha.2.2
        by_cases hst : stgL l = r.length
        · have hok : CosOk l r := ⟨hr, ⟨ha.2, hst⟩, ha.1, hg⟩
          have hstI : (r.length : Int) = ((l.getD 0 []).length : Int) := by have : (l.getD 0 []).length = r.length := hst; omega
          simp only [↓vsd, vsn, gW, qd, qv, ev, pick, argE, zipE, ne_eq, eq_self, forall_const, implies_true, if_true, if_false, reduceIte, reduceCtorEq, Nat.reduceEqDiff, Nat.reduceAdd, Nat.reduceLT, ↓us_sCosetOf, r_sCosetOf, hr, hq3.facts, a3, hstI]
          have h0 := hg.1
          refine ⟨by omega, m_call (sl6Left_ok r.length r v l rfl (fun x hx => by rw [← hst]; exact ha.2.n x hx) (by omega) _ (by first | exact hq3 | exact hq3.ext (dr (Ext.refl _)))) ?_⟩
          rintro y w4 hx4 ho4
          have hx4 : Ext w3 w4 := by first | exact hx4 | exact ud hx4 | exact ud (ud hx4)
          simp only [↓vsd, vsn, gW, qd, qv, ev, pick, argE, zipE, ne_eq, eq_self, forall_const, implies_true, if_true, if_false, reduceIte, reduceCtorEq, Nat.reduceEqDiff, Nat.reduceAdd, Nat.reduceLT, ↓us_sCosetOf, r_sCosetOf]
          refine m_call (sl6Sort_ok _ _ y (Nat.le_refl _) (by rw [List.length_map]; omega) _ ho4.sq) ?_
          rintro z w5 hx5 ho5
          have hx5 : Ext w4 w5 := by first | exact hx5 | exact ud hx5 | exact ud (ud hx5)
          simp only [↓vsd, vsn, gW, qd, qv, ev, pick, argE, zipE, ne_eq, eq_self, forall_const, implies_true, if_true, if_false, reduceIte, reduceCtorEq, Nat.reduceEqDiff, Nat.reduceAdd, Nat.reduceLT, ↓us_sCosetOf, r_sCosetOf]
          have hx14 := hx13.trans hx4
          exact ⟨hx14.trans hx5, _, by rw [decide_eq_true hok], by rw [cosV, if_pos hok]; exact ho5.mono hx14.size⟩
        · have hstI : ¬ (r.length : Int) = ((l.getD 0 []).length : Int) := fun e => hst (show (l.getD 0 []).length = r.length by omega)
          have h0 := hg.1
          simp only [↓vsd, vsn, gW, qd, qv, ev, pick, argE, zipE, ne_eq, eq_self, forall_const, implies_true, if_true, if_false, reduceIte, reduceCtorEq, Nat.reduceEqDiff, Nat.reduceAdd, Nat.reduceLT, ↓us_sCosetOf, r_sCosetOf, hr, hq3.facts, a3, hstI]
          exact ⟨by omega, hx13, hno (fun hh => hst hh.2.1.2) _⟩
      · simp only [↓vsd, vsn, gW, qd, qv, ev, pick, argE, zipE, ne_eq, eq_self, forall_const, implies_true, if_true, if_false, reduceIte, reduceCtorEq, Nat.reduceEqDiff, Nat.reduceAdd, Nat.reduceLT, ↓us_sCosetOf, r_sCosetOf, hr]
        exact ⟨hx13, hno (fun hh => hr hh.1) _⟩
    · simp only [↓vsd, vsn, gW, qd, qv, ev, pick, argE, zipE, ne_eq, eq_self, forall_const, implies_true, if_true, if_false, reduceIte, reduceCtorEq, Nat.reduceEqDiff, Nat.reduceAdd, Nat.reduceLT, ↓us_sCosetOf, r_sCosetOf, hg]
      exact ⟨hx12, hno (fun hh => hg hh.2.2.2) _⟩
  · simp only [↓vsd, vsn, gW, qd, qv, ev, pick, argE, zipE, ne_eq, eq_self, forall_const, implies_true, if_true, if_false, reduceIte, reduceCtorEq, Nat.reduceEqDiff, Nat.reduceAdd, Nat.reduceLT, ↓us_sCosetOf, r_sCosetOf, ha]
    exact ⟨hx1, hno (fun hh => ha ⟨hh.2.2.1, hh.2.1.1⟩) _⟩
/-- The least of the first k texts. -/
def minL (l : List Bs) (k : Nat) : Bs := (srt (l.take k)).getD 0 []
theorem minL_one {l : List Bs} (h : 0 < l.length) : minL l 1 = l.getD 0 [] := by
  rw [minL, show l.take 1 = [l.getD 0 []] by cases l with | nil => simp at h | cons a l => rfl, ← srt_small (by simp)]; rfl
theorem minL_step {l : List Bs} {k : Nat} (h0 : 0 < k) (h : k < l.length) : minL l (k + 1) = if l.getD k [] < minL l k then l.getD k [] else minL l k := by
  have hm : ∀ j, 0 < j → j ≤ l.length → minL l j ∈ l.take j ∧ ∀ x ∈ l.take j, minL l j ≤ x := fun j hj hjl => by
    have hp : 0 < (srt (l.take j)).length := by rw [srt_len, List.length_take]; omega
    refine ⟨srt_mem.1 (getD_memB hp), fun x hx => ?_⟩
    obtain ⟨i, hi, he⟩ := List.getElem_of_mem (srt_mem.2 hx)
    have h2 := sorted_get (srt_sorted (l.take j)) (Nat.zero_le i) hi
    rw [show (srt (l.take j)).getD i [] = x by rw [List.getD_eq_getElem?_getD, List.getElem?_eq_getElem hi, Option.getD_some, he]] at h2
    exact h2
  obtain ⟨m1, m2⟩ := hm k h0 (by omega)
  have e : l.take (k + 1) = l.take k ++ [l.getD k []] := by
    rw [List.take_add_one, List.getElem?_eq_getElem h, List.getD_eq_getElem?_getD, List.getElem?_eq_getElem h]; rfl
  rw [minL, e]
  split
  · rename_i hlt
    refine least_of (by simp) fun x hx => ?_
    rcases List.mem_append.1 hx with h1 | h1
    · exact List.le_trans (List.le_of_lt hlt) (m2 x h1)
    · rw [List.mem_singleton.1 h1]; exact List.le_refl _
  · rename_i hge
    refine least_of (List.mem_append_left _ m1) fun x hx => ?_
    rcases List.mem_append.1 hx with h1 | h1
    · exact m2 x h1
    · rw [List.mem_singleton.1 h1]; exact List.not_lt.1 hge
theorem sl6Least_ok (v : Value) (l : List Bs) (h0 : 0 < l.length) (hl : l.length ≤ 1000000000) (w : World) (h : Sq fS 1 w v l) : Fn 234 [v] w (fun r _ => r = S ((srt l).getD 0 [])) := by
  (refine callsV_of mix Try.func234 c_sl6Least ?_; simp only [↓vsd, vsn, gW, qd, qv, ev, pick, argE, zipE, ne_eq, eq_self, forall_const, implies_true, if_true, if_false, reduceIte, reduceCtorEq, Nat.reduceEqDiff, Nat.reduceAdd, Nat.reduceLT, ↓us_sl6Least, r_sl6Least])
  have a0 := h.at0 [] h0
  simp only [↓vsd, vsn, gW, qd, qv, ev, pick, argE, zipE, ne_eq, eq_self, forall_const, implies_true, if_true, if_false, reduceIte, reduceCtorEq, Nat.reduceEqDiff, Nat.reduceAdd, Nat.reduceLT, ↓us_sl6Least, r_sl6Least, h.facts, a0]
  refine ⟨by omega, ?_⟩
  refine m_upto l.length (fun k vs w' => vs = [S (if k = 0 then l.getD 0 [] else minL l k), .int .i64 k] ∧ Ext w w') ⟨rfl, by first | exact Ext.refl _ | exact dr (Ext.refl _)⟩ ?_
  rintro k vs w1 hk ⟨rfl, hx1⟩
  have hq1 := h.ext hx1
  by_cases hlt : k < l.length
  · have hltI : (k : Int) < l.length := by omega
    have hltJ : ¬ (l.length : Int) ≤ k := by omega
    have a1 := hq1.at1 [] hlt
    by_cases hk0 : k = 0
    · subst hk0
      have hne : ¬ (l.getD 0 [] < l.getD 0 []) := List.lt_irrefl _
      simp only [↓vsd, vsn, gW, qd, qv, ev, pick, argE, zipE, ne_eq, eq_self, forall_const, implies_true, if_true, if_false, reduceIte, reduceCtorEq, Nat.reduceEqDiff, Nat.reduceAdd, Nat.reduceLT, ↓us_sl6Least, r_sl6Least, hltI, hltJ, hq1.facts, a1]
      refine ⟨by omega, fun hb => ?_, fun hb => ?_⟩
      · rw [less_lt] at hb; exact absurd (by simpa using hb) hne
      · exact ⟨inR_i64 (by omega), UpTo.next hlt ⟨by rw [minL_one h0]; rfl, by first | exact hx1 | exact dr hx1⟩⟩
    · have hst := minL_step (by omega) hlt
      rw [if_neg hk0]
      by_cases hb : l.getD k [] < minL l k
      · have hb' : Op.bytesLess (l.getD k []) (minL l k) = true := by rw [less_lt]; exact decide_eq_true hb
        simp only [↓vsd, vsn, gW, qd, qv, ev, pick, argE, zipE, ne_eq, eq_self, forall_const, implies_true, if_true, if_false, reduceIte, reduceCtorEq, Nat.reduceEqDiff, Nat.reduceAdd, Nat.reduceLT, ↓us_sl6Least, r_sl6Least, hltI, hltJ, hq1.facts, a1, hb']
        refine ⟨by omega, inR_i64 (by omega), UpTo.next hlt ⟨by rw [if_neg (by omega), hst, if_pos hb]; rfl, by first | exact hx1 | exact dr hx1⟩⟩
      · have hb' : Op.bytesLess (l.getD k []) (minL l k) = false := by rw [less_lt]; exact decide_eq_false hb
        simp only [↓vsd, vsn, gW, qd, qv, ev, pick, argE, zipE, ne_eq, eq_self, forall_const, implies_true, if_true, if_false, reduceIte, reduceCtorEq, Nat.reduceEqDiff, Nat.reduceAdd, Nat.reduceLT, ↓us_sl6Least, r_sl6Least, hltI, hltJ, hq1.facts, a1, hb']
        refine ⟨by omega, inR_i64 (by omega), UpTo.next hlt ⟨by rw [if_neg (by omega), hst, if_neg hb]; rfl, by first | exact hx1 | exact dr hx1⟩⟩
  · obtain rfl : k = l.length := by omega
    have hltI : ¬ (l.length : Int) < l.length := by omega
    simp only [↓vsd, vsn, gW, qd, qv, ev, pick, argE, zipE, ne_eq, eq_self, forall_const, implies_true, if_true, if_false, reduceIte, reduceCtorEq, Nat.reduceEqDiff, Nat.reduceAdd, Nat.reduceLT, ↓us_sl6Least, r_sl6Least, hltI]
    exact ⟨hx1, by rw [if_neg (by omega), minL, List.take_length]⟩
theorem compact_uq (zs : List Bs) : ∀ m, m ≤ zs.length → Go.Lib.compactUpTo zs.toArray m = uqL [] (zs.take m) ∧ (0 < m → (uqL [] (zs.take m)).getLast? = some (zs.getD (m - 1) [])) := by
  have hg : ∀ j, j < zs.length → zs.toArray[j]! = zs.getD j [] := fun j hj => by
    rw [getElem!_pos zs.toArray j (by simpa using hj), List.getD_eq_getElem?_getD, List.getElem?_eq_getElem hj]; simp
  intro m
  induction m with
  | zero => intro _; exact ⟨by simp [Go.Lib.compactUpTo, uqL], fun h => absurd h (by omega)⟩
  | succ m ih =>
    intro hm
    obtain ⟨h1, h2⟩ := ih (by omega)
    have e : zs.take (m + 1) = zs.take m ++ [zs.getD m []] := by
      rw [List.take_add_one, List.getElem?_eq_getElem (show m < zs.length by omega), List.getD_eq_getElem?_getD, List.getElem?_eq_getElem (show m < zs.length by omega)]; rfl
    rw [Go.Lib.compactUpTo_succ, h1, e, uqL_snoc]
    by_cases h0 : m = 0
    · subst h0
      have hk : Go.Lib.keeps zs.toArray 0 = true := by simp [Go.Lib.keeps]
      have hu : uqL [] (zs.take 0) = [] := by simp [uqL]
      rw [hk, if_pos rfl, hg 0 (by omega), hu]
      refine ⟨by simp, fun _ => by simp⟩
    · have hl := h2 (by omega)
      rw [hl]
      by_cases he : zs.getD (m - 1) [] = zs.getD m []
      · have hk : Go.Lib.keeps zs.toArray m = false := Go.Lib.keeps_neg (by omega) (by rw [hg m (by omega), hg (m - 1) (by omega), he])
        rw [hk, if_neg Bool.false_ne_true, List.append_nil, if_pos (show some (zs.getD (m - 1) []) = some (zs.getD m []) ∨ zs.getD m [] ∈ ([] : List Bs) from .inl (by rw [he]))]
        refine ⟨rfl, fun _ => ?_⟩
        rw [hl, he, Nat.add_sub_cancel]
      · have hk : Go.Lib.keeps zs.toArray m = true := Go.Lib.keeps_pos (by rw [hg m (by omega), hg (m - 1) (by omega)]; exact fun e => he e.symm)
        have hne : ¬ (some (zs.getD (m - 1) []) = some (zs.getD m []) ∨ zs.getD m [] ∈ ([] : List Bs)) := fun hh => by
          rcases hh with hh | hh
          · exact he (Option.some.inj hh)
          · cases hh
        rw [hk, if_neg hne, if_pos rfl, hg m (by omega)]
        exact ⟨rfl, fun _ => by simp⟩
theorem xslices_Compact_string_string_ok {B : Nat} (v : Value) (l : List Bs) (hl : l.length ≤ 1000000000) (hv : v ≠ .slice none 0 0) (w : World) (h : Own fS 1 9 B w v l) :
    CallsV Try.prog 232 [v] w (fun r w' => Own fS 1 9 B w' r (uqL [] l) ∧ w.grownBy w' v.ownBlock) := by
  rcases h.2 with ⟨e, _⟩ | ⟨g, cap, cur, rfl, hB, hb, hle, hcm, hcl, hct⟩
  · exact absurd e hv
  · rw [Nat.mul_one] at hcl hct
    refine Calls.mono (Try.slices_Compact_string g 0 cap l w (holds_own hb hct) (by omega) hle) ?_
    have hcu : Go.Lib.compact l = uqL [] l := by
      have := (compact_uq l l.length (Nat.le_refl _)).1
      rw [List.take_length] at this
      exact this
    rw [hcu]
    have hul := uqL_len [] l
    rintro e w' ⟨rfl, n, rfl⟩
    rw [← Go.Sort.grow_empty (Go.Sort.putRow _ _ _ _ _)]
    obtain ⟨fz, hr, hfz⟩ := blk_raw hb
    generalize hM : uqL [] l ++ List.replicate (l.length - (uqL [] l).length) [] = M at *
    have hMl : M.length = l.length := by rw [← hM, List.length_append, List.length_replicate]; omega
    refine ⟨_, rfl, ⟨fS_len, .inr ⟨g, cap, (Go.Sort.putCells encStr 0 M.toArray ⟨cur⟩).toList, rfl, hB, ⟨fz, heap_sorted _ hr, ?_⟩, by omega, hcm, ?_, ?_⟩⟩, grownBy_sorted _⟩
    · rcases hfz with h0 | h0
      · exact .inl h0
      · exact .inr (by simpa [Go.Sort.putCells] using h0)
    · simpa [Go.Sort.putCells] using hcl
    · rw [Nat.mul_one]
      have := take_putCells ⟨cur⟩ M (by simp; omega)
      have h2 : (uqL [] l).length ≤ M.length := by omega
      rw [show ((Go.Sort.putCells encStr 0 M.toArray ⟨cur⟩).toList).take (uqL [] l).length = (((Go.Sort.putCells encStr 0 M.toArray ⟨cur⟩).toList).take M.length).take (uqL [] l).length by rw [List.take_take, Nat.min_eq_left h2], this, ← hM, List.map_append, List.take_append_of_le_length (by simp), List.take_of_length_le (by simp)]
      induction uqL [] l with
      | nil => rfl
      | cons a l ih => rw [List.map_cons, List.flatMap_cons, ih]; rfl
theorem xslices_Min_string_string_ok (v : Value) (l : List Bs) (h0 : 0 < l.length) (hl : l.length ≤ 1000000000) (w : World) (h : Sq fS 1 w v l) : Fn 231 [v] w (fun r _ => r = S ((srt l).getD 0 [])) := by
  (refine callsV_of mix Try.func231 c_xslices_Min_string_string ?_; simp only [↓vsd, vsn, gW, qd, qv, ev, pick, argE, zipE, ne_eq, eq_self, forall_const, implies_true, if_true, if_false, reduceIte, reduceCtorEq, Nat.reduceEqDiff, Nat.reduceAdd, Nat.reduceLT, ↓us_xslices_Min_string_string, r_xslices_Min_string_string])
  have a0 := h.at0 [] h0
  have h0I : ¬ (l.length : Int) < 1 := by omega
  simp only [↓vsd, vsn, gW, qd, qv, ev, pick, argE, zipE, ne_eq, eq_self, forall_const, implies_true, if_true, if_false, reduceIte, reduceCtorEq, Nat.reduceEqDiff, Nat.reduceAdd, Nat.reduceLT, ↓us_xslices_Min_string_string, r_xslices_Min_string_string, h.facts, a0, h0I]
  refine ⟨by omega, ?_⟩
  refine m_upto (l.length - 1) (fun k vs w' => vs = [S (minL l (k + 1)), .int .i64 (k + 1 : Nat)] ∧ Ext w w') ⟨by rw [minL_one h0]; rfl, by first | exact Ext.refl _ | exact dr (Ext.refl _)⟩ ?_
  rintro k vs w1 hk ⟨rfl, hx1⟩
  have hq1 := h.ext hx1
  by_cases hlt : k + 1 < l.length
  · have hltI : ((k + 1 : Nat) : Int) < l.length := by omega
    have hltJ : ¬ (l.length : Int) ≤ (k + 1 : Nat) := by omega
    have a1 := hq1.at1 [] hlt
    have hst := minL_step (l := l) (k := k + 1) (by omega) hlt
    simp only [↓vsd, vsn, gW, qd, qv, ev, pick, argE, zipE, ne_eq, eq_self, forall_const, implies_true, if_true, if_false, reduceIte, reduceCtorEq, Nat.reduceEqDiff, Nat.reduceAdd, Nat.reduceLT, ↓us_xslices_Min_string_string, r_xslices_Min_string_string, hltI, hltJ, hq1.facts, a1]
    have emin : (if Op.bytesLess (minL l (k + 1)) (l.getD (k + 1) []) = true ∨ minL l (k + 1) = l.getD (k + 1) [] then minL l (k + 1) else l.getD (k + 1) []) = minL l (k + 1 + 1) := by
      rw [hst, less_lt]
      by_cases hb : l.getD (k + 1) [] < minL l (k + 1)
      · have h1 : ¬ minL l (k + 1) < l.getD (k + 1) [] := List.not_lt.2 (List.le_of_lt hb)
        have h2 : ¬ minL l (k + 1) = l.getD (k + 1) [] := fun e => by rw [e] at hb; exact List.lt_irrefl _ hb
        rw [if_pos hb, if_neg (fun hh => hh.elim (fun e => h1 (by simpa using e)) h2)]
      · rcases List.le_iff_lt_or_eq.1 (List.not_lt.1 hb) with h1 | h1
        · rw [if_neg hb, if_pos (.inl (by simpa using h1))]
        · rw [if_neg hb, if_pos (.inr h1)]
    refine ⟨by omega, inR_i64 (by omega), UpTo.next (by omega) ⟨by rw [emin]; first | rfl | (simp; done) | (simp; omega), by first | exact hx1 | exact dr hx1⟩⟩
  · obtain rfl : k = l.length - 1 := by omega
    have hltI : ¬ ((l.length - 1 + 1 : Nat) : Int) < l.length := by omega
    simp only [↓vsd, vsn, gW, qd, qv, ev, pick, argE, zipE, ne_eq, eq_self, forall_const, implies_true, if_true, if_false, reduceIte, reduceCtorEq, Nat.reduceEqDiff, Nat.reduceAdd, Nat.reduceLT, ↓us_xslices_Min_string_string, r_xslices_Min_string_string, hltI, hq1.facts]
    exact ⟨hx1, by rw [minL, show l.length - 1 + 1 = l.length by omega, List.take_length]⟩
/-- A group and rows of its stage. -/
def CinOk (G l : List Bs) : Prop := (IsRows G ∧ Rise G ∧ GrpL G) ∧ AreRows (stgL G) l
instance (G l : List Bs) : Decidable (CinOk G l) := by unfold CinOk IsRows; infer_instance
def cinV (G l : List Bs) : List Bs := if CinOk G l then cosetsL G l else []
theorem take_map {f : Bs → Bs} {l : List Bs} {i : Nat} (h : i < l.length) : (l.take (i + 1)).map f = (l.take i).map f ++ [f (l.getD i [])] := by
  rw [List.take_add_one, List.getElem?_eq_getElem h, List.getD_eq_getElem?_getD, List.getElem?_eq_getElem h, List.map_append]; rfl
theorem iCosetsIn_ok (v u : Value) (G l : List Bs) (hG : G.length ≤ 1000000000) (hl : l.length ≤ 1000000000) (w : World) (h : Sq fS 1 w v G) (h' : Sq fS 1 w u l) : Fn 104 [v, u] w (fun x w' => ∃ y, x = .tuple ⟨[y, .bool (decide (CinOk G l))]⟩ ∧ Own fS 1 9 w.heap.size w' y (cinV G l)) := by
  have hno : ¬ CinOk G l → ∀ w', ∃ y, Value.tuple ⟨[.slice none 0 0, .bool false]⟩ = .tuple ⟨[y, .bool (decide (CinOk G l))]⟩ ∧ Own fS 1 9 w.heap.size w' y (cinV G l) := fun hn w' =>
    ⟨_, by rw [decide_eq_false hn], by rw [cinV, if_neg hn]; exact Own.nil fS_len⟩
  (refine callsV_of mix Try.func104 c_iCosetsIn ?_; simp only [↓vsd, vsn, gW, qd, qv, ev, pick, argE, zipE, ne_eq, eq_self, forall_const, implies_true, if_true, if_false, reduceIte, reduceCtorEq, Nat.reduceEqDiff, Nat.reduceAdd, Nat.reduceLT, ↓us_iCosetsIn, r_iCosetsIn])
  refine m_call (iGoodRows_ok v G hG _ h) ?_
  rintro _ w1 hx1 rfl
  by_cases hr : IsRows G
  · simp only [↓vsd, vsn, gW, qd, qv, ev, pick, argE, zipE, ne_eq, eq_self, forall_const, implies_true, if_true, if_false, reduceIte, reduceCtorEq, Nat.reduceEqDiff, Nat.reduceAdd, Nat.reduceLT, ↓us_iCosetsIn, r_iCosetsIn, hr]
    refine m_call (iisGroup_ok v G hr _ (by first | exact h.ext hx1 | exact h.ext (dr hx1))) ?_
    rintro _ w2 hx2 rfl
    have hx2 : Ext w1 w2 := by first | exact hx2 | exact ud hx2 | exact ud (ud hx2)
    have hx12 := hx1.trans hx2
    by_cases hg : RGrp G
    · have hpos := hg.2.1
      have hq2 := h.ext hx12
      have a2 := hq2.at0 [] hpos
      simp only [↓vsd, vsn, gW, qd, qv, ev, pick, argE, zipE, ne_eq, eq_self, forall_const, implies_true, if_true, if_false, reduceIte, reduceCtorEq, Nat.reduceEqDiff, Nat.reduceAdd, Nat.reduceLT, ↓us_iCosetsIn, r_iCosetsIn, hg, hq2.facts, a2]
      refine ⟨by omega, m_call (iareRowsOf_ok (stgL G) u l hl _ (by first | exact h'.ext hx12 | exact h'.ext (dr hx12))) ?_⟩
      rintro _ w3 hx3 rfl
      have hx3 : Ext w2 w3 := by first | exact hx3 | exact ud hx3 | exact ud (ud hx3)
      have hx13 := hx12.trans hx3
      by_cases ha : AreRows (stgL G) l
      · have hok : CinOk G l := ⟨⟨hr, hg⟩, ha⟩
        have hl8 := ha.1.2
        have hG8 := hr.2
        simp only [↓vsd, vsn, gW, qd, qv, ev, pick, argE, zipE, ne_eq, eq_self, forall_const, implies_true, if_true, if_false, reduceIte, reduceCtorEq, Nat.reduceEqDiff, Nat.reduceAdd, Nat.reduceLT, ↓us_iCosetsIn, r_iCosetsIn, ha]
        refine m_bsl (by simp) ?_
        rintro b4 w4 hb4 hblk4 hx4 hs4
        have hx4 : Ext w3 w4 := by first | exact hx4 | exact ud hx4 | exact ud (ud hx4)
        have hx14 := hx13.trans hx4
        have hq4 := h'.ext hx14
        simp only [↓vsd, vsn, gW, qd, qv, ev, pick, argE, zipE, ne_eq, eq_self, forall_const, implies_true, if_true, if_false, reduceIte, reduceCtorEq, Nat.reduceEqDiff, Nat.reduceAdd, Nat.reduceLT, ↓us_iCosetsIn, r_iCosetsIn, hq4.facts]
        have hsz3 := hx13.size
        have ho4 : Own fS 1 9 w.heap.size w4 (.slice (some ⟨b4, 0, none⟩) 0 0) ([] : List Bs) := (Own.empty fS_len hblk4 (by omega)).to rfl
        refine m_upto l.length (fun i vs w' => ∃ x, vs = [x, .int .i64 i] ∧ Own fS 1 9 w.heap.size w' x ((l.take i).map (leastC G)) ∧ x ≠ .slice none 0 0 ∧ Ext w w') ⟨_, rfl, ho4, (by simp), hx14⟩ ?_
        rintro i vs w5 hi ⟨x, rfl, ho5, hne5, hx5⟩
        have hq5 := h'.ext hx5
        have hg5 := h.ext hx5
        by_cases hlt : i < l.length
        · have hltI : (i : Int) < l.length := by omega
          have hltJ : ¬ (l.length : Int) ≤ i := by omega
          have a5 := hq5.at1 [] hlt
          have hb := ha.n _ (getD_mem [] hlt)
          have hsn := take_map (f := leastC G) hlt
          generalize l.getD i [] = r at *
          simp only [↓vsd, vsn, gW, qd, qv, ev, pick, argE, zipE, ne_eq, eq_self, forall_const, implies_true, if_true, if_false, reduceIte, reduceCtorEq, Nat.reduceEqDiff, Nat.reduceAdd, Nat.reduceLT, ↓us_iCosetsIn, r_iCosetsIn, hltI, hltJ, hq5.facts, a5]
          refine ⟨by omega, m_call (ileftTimes_okp (stgL G) r v G hb.2 hr.n (by omega) _ (by first | exact hg5 | exact hg5.ext (dr (Ext.refl _)))) ?_⟩
          rintro y w6 hx6 ho6
          have hx6 : Ext w5 w6 := by first | exact hx6 | exact ud hx6 | exact ud (ud hx6)
          simp only [↓vsd, vsn, gW, qd, qv, ev, pick, argE, zipE, ne_eq, eq_self, forall_const, implies_true, if_true, if_false, reduceIte, reduceCtorEq, Nat.reduceEqDiff, Nat.reduceAdd, Nat.reduceLT, ↓us_iCosetsIn, r_iCosetsIn]
          refine m_call (xslices_Min_string_string_ok y _ (by rw [List.length_map]; exact hpos) (by rw [List.length_map]; omega) _ ho6.sq) ?_
          rintro _ w7 hx7 rfl
          have hx7 : Ext w6 w7 := by first | exact hx7 | exact ud hx7 | exact ud (ud hx7)
          simp only [↓vsd, vsn, gW, qd, qv, ev, pick, argE, zipE, ne_eq, eq_self, forall_const, implies_true, if_true, if_false, reduceIte, reduceCtorEq, Nat.reduceEqDiff, Nat.reduceAdd, Nat.reduceLT, ↓us_iCosetsIn, r_iCosetsIn]
          refine m_bsl (one_el rfl) ?_
          rintro b8 w8 hb8 hblk8 hx8 hs8
          have hx8 : Ext w7 w8 := by first | exact hx8 | exact ud hx8 | exact ud (ud hx8)
          simp only [↓vsd, vsn, gW, qd, qv, ev, pick, argE, zipE, ne_eq, eq_self, forall_const, implies_true, if_true, if_false, reduceIte, reduceCtorEq, Nat.reduceEqDiff, Nat.reduceAdd, Nat.reduceLT, ↓us_iCosetsIn, r_iCosetsIn]
          have hx58 := (hx6.trans hx7).trans hx8
          refine m_app2 (ho5.ext hx58) (Sq.one fS_len hblk8 rfl) fS_one (by decide) (by rw [List.length_map, List.length_take, List.length_singleton]; omega) (by decide) (hx5.trans hx58).size ?_
          rintro x9 w9 ho9 hg9 hn9
          have hx9 := (ho5.ext hx58).grown (hx5.trans hx58) (Nat.le_refl _) hg9
          simp only [↓vsd, vsn, gW, qd, qv, ev, pick, argE, zipE, ne_eq, eq_self, forall_const, implies_true, if_true, if_false, reduceIte, reduceCtorEq, Nat.reduceEqDiff, Nat.reduceAdd, Nat.reduceLT, ↓us_iCosetsIn, r_iCosetsIn]
          exact ⟨inR_i64 (by omega), UpTo.next hlt ⟨x9, rfl, ho9.to hsn.symm, own_ne ho9 (by simp), hx9⟩⟩
        · obtain rfl : i = l.length := by omega
          have hltI : ¬ (l.length : Int) < l.length := by omega
          rw [List.take_length] at ho5
          simp only [↓vsd, vsn, gW, qd, qv, ev, pick, argE, zipE, ne_eq, eq_self, forall_const, implies_true, if_true, if_false, reduceIte, reduceCtorEq, Nat.reduceEqDiff, Nat.reduceAdd, Nat.reduceLT, ↓us_iCosetsIn, r_iCosetsIn, hltI]
          refine m_callw (by first | exact .inl rfl | exact .inr rfl) (xslices_Sort_string_string_ok x _ (by rw [List.length_map]; omega) hne5 _ ho5) ?_
          rintro _ w6 ⟨ho6, hg6⟩
          have hx6 := ho5.grown hx5 (Nat.le_refl _) hg6
          simp only [↓vsd, vsn, gW, qd, qv, ev, pick, argE, zipE, ne_eq, eq_self, forall_const, implies_true, if_true, if_false, reduceIte, reduceCtorEq, Nat.reduceEqDiff, Nat.reduceAdd, Nat.reduceLT, ↓us_iCosetsIn, r_iCosetsIn]
          refine m_callw (by first | exact .inl rfl | exact .inr rfl) (xslices_Compact_string_string_ok x (srt (l.map (leastC G))) (by rw [srt_len, List.length_map]; omega) hne5 _ (by first | exact ho6 | exact ho6.ext (dr (Ext.refl _)))) ?_
          rintro y w7 ⟨ho7, hg7⟩
          have hx7 : Ext w w7 := by first | exact ho6.grown hx6 (Nat.le_refl _) hg7 | exact ho6.grown hx6 (Nat.le_refl _) (gud hg7)
          simp only [↓vsd, vsn, gW, qd, qv, ev, pick, argE, zipE, ne_eq, eq_self, forall_const, implies_true, if_true, if_false, reduceIte, reduceCtorEq, Nat.reduceEqDiff, Nat.reduceAdd, Nat.reduceLT, ↓us_iCosetsIn, r_iCosetsIn]
          exact ⟨hx7, _, by rw [decide_eq_true hok], by rw [cinV, if_pos hok]; exact ho7⟩
      · simp only [↓vsd, vsn, gW, qd, qv, ev, pick, argE, zipE, ne_eq, eq_self, forall_const, implies_true, if_true, if_false, reduceIte, reduceCtorEq, Nat.reduceEqDiff, Nat.reduceAdd, Nat.reduceLT, ↓us_iCosetsIn, r_iCosetsIn, ha]
        exact ⟨hx13, hno (fun hh => ha hh.2) _⟩
    · simp only [↓vsd, vsn, gW, qd, qv, ev, pick, argE, zipE, ne_eq, eq_self, forall_const, implies_true, if_true, if_false, reduceIte, reduceCtorEq, Nat.reduceEqDiff, Nat.reduceAdd, Nat.reduceLT, ↓us_iCosetsIn, r_iCosetsIn, hg]
      exact ⟨hx12, hno (fun hh => hg hh.1.2) _⟩
  · simp only [↓vsd, vsn, gW, qd, qv, ev, pick, argE, zipE, ne_eq, eq_self, forall_const, implies_true, if_true, if_false, reduceIte, reduceCtorEq, Nat.reduceEqDiff, Nat.reduceAdd, Nat.reduceLT, ↓us_iCosetsIn, r_iCosetsIn, hr]
    exact ⟨hx1, hno (fun hh => hr hh.1.1) _⟩
theorem uq_neighbour (l : List Bs) {k : Nat} (hk : k < l.length) : uqL [] (l.take (k + 1)) = if (uqL [] (l.take k)).getLast? = some (l.getD k []) then uqL [] (l.take k) else uqL [] (l.take k) ++ [l.getD k []] := by
  rw [List.take_add_one, List.getElem?_eq_getElem hk, List.getD_eq_getElem?_getD, List.getElem?_eq_getElem hk]
  show uqL [] (l.take k ++ [l[k]]) = _
  rw [uqL_snoc]
  simp
theorem last_get {L : List Bs} (h : 0 < L.length) : L.getLast? = some (L.getD (L.length - 1) []) := by
  rw [List.getLast?_eq_getElem?, List.getD_eq_getElem?_getD, List.getElem?_eq_getElem (by omega)]; rfl
theorem sCosetsIn_ok (v u : Value) (G l : List Bs) (hG : G.length ≤ 1000000000) (hl : l.length ≤ 1000000000) (w : World) (h : Sq fS 1 w v G) (h' : Sq fS 1 w u l) : Fn 106 [v, u] w (fun x w' => ∃ y, x = .tuple ⟨[y, .bool (decide (CinOk G l))]⟩ ∧ Own fS 1 9 w.heap.size w' y (cinV G l)) := by
  have hno : ¬ CinOk G l → ∀ w', ∃ y, Value.tuple ⟨[.slice none 0 0, .bool false]⟩ = .tuple ⟨[y, .bool (decide (CinOk G l))]⟩ ∧ Own fS 1 9 w.heap.size w' y (cinV G l) := fun hn w' =>
    ⟨_, by rw [decide_eq_false hn], by rw [cinV, if_neg hn]; exact Own.nil fS_len⟩
  (refine callsV_of mix Try.func106 c_sCosetsIn ?_; simp only [↓vsd, vsn, gW, qd, qv, ev, pick, argE, zipE, ne_eq, eq_self, forall_const, implies_true, if_true, if_false, reduceIte, reduceCtorEq, Nat.reduceEqDiff, Nat.reduceAdd, Nat.reduceLT, ↓us_sCosetsIn, r_sCosetsIn])
  refine m_call (sl6Rising_ok v G hG _ h) ?_
  rintro _ w1 hx1 rfl
  have hx1 : Ext w w1 := by first | exact hx1 | exact ud hx1 | exact ud (ud hx1)
  by_cases hr : Rise G ∧ IsRows G
  · simp only [↓vsd, vsn, gW, qd, qv, ev, pick, argE, zipE, ne_eq, eq_self, forall_const, implies_true, if_true, if_false, reduceIte, reduceCtorEq, Nat.reduceEqDiff, Nat.reduceAdd, Nat.reduceLT, ↓us_sCosetsIn, r_sCosetsIn, hr]
    refine m_call (sl6Group_ok v G hr.2 _ (by first | exact h.ext hx1 | exact h.ext (dr hx1))) ?_
    rintro _ w2 hx2 rfl
    have hx2 : Ext w1 w2 := by first | exact hx2 | exact ud hx2 | exact ud (ud hx2)
    have hx12 := hx1.trans hx2
    by_cases hg : GrpL G
    · have hpos := hg.1
      simp only [↓vsd, vsn, gW, qd, qv, ev, pick, argE, zipE, ne_eq, eq_self, forall_const, implies_true, if_true, if_false, reduceIte, reduceCtorEq, Nat.reduceEqDiff, Nat.reduceAdd, Nat.reduceLT, ↓us_sCosetsIn, r_sCosetsIn, hg]
      refine m_call (sl6Rows_ok u l hl _ (by first | exact h'.ext hx12 | exact h'.ext (dr hx12))) ?_
      rintro _ w3 hx3 rfl
      have hx3 : Ext w2 w3 := by first | exact hx3 | exact ud hx3 | exact ud (ud hx3)
      have hx13 := hx12.trans hx3
      have hq3 := h.ext hx13
      have hl3 := h'.ext hx13
      have a3 := h.at0 [] hpos
      have rest : AreRows (stgL G) l → False ∨ True := fun _ => .inr trivial
      by_cases ha : AreRows (stgL G) l
      · have hok : CinOk G l := ⟨⟨hr.2, hr.1, hg⟩, ha⟩
        have hl8 := ha.1.2
        have hG8 := hr.2.2
        have hcond : l.length = 0 ∨ (0 < l.length ∧ (l.getD 0 []).length = (G.getD 0 []).length) := by
          rcases Nat.eq_zero_or_pos l.length with h0 | h0
          · exact .inl h0
          · refine .inr ⟨h0, ?_⟩
            have := (ha.n _ (getD_mem [] h0)).2
            exact this
        have hrows := ha.1
        rcases hcond with h0 | ⟨h0, hst⟩
        · have h0I : ¬ (0 : Int) < l.length := by omega
          simp only [↓vsd, vsn, gW, qd, qv, ev, pick, argE, zipE, ne_eq, eq_self, forall_const, implies_true, if_true, if_false, reduceIte, reduceCtorEq, Nat.reduceEqDiff, Nat.reduceAdd, Nat.reduceLT, ↓us_sCosetsIn, r_sCosetsIn, hrows, hl3.facts, h0I]
          refine m_upto l.length (fun i vs w' => ∃ x, vs = [x, .int .i64 i] ∧ Own fS 1 9 w.heap.size w' x ((l.take i).map (leastC G)) ∧ Ext w w') ⟨_, rfl, Own.nil fS_len, by first | exact hx13 | exact dr hx13⟩ ?_
          rintro i vs w5 hi ⟨x, rfl, ho5, hx5⟩
          have hq5 := h'.ext hx5
          have hg5 := h.ext hx5
          by_cases hlt : i < l.length
          · have hltI : (i : Int) < l.length := by omega
            have hltJ : ¬ (l.length : Int) ≤ i := by omega
            have a5 := hq5.at1 [] hlt
            have hb := ha.n _ (getD_mem [] hlt)
            have hsn := take_map (f := leastC G) hlt
            generalize l.getD i [] = r at *
            simp only [↓vsd, vsn, gW, qd, qv, ev, pick, argE, zipE, ne_eq, eq_self, forall_const, implies_true, if_true, if_false, reduceIte, reduceCtorEq, Nat.reduceEqDiff, Nat.reduceAdd, Nat.reduceLT, ↓us_sCosetsIn, r_sCosetsIn, hltI, hltJ, hq5.facts, a5]
            refine ⟨by omega, m_call (sl6Left_ok (stgL G) r v G hb.2 hr.2.n (by omega) _ (by first | exact hg5 | exact hg5.ext (dr (Ext.refl _)))) ?_⟩
            rintro y w6 hx6 ho6
            have hx6 : Ext w5 w6 := by first | exact hx6 | exact ud hx6 | exact ud (ud hx6)
            simp only [↓vsd, vsn, gW, qd, qv, ev, pick, argE, zipE, ne_eq, eq_self, forall_const, implies_true, if_true, if_false, reduceIte, reduceCtorEq, Nat.reduceEqDiff, Nat.reduceAdd, Nat.reduceLT, ↓us_sCosetsIn, r_sCosetsIn]
            refine m_call (sl6Least_ok y _ (by rw [List.length_map]; exact hpos) (by rw [List.length_map]; omega) _ ho6.sq) ?_
            rintro _ w7 hx7 rfl
            have hx7 : Ext w6 w7 := by first | exact hx7 | exact ud hx7 | exact ud (ud hx7)
            simp only [↓vsd, vsn, gW, qd, qv, ev, pick, argE, zipE, ne_eq, eq_self, forall_const, implies_true, if_true, if_false, reduceIte, reduceCtorEq, Nat.reduceEqDiff, Nat.reduceAdd, Nat.reduceLT, ↓us_sCosetsIn, r_sCosetsIn]
            refine m_bsl (one_el rfl) ?_
            rintro b8 w8 hb8 hblk8 hx8 hs8
            have hx8 : Ext w7 w8 := by first | exact hx8 | exact ud hx8 | exact ud (ud hx8)
            simp only [↓vsd, vsn, gW, qd, qv, ev, pick, argE, zipE, ne_eq, eq_self, forall_const, implies_true, if_true, if_false, reduceIte, reduceCtorEq, Nat.reduceEqDiff, Nat.reduceAdd, Nat.reduceLT, ↓us_sCosetsIn, r_sCosetsIn]
            have hx58 := (hx6.trans hx7).trans hx8
            refine m_app (ho5.ext hx58) (Sq.one fS_len hblk8 rfl) fS_one (by decide) (by rw [List.length_map, List.length_take, List.length_singleton]; omega) (by decide) (hx5.trans hx58).size ?_
            rintro x9 w9 ho9 hg9
            have hx9 := (ho5.ext hx58).grown (hx5.trans hx58) (Nat.le_refl _) hg9
            simp only [↓vsd, vsn, gW, qd, qv, ev, pick, argE, zipE, ne_eq, eq_self, forall_const, implies_true, if_true, if_false, reduceIte, reduceCtorEq, Nat.reduceEqDiff, Nat.reduceAdd, Nat.reduceLT, ↓us_sCosetsIn, r_sCosetsIn]
            exact ⟨inR_i64 (by omega), UpTo.next hlt ⟨x9, rfl, ho9.to hsn.symm, hx9⟩⟩
          · obtain rfl : i = l.length := by omega
            have hltI : ¬ (l.length : Int) < l.length := by omega
            rw [List.take_length] at ho5
            have hml : (l.map (leastC G)).length = l.length := List.length_map ..
            simp only [↓vsd, vsn, gW, qd, qv, ev, pick, argE, zipE, ne_eq, eq_self, forall_const, implies_true, if_true, if_false, reduceIte, reduceCtorEq, Nat.reduceEqDiff, Nat.reduceAdd, Nat.reduceLT, ↓us_sCosetsIn, r_sCosetsIn, hltI]
            refine m_call (sl6Sort_ok _ _ x (Nat.le_refl _) (by omega) _ ho5.sq) ?_
            rintro z w6 hx6 ho6
            have hx6 : Ext w5 w6 := by first | exact hx6 | exact ud hx6 | exact ud (ud hx6)
            have hx06 := hx5.trans hx6
            have hz6 := ho6.sq
            have hSl : (srt (l.map (leastC G))).length = l.length := by rw [srt_len, hml]
            have hcin : cinV G l = uqL [] (srt (l.map (leastC G))) := by rw [cinV, if_pos hok]; rfl
            generalize srt (l.map (leastC G)) = Sd at *
            simp only [↓vsd, vsn, gW, qd, qv, ev, pick, argE, zipE, ne_eq, eq_self, forall_const, implies_true, if_true, if_false, reduceIte, reduceCtorEq, Nat.reduceEqDiff, Nat.reduceAdd, Nat.reduceLT, ↓us_sCosetsIn, r_sCosetsIn, hz6.facts]
            refine m_upto Sd.length (fun k vs w' => ∃ y, vs = [y, .int .i64 k] ∧ Own fS 1 9 w6.heap.size w' y (uqL [] (Sd.take k)) ∧ Ext w6 w') ⟨_, rfl, by rw [List.take_zero]; exact Own.nil fS_len, Ext.refl _⟩ ?_
            rintro k vs w7 hk ⟨y, rfl, ho7, hx67⟩
            have hz7 := hz6.ext hx67
            by_cases hlk : k < Sd.length
            · have hlkI : (k : Int) < Sd.length := by omega
              have hlkJ : ¬ (Sd.length : Int) ≤ k := by omega
              have a7 := hz7.at1 [] hlk
              have hun := uq_neighbour Sd hlk
              have hle := uqL_len [] (Sd.take k)
              rw [List.length_take] at hle
              generalize hU : uqL [] (Sd.take k) = U at *
              generalize Sd.getD k [] = r at *
              by_cases hU0 : 0 < U.length
              · have hlast := last_get hU0
                have b7 := ho7.sq.at1 [] (i := U.length - 1) (by omega)
                have eI : (U.length : Int) - 1 = ((U.length - 1 : Nat) : Int) := by omega
                have hU0I : ¬ (U.length : Int) = 0 := by omega
                rw [hlast] at hun
                by_cases he : U.getD (U.length - 1) [] = r
                · rw [if_pos (by rw [he])] at hun
                  simp only [↓vsd, vsn, gW, qd, qv, ev, pick, argE, zipE, ne_eq, eq_self, forall_const, implies_true, if_true, if_false, reduceIte, reduceCtorEq, Nat.reduceEqDiff, Nat.reduceAdd, Nat.reduceLT, ↓us_sCosetsIn, r_sCosetsIn, hlkI, hlkJ, hz7.facts, a7, ho7.sq.facts, hU0I, eI, b7, he]
                  exact ⟨by omega, inR_i64 (by omega), by omega, inR_i64 (by omega), UpTo.next hlk ⟨y, rfl, ho7.to hun.symm, by first | exact hx67 | exact dr hx67⟩⟩
                · rw [if_neg (fun e => he (Option.some.inj e))] at hun
                  simp only [↓vsd, vsn, gW, qd, qv, ev, pick, argE, zipE, ne_eq, eq_self, forall_const, implies_true, if_true, if_false, reduceIte, reduceCtorEq, Nat.reduceEqDiff, Nat.reduceAdd, Nat.reduceLT, ↓us_sCosetsIn, r_sCosetsIn, hlkI, hlkJ, hz7.facts, a7, ho7.sq.facts, hU0I, eI, b7, he]
                  refine ⟨by omega, inR_i64 (by omega), by omega, m_bsl (one_el rfl) ?_⟩
                  rintro b8 w8 hb8 hblk8 hx8 hs8
                  have hx8 : Ext w7 w8 := by first | exact hx8 | exact ud hx8 | exact ud (ud hx8)
                  simp only [↓vsd, vsn, gW, qd, qv, ev, pick, argE, zipE, ne_eq, eq_self, forall_const, implies_true, if_true, if_false, reduceIte, reduceCtorEq, Nat.reduceEqDiff, Nat.reduceAdd, Nat.reduceLT, ↓us_sCosetsIn, r_sCosetsIn]
                  refine m_app (ho7.ext hx8) (Sq.one fS_len hblk8 rfl) fS_one (by decide) (by rw [List.length_singleton]; omega) (by decide) (hx67.trans hx8).size ?_
                  rintro x9 w9 ho9 hg9
                  have hx9 := (ho7.ext hx8).grown (hx67.trans hx8) (Nat.le_refl _) hg9
                  simp only [↓vsd, vsn, gW, qd, qv, ev, pick, argE, zipE, ne_eq, eq_self, forall_const, implies_true, if_true, if_false, reduceIte, reduceCtorEq, Nat.reduceEqDiff, Nat.reduceAdd, Nat.reduceLT, ↓us_sCosetsIn, r_sCosetsIn]
                  exact ⟨inR_i64 (by omega), UpTo.next hlk ⟨x9, rfl, ho9.to hun.symm, hx9⟩⟩
              · have hUn : U = [] := List.length_eq_zero_iff.1 (by omega)
                have hU0I : (U.length : Int) = 0 := by omega
                have hne : ¬ U.getLast? = some r := by rw [hUn]; simp
                rw [if_neg hne] at hun
                simp only [↓vsd, vsn, gW, qd, qv, ev, pick, argE, zipE, ne_eq, eq_self, forall_const, implies_true, if_true, if_false, reduceIte, reduceCtorEq, Nat.reduceEqDiff, Nat.reduceAdd, Nat.reduceLT, ↓us_sCosetsIn, r_sCosetsIn, hlkI, hlkJ, hz7.facts, a7, ho7.sq.facts, hU0I]
                refine ⟨by omega, m_bsl (one_el rfl) ?_⟩
                rintro b8 w8 hb8 hblk8 hx8 hs8
                have hx8 : Ext w7 w8 := by first | exact hx8 | exact ud hx8 | exact ud (ud hx8)
                simp only [↓vsd, vsn, gW, qd, qv, ev, pick, argE, zipE, ne_eq, eq_self, forall_const, implies_true, if_true, if_false, reduceIte, reduceCtorEq, Nat.reduceEqDiff, Nat.reduceAdd, Nat.reduceLT, ↓us_sCosetsIn, r_sCosetsIn]
                refine m_app (ho7.ext hx8) (Sq.one fS_len hblk8 rfl) fS_one (by decide) (by rw [List.length_singleton]; omega) (by decide) (hx67.trans hx8).size ?_
                rintro x9 w9 ho9 hg9
                have hx9 := (ho7.ext hx8).grown (hx67.trans hx8) (Nat.le_refl _) hg9
                simp only [↓vsd, vsn, gW, qd, qv, ev, pick, argE, zipE, ne_eq, eq_self, forall_const, implies_true, if_true, if_false, reduceIte, reduceCtorEq, Nat.reduceEqDiff, Nat.reduceAdd, Nat.reduceLT, ↓us_sCosetsIn, r_sCosetsIn]
                exact ⟨inR_i64 (by omega), UpTo.next hlk ⟨x9, rfl, ho9.to hun.symm, hx9⟩⟩
            · obtain rfl : k = Sd.length := by omega
              have hlkI : ¬ (Sd.length : Int) < Sd.length := by omega
              rw [List.take_length] at ho7
              simp only [↓vsd, vsn, gW, qd, qv, ev, pick, argE, zipE, ne_eq, eq_self, forall_const, implies_true, if_true, if_false, reduceIte, reduceCtorEq, Nat.reduceEqDiff, Nat.reduceAdd, Nat.reduceLT, ↓us_sCosetsIn, r_sCosetsIn, hlkI]
              exact ⟨hx06.trans hx67, _, by rw [decide_eq_true hok], by rw [hcin]; exact ho7.mono hx06.size⟩
        · have h0I : (0 : Int) < l.length := by omega
          have b3 := h'.at0 [] h0
          have hstI : ((l.getD 0 []).length : Int) = (G.getD 0 []).length := by omega
          simp only [↓vsd, vsn, gW, qd, qv, ev, pick, argE, zipE, ne_eq, eq_self, forall_const, implies_true, if_true, if_false, reduceIte, reduceCtorEq, Nat.reduceEqDiff, Nat.reduceAdd, Nat.reduceLT, ↓us_sCosetsIn, r_sCosetsIn, hrows, hl3.facts, hq3.facts, h0I, a3, b3, hstI]
          refine ⟨by omega, by omega, ?_⟩
          refine m_upto l.length (fun i vs w' => ∃ x, vs = [x, .int .i64 i] ∧ Own fS 1 9 w.heap.size w' x ((l.take i).map (leastC G)) ∧ Ext w w') ⟨_, rfl, Own.nil fS_len, by first | exact hx13 | exact dr hx13⟩ ?_
          rintro i vs w5 hi ⟨x, rfl, ho5, hx5⟩
          have hq5 := h'.ext hx5
          have hg5 := h.ext hx5
          by_cases hlt : i < l.length
          · have hltI : (i : Int) < l.length := by omega
            have hltJ : ¬ (l.length : Int) ≤ i := by omega
            have a5 := hq5.at1 [] hlt
            have hb := ha.n _ (getD_mem [] hlt)
            have hsn := take_map (f := leastC G) hlt
            generalize l.getD i [] = r at *
            simp only [↓vsd, vsn, gW, qd, qv, ev, pick, argE, zipE, ne_eq, eq_self, forall_const, implies_true, if_true, if_false, reduceIte, reduceCtorEq, Nat.reduceEqDiff, Nat.reduceAdd, Nat.reduceLT, ↓us_sCosetsIn, r_sCosetsIn, hltI, hltJ, hq5.facts, a5]
            refine ⟨by omega, m_call (sl6Left_ok (stgL G) r v G hb.2 hr.2.n (by omega) _ (by first | exact hg5 | exact hg5.ext (dr (Ext.refl _)))) ?_⟩
            rintro y w6 hx6 ho6
            have hx6 : Ext w5 w6 := by first | exact hx6 | exact ud hx6 | exact ud (ud hx6)
            simp only [↓vsd, vsn, gW, qd, qv, ev, pick, argE, zipE, ne_eq, eq_self, forall_const, implies_true, if_true, if_false, reduceIte, reduceCtorEq, Nat.reduceEqDiff, Nat.reduceAdd, Nat.reduceLT, ↓us_sCosetsIn, r_sCosetsIn]
            refine m_call (sl6Least_ok y _ (by rw [List.length_map]; exact hpos) (by rw [List.length_map]; omega) _ ho6.sq) ?_
            rintro _ w7 hx7 rfl
            have hx7 : Ext w6 w7 := by first | exact hx7 | exact ud hx7 | exact ud (ud hx7)
            simp only [↓vsd, vsn, gW, qd, qv, ev, pick, argE, zipE, ne_eq, eq_self, forall_const, implies_true, if_true, if_false, reduceIte, reduceCtorEq, Nat.reduceEqDiff, Nat.reduceAdd, Nat.reduceLT, ↓us_sCosetsIn, r_sCosetsIn]
            refine m_bsl (one_el rfl) ?_
            rintro b8 w8 hb8 hblk8 hx8 hs8
            have hx8 : Ext w7 w8 := by first | exact hx8 | exact ud hx8 | exact ud (ud hx8)
            simp only [↓vsd, vsn, gW, qd, qv, ev, pick, argE, zipE, ne_eq, eq_self, forall_const, implies_true, if_true, if_false, reduceIte, reduceCtorEq, Nat.reduceEqDiff, Nat.reduceAdd, Nat.reduceLT, ↓us_sCosetsIn, r_sCosetsIn]
            have hx58 := (hx6.trans hx7).trans hx8
            refine m_app (ho5.ext hx58) (Sq.one fS_len hblk8 rfl) fS_one (by decide) (by rw [List.length_map, List.length_take, List.length_singleton]; omega) (by decide) (hx5.trans hx58).size ?_
            rintro x9 w9 ho9 hg9
            have hx9 := (ho5.ext hx58).grown (hx5.trans hx58) (Nat.le_refl _) hg9
            simp only [↓vsd, vsn, gW, qd, qv, ev, pick, argE, zipE, ne_eq, eq_self, forall_const, implies_true, if_true, if_false, reduceIte, reduceCtorEq, Nat.reduceEqDiff, Nat.reduceAdd, Nat.reduceLT, ↓us_sCosetsIn, r_sCosetsIn]
            exact ⟨inR_i64 (by omega), UpTo.next hlt ⟨x9, rfl, ho9.to hsn.symm, hx9⟩⟩
          · obtain rfl : i = l.length := by omega
            have hltI : ¬ (l.length : Int) < l.length := by omega
            rw [List.take_length] at ho5
            have hml : (l.map (leastC G)).length = l.length := List.length_map ..
            simp only [↓vsd, vsn, gW, qd, qv, ev, pick, argE, zipE, ne_eq, eq_self, forall_const, implies_true, if_true, if_false, reduceIte, reduceCtorEq, Nat.reduceEqDiff, Nat.reduceAdd, Nat.reduceLT, ↓us_sCosetsIn, r_sCosetsIn, hltI]
            refine m_call (sl6Sort_ok _ _ x (Nat.le_refl _) (by omega) _ ho5.sq) ?_
            rintro z w6 hx6 ho6
            have hx6 : Ext w5 w6 := by first | exact hx6 | exact ud hx6 | exact ud (ud hx6)
            have hx06 := hx5.trans hx6
            have hz6 := ho6.sq
            have hSl : (srt (l.map (leastC G))).length = l.length := by rw [srt_len, hml]
            have hcin : cinV G l = uqL [] (srt (l.map (leastC G))) := by rw [cinV, if_pos hok]; rfl
            generalize srt (l.map (leastC G)) = Sd at *
            simp only [↓vsd, vsn, gW, qd, qv, ev, pick, argE, zipE, ne_eq, eq_self, forall_const, implies_true, if_true, if_false, reduceIte, reduceCtorEq, Nat.reduceEqDiff, Nat.reduceAdd, Nat.reduceLT, ↓us_sCosetsIn, r_sCosetsIn, hz6.facts]
            refine m_upto Sd.length (fun k vs w' => ∃ y, vs = [y, .int .i64 k] ∧ Own fS 1 9 w6.heap.size w' y (uqL [] (Sd.take k)) ∧ Ext w6 w') ⟨_, rfl, by rw [List.take_zero]; exact Own.nil fS_len, Ext.refl _⟩ ?_
            rintro k vs w7 hk ⟨y, rfl, ho7, hx67⟩
            have hz7 := hz6.ext hx67
            by_cases hlk : k < Sd.length
            · have hlkI : (k : Int) < Sd.length := by omega
              have hlkJ : ¬ (Sd.length : Int) ≤ k := by omega
              have a7 := hz7.at1 [] hlk
              have hun := uq_neighbour Sd hlk
              have hle := uqL_len [] (Sd.take k)
              rw [List.length_take] at hle
              generalize hU : uqL [] (Sd.take k) = U at *
              generalize Sd.getD k [] = r at *
              by_cases hU0 : 0 < U.length
              · have hlast := last_get hU0
                have b7 := ho7.sq.at1 [] (i := U.length - 1) (by omega)
                have eI : (U.length : Int) - 1 = ((U.length - 1 : Nat) : Int) := by omega
                have hU0I : ¬ (U.length : Int) = 0 := by omega
                rw [hlast] at hun
                by_cases he : U.getD (U.length - 1) [] = r
                · rw [if_pos (by rw [he])] at hun
                  simp only [↓vsd, vsn, gW, qd, qv, ev, pick, argE, zipE, ne_eq, eq_self, forall_const, implies_true, if_true, if_false, reduceIte, reduceCtorEq, Nat.reduceEqDiff, Nat.reduceAdd, Nat.reduceLT, ↓us_sCosetsIn, r_sCosetsIn, hlkI, hlkJ, hz7.facts, a7, ho7.sq.facts, hU0I, eI, b7, he]
                  exact ⟨by omega, inR_i64 (by omega), by omega, inR_i64 (by omega), UpTo.next hlk ⟨y, rfl, ho7.to hun.symm, by first | exact hx67 | exact dr hx67⟩⟩
                · rw [if_neg (fun e => he (Option.some.inj e))] at hun
                  simp only [↓vsd, vsn, gW, qd, qv, ev, pick, argE, zipE, ne_eq, eq_self, forall_const, implies_true, if_true, if_false, reduceIte, reduceCtorEq, Nat.reduceEqDiff, Nat.reduceAdd, Nat.reduceLT, ↓us_sCosetsIn, r_sCosetsIn, hlkI, hlkJ, hz7.facts, a7, ho7.sq.facts, hU0I, eI, b7, he]
                  refine ⟨by omega, inR_i64 (by omega), by omega, m_bsl (one_el rfl) ?_⟩
                  rintro b8 w8 hb8 hblk8 hx8 hs8
                  have hx8 : Ext w7 w8 := by first | exact hx8 | exact ud hx8 | exact ud (ud hx8)
                  simp only [↓vsd, vsn, gW, qd, qv, ev, pick, argE, zipE, ne_eq, eq_self, forall_const, implies_true, if_true, if_false, reduceIte, reduceCtorEq, Nat.reduceEqDiff, Nat.reduceAdd, Nat.reduceLT, ↓us_sCosetsIn, r_sCosetsIn]
                  refine m_app (ho7.ext hx8) (Sq.one fS_len hblk8 rfl) fS_one (by decide) (by rw [List.length_singleton]; omega) (by decide) (hx67.trans hx8).size ?_
                  rintro x9 w9 ho9 hg9
                  have hx9 := (ho7.ext hx8).grown (hx67.trans hx8) (Nat.le_refl _) hg9
                  simp only [↓vsd, vsn, gW, qd, qv, ev, pick, argE, zipE, ne_eq, eq_self, forall_const, implies_true, if_true, if_false, reduceIte, reduceCtorEq, Nat.reduceEqDiff, Nat.reduceAdd, Nat.reduceLT, ↓us_sCosetsIn, r_sCosetsIn]
                  exact ⟨inR_i64 (by omega), UpTo.next hlk ⟨x9, rfl, ho9.to hun.symm, hx9⟩⟩
              · have hUn : U = [] := List.length_eq_zero_iff.1 (by omega)
                have hU0I : (U.length : Int) = 0 := by omega
                have hne : ¬ U.getLast? = some r := by rw [hUn]; simp
                rw [if_neg hne] at hun
                simp only [↓vsd, vsn, gW, qd, qv, ev, pick, argE, zipE, ne_eq, eq_self, forall_const, implies_true, if_true, if_false, reduceIte, reduceCtorEq, Nat.reduceEqDiff, Nat.reduceAdd, Nat.reduceLT, ↓us_sCosetsIn, r_sCosetsIn, hlkI, hlkJ, hz7.facts, a7, ho7.sq.facts, hU0I]
                refine ⟨by omega, m_bsl (one_el rfl) ?_⟩
                rintro b8 w8 hb8 hblk8 hx8 hs8
                have hx8 : Ext w7 w8 := by first | exact hx8 | exact ud hx8 | exact ud (ud hx8)
                simp only [↓vsd, vsn, gW, qd, qv, ev, pick, argE, zipE, ne_eq, eq_self, forall_const, implies_true, if_true, if_false, reduceIte, reduceCtorEq, Nat.reduceEqDiff, Nat.reduceAdd, Nat.reduceLT, ↓us_sCosetsIn, r_sCosetsIn]
                refine m_app (ho7.ext hx8) (Sq.one fS_len hblk8 rfl) fS_one (by decide) (by rw [List.length_singleton]; omega) (by decide) (hx67.trans hx8).size ?_
                rintro x9 w9 ho9 hg9
                have hx9 := (ho7.ext hx8).grown (hx67.trans hx8) (Nat.le_refl _) hg9
                simp only [↓vsd, vsn, gW, qd, qv, ev, pick, argE, zipE, ne_eq, eq_self, forall_const, implies_true, if_true, if_false, reduceIte, reduceCtorEq, Nat.reduceEqDiff, Nat.reduceAdd, Nat.reduceLT, ↓us_sCosetsIn, r_sCosetsIn]
                exact ⟨inR_i64 (by omega), UpTo.next hlk ⟨x9, rfl, ho9.to hun.symm, hx9⟩⟩
            · obtain rfl : k = Sd.length := by omega
              have hlkI : ¬ (Sd.length : Int) < Sd.length := by omega
              rw [List.take_length] at ho7
              simp only [↓vsd, vsn, gW, qd, qv, ev, pick, argE, zipE, ne_eq, eq_self, forall_const, implies_true, if_true, if_false, reduceIte, reduceCtorEq, Nat.reduceEqDiff, Nat.reduceAdd, Nat.reduceLT, ↓us_sCosetsIn, r_sCosetsIn, hlkI]
              exact ⟨hx06.trans hx67, _, by rw [decide_eq_true hok], by rw [hcin]; exact ho7.mono hx06.size⟩
      · by_cases hrows : IsRows l
        · have h0 : 0 < l.length := by
            rcases Nat.eq_zero_or_pos l.length with h0 | h0
            · exact absurd ⟨hrows, .inl h0⟩ ha
            · exact h0
          have hne : ¬ ((l.getD 0 []).length : Int) = (G.getD 0 []).length := fun e => ha ⟨hrows, .inr e⟩
          have h0I : (0 : Int) < l.length := by omega
          have b3 := h'.at0 [] h0
          simp only [↓vsd, vsn, gW, qd, qv, ev, pick, argE, zipE, ne_eq, eq_self, forall_const, implies_true, if_true, if_false, reduceIte, reduceCtorEq, Nat.reduceEqDiff, Nat.reduceAdd, Nat.reduceLT, ↓us_sCosetsIn, r_sCosetsIn, hrows, hl3.facts, hq3.facts, h0I, a3, b3, hne]
          exact ⟨by omega, by omega, hx13, hno (fun hh => ha hh.2) _⟩
        · simp only [↓vsd, vsn, gW, qd, qv, ev, pick, argE, zipE, ne_eq, eq_self, forall_const, implies_true, if_true, if_false, reduceIte, reduceCtorEq, Nat.reduceEqDiff, Nat.reduceAdd, Nat.reduceLT, ↓us_sCosetsIn, r_sCosetsIn, hrows]
          exact ⟨hx13, hno (fun hh => ha hh.2) _⟩
    · simp only [↓vsd, vsn, gW, qd, qv, ev, pick, argE, zipE, ne_eq, eq_self, forall_const, implies_true, if_true, if_false, reduceIte, reduceCtorEq, Nat.reduceEqDiff, Nat.reduceAdd, Nat.reduceLT, ↓us_sCosetsIn, r_sCosetsIn, hg]
      exact ⟨hx12, hno (fun hh => hg hh.1.2.2) _⟩
  · simp only [↓vsd, vsn, gW, qd, qv, ev, pick, argE, zipE, ne_eq, eq_self, forall_const, implies_true, if_true, if_false, reduceIte, reduceCtorEq, Nat.reduceEqDiff, Nat.reduceAdd, Nat.reduceLT, ↓us_sCosetsIn, r_sCosetsIn, hr]
    exact ⟨hx1, hno (fun hh => hr ⟨hh.1.2.1, hh.1.1⟩) _⟩
end Go.Proofs.Ytnincmnkdjlndaa
